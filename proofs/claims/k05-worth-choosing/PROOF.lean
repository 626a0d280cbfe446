import PyProof.Rows.All
import Wide.All
import OpenK.AllK
import Wide.FinOn
import HandS.ForMost
import HandS.SortKw
import HandS.SortInts
import HandS.Conv
import HandS.IsInst
import KE.DataMinMax
import KE.SortData
import PySem.Challenge.RW_armorder_k05_whole_what_is_worth_choosin
set_option Elab.async false
set_option linter.all false
set_option maxRecDepth 100000
set_option maxHeartbeats 4000000

namespace Ag
open PySem PySem.Spec PyProof.Rows L2

/-! ### heaps: what stands, a new thing, a changed thing -/
theorem same_new {H : Hp} {p : Addr} {o : HO} (h : H p = none) : Same H (upd H p o) := fun b x e => by
  rw [upd_ne (ne_of_none e h)]
  exact e
theorem same_upd {G H : Hp} {p : Addr} {o : HO} (s : Same G H) (h : G p = none) : Same G (upd H p o) := fun b x e => by
  rw [upd_ne (ne_of_none e h)]
  exact s b x e
theorem same_sqt {K : PySem.W.Frag} {H H' : Hp} {a : Addr} {xs : List V} (e : Same H H') (h : SqT K H a xs) : SqT K H' a xs := by
  rcases h with (h | ⟨o, h⟩) | h
  · exact .inl (.inl (e _ _ h))
  · exact .inl (.inr ⟨o, e _ _ h⟩)
  · exact .inr h
mutual
theorem dp_same {K : PySem.W.Frag} {H H' : Hp} (e : Same H H') : ∀ {d : PyData} {v : V}, Dp K H v d → Dp K H' v d
  | .none, _, h => by cases h; exact .non
  | .bool _, _, h => by cases h; exact .bl _
  | .int _, _, h => by cases h; exact .int _
  | .str _, _, h => by cases h; exact .str _
  | .list _, _, h => by
    cases h with
    | lst hs ha => exact .lst (e.seq hs) (dpa_same e ha)
  | .tuple _, _, h => by
    cases h with
    | tup hs ha => exact .tup (same_sqt e hs) (dpa_same e ha)
  | .dict _, _, h => by cases h
theorem dpa_same {K : PySem.W.Frag} {H H' : Hp} (e : Same H H') : ∀ {ds : List PyData} {vs : List V}, DpAll K H vs ds → DpAll K H' vs ds
  | [], _, h => by cases h; exact .nil
  | _ :: _, _, h => by
    cases h with
    | cons h1 h2 => exact .cons (dp_same e h1) (dpa_same e h2)
end
/-- the heap less what stands at r -/
def wo (H : Hp) (r : Addr) : Hp := fun b => if b = r then none else H b
theorem wo_at {H : Hp} {r : Addr} : wo H r r = none := by unfold wo; rw [if_pos rfl]
theorem wo_ne {H : Hp} {r b : Addr} (h : b ≠ r) : wo H r b = H b := by unfold wo; rw [if_neg h]
theorem wo_sub {H : Hp} {r : Addr} : Same (wo H r) H := fun b o e => by
  by_cases h : b = r
  · rw [h, wo_at] at e
    cases e
  · rw [wo_ne h] at e
    exact e
theorem wo_mono {H H' : Hp} {r : Addr} (s : Same H H') : Same (wo H r) (wo H' r) := fun b o e => by
  by_cases h : b = r
  · rw [h, wo_at] at e
    cases e
  · rw [wo_ne h] at e
    rw [wo_ne h]
    exact s _ _ e
theorem into_wo {G H : Hp} {r : Addr} (s : Same G H) (h : G r = none) : Same G (wo H r) := fun b o e => by
  rw [wo_ne (ne_of_none e h)]
  exact s _ _ e
/-- what is new in H' -/
def nw (H H' : Hp) : Hp := fun b => match H b with
  | none => H' b
  | some _ => none
theorem nw_none {H H' : Hp} {b : Addr} (h : H b = none) : nw H H' b = H' b := by unfold nw; rw [h]
theorem nw_some {H H' : Hp} {b : Addr} {o : HO} (h : H b = some o) : nw H H' b = none := by unfold nw; rw [h]
theorem nw_of {H H' : Hp} {b : Addr} {o : HO} (h : nw H H' b = some o) : H b = none ∧ H' b = some o := by
  cases e : H b with
  | none => rw [nw_none e] at h; exact ⟨rfl, h⟩
  | some x => rw [nw_some e] at h; cases h
theorem nw_sub {H H' : Hp} : Same (nw H H') H' := fun b o e => (nw_of e).2
theorem nw_wo {H H' : Hp} {r : Addr} {o : HO} (h : H r = some o) : Same (nw H H') (wo H' r) := into_wo nw_sub (nw_some h)
theorem nw_into {G H H' : Hp} {r : Addr} (hr : ∃ o, H r = some o) : Same (nw H H') (wo H' r) := let ⟨_, h⟩ := hr; nw_wo h
/-- a later heap, the same beginning -/
theorem nw_later {H H1 H2 : Hp} (s : Same H1 H2) : Same (nw H H1) (nw H H2) := fun b o e => by
  obtain ⟨h1, h2⟩ := nw_of e
  rw [nw_none h1]
  exact s _ _ h2
/-- an earlier beginning -/
theorem nw_earlier {H H1 H2 : Hp} (s : Same H H1) : Same (nw H1 H2) (nw H H2) := fun b o e => by
  obtain ⟨h1, h2⟩ := nw_of e
  rw [nw_none (s.free h1)]
  exact h2
theorem nw_new {H H' : Hp} {p : Addr} {o : HO} (s : Same H H') (h : H' p = none) : nw H (upd H' p o) p = some o := by
  rw [nw_none (s.free h), upd_same]
theorem sqt_dp {K : PySem.W.Frag} {H : Hp} {a : Addr} {xs : List V} {ds : List PyData} (h : SqT K H a xs) (d : DpAll K H xs ds) : Dp K H (.ref a) (.tuple ds) := .tup h d

/-! ### ints, pairs, lists of them as data -/
theorem dpa_ints {K : PySem.W.Frag} {H : Hp} : ∀ ns : List Int, DpAll K H (ns.map V.int) (ns.map PyData.int)
  | [] => .nil
  | n :: r => .cons (.int n) (dpa_ints r)
theorem dpa_ints_inv {K : PySem.W.Frag} {H : Hp} : ∀ {ns : List Int} {vs : List V}, DpAll K H vs (ns.map PyData.int) → vs = ns.map V.int
  | [], _, h => by cases h; rfl
  | n :: r, _, h => by
    cases h with
    | cons h1 h2 =>
      cases h1
      rw [dpa_ints_inv h2]
      rfl
theorem dpa_len {K : PySem.W.Frag} {H : Hp} : ∀ {ds : List PyData} {vs : List V}, DpAll K H vs ds → vs.length = ds.length
  | [], _, h => by cases h; rfl
  | _ :: _, _, h => by
    cases h with
    | cons h1 h2 => simp only [List.length_cons, dpa_len h2]
theorem dpa_get {K : PySem.W.Frag} {H : Hp} : ∀ {ds : List PyData} {vs : List V} {i : Nat} {d : PyData}, DpAll K H vs ds → ds[i]? = some d → ∃ v, vs[i]? = some v ∧ Dp K H v d
  | [], _, _, _, _, e => by simp at e
  | _ :: _, _, 0, _, h, e => by
    cases h with
    | cons h1 h2 => simp at e; subst e; exact ⟨_, rfl, h1⟩
  | _ :: _, _, i + 1, _, h, e => by
    cases h with
    | cons h1 h2 =>
      obtain ⟨v, a, b⟩ := dpa_get (i := i) h2 (by simpa using e)
      exact ⟨v, by simpa using a, b⟩
theorem dpa_get' {K : PySem.W.Frag} {H : Hp} : ∀ {ds : List PyData} {vs : List V} {i : Nat} {v : V}, DpAll K H vs ds → vs[i]? = some v → ∃ d, ds[i]? = some d ∧ Dp K H v d
  | [], _, _, _, h, e => by cases h; simp at e
  | _ :: _, _, 0, _, h, e => by
    cases h with
    | cons h1 h2 => simp at e; subst e; exact ⟨_, rfl, h1⟩
  | _ :: _, _, i + 1, _, h, e => by
    cases h with
    | cons h1 h2 =>
      obtain ⟨v, a, b⟩ := dpa_get' (i := i) h2 (by simpa using e)
      exact ⟨v, by simpa using a, b⟩
theorem dpa_snoc {K : PySem.W.Frag} {H : Hp} : ∀ {ds : List PyData} {vs : List V} {d : PyData} {v : V}, DpAll K H vs ds → Dp K H v d → DpAll K H (vs ++ [v]) (ds ++ [d])
  | [], _, _, _, h, e => by cases h; exact .cons e .nil
  | _ :: _, _, _, _, h, e => by
    cases h with
    | cons h1 h2 => exact .cons h1 (dpa_snoc h2 e)
theorem dp_list {K : PySem.W.Frag} {H : Hp} {v : V} {ds : List PyData} (h : Dp K H v (.list ds)) : ∃ a xs, v = .ref a ∧ SqL K H a xs ∧ DpAll K H xs ds := by
  cases h with
  | lst hs ha => exact ⟨_, _, rfl, hs, ha⟩
theorem dp_tuple {K : PySem.W.Frag} {H : Hp} {v : V} {ds : List PyData} (h : Dp K H v (.tuple ds)) : ∃ a xs, v = .ref a ∧ SqT K H a xs ∧ DpAll K H xs ds := by
  cases h with
  | tup hs ha => exact ⟨_, _, rfl, hs, ha⟩
theorem dp_ints {K : PySem.W.Frag} {H : Hp} {v : V} {ns : List Int} (h : Dp K H v (.list (ns.map PyData.int))) : ∃ a, v = .ref a ∧ SqL K H a (ns.map V.int) := by
  obtain ⟨a, xs, e, hs, ha⟩ := dp_list h
  rw [dpa_ints_inv ha] at hs
  exact ⟨a, e, hs⟩
theorem dp_tints {K : PySem.W.Frag} {H : Hp} {v : V} {ns : List Int} (h : Dp K H v (.tuple (ns.map PyData.int))) : ∃ a, v = .ref a ∧ SqT K H a (ns.map V.int) := by
  obtain ⟨a, xs, e, hs, ha⟩ := dp_tuple h
  rw [dpa_ints_inv ha] at hs
  exact ⟨a, e, hs⟩
theorem dp_ints_of {K : PySem.W.Frag} {H : Hp} {a : Addr} {ns : List Int} (h : SqL K H a (ns.map V.int)) : Dp K H (.ref a) (.list (ns.map PyData.int)) := .lst h (dpa_ints ns)
theorem dp_tints_of {K : PySem.W.Frag} {H : Hp} {a : Addr} {ns : List Int} (h : SqT K H a (ns.map V.int)) : Dp K H (.ref a) (.tuple (ns.map PyData.int)) := .tup h (dpa_ints ns)

theorem eqv_nil (ns : List Int) : PyData.eqv (.list (ns.map PyData.int)) (.list []) = decide (ns = []) := by
  cases ns with
  | nil => simp [PyData.eqv, PyData.eqvAll]
  | cons n r => simp [PyData.eqv, PyData.eqvAll]

/-! ### disks and asks -/
/-- (come, track, sector) -/
abbrev Ask := Int × Int × Int
def dAsk (a : Ask) : PyData := .tuple ([a.1, a.2.1, a.2.2].map PyData.int)
def dAsks (l : List Ask) : PyData := .list (l.map dAsk)
structure Disk where
  tr : Int
  sc : Int
  pa : Int
  he : Int
def dDisk (d : Disk) : PyData := .tuple ([d.tr, d.sc, d.pa, d.he].map PyData.int)
structure GoodDisk (d : Disk) : Prop where
  t1 : 1 ≤ d.tr
  t2 : d.tr ≤ 64
  s1 : 1 ≤ d.sc
  s2 : d.sc ≤ 16
  p1 : 1 ≤ d.pa
  p2 : d.pa ≤ 4
  h1 : 0 ≤ d.he
  h2 : d.he < d.tr
structure GoodAsk (d : Disk) (a : Ask) : Prop where
  c1 : 0 ≤ a.1
  c2 : a.1 ≤ 999
  t1 : 0 ≤ a.2.1
  t2 : a.2.1 < d.tr
  s1 : 0 ≤ a.2.2
  s2 : a.2.2 < d.sc
structure GoodAsks (d : Disk) (l : List Ask) : Prop where
  len : l.length ≤ 40
  all : ∀ a ∈ l, GoodAsk d a
theorem GoodAsks.at {d : Disk} {l : List Ask} (g : GoodAsks d l) {i : Nat} {a : Ask} (h : l[i]? = some a) : GoodAsk d a := g.all a (List.mem_of_getElem? h)
theorem dp_asks {K : PySem.W.Frag} {H : Hp} {v : V} {l : List Ask} (h : Dp K H v (dAsks l)) : ∃ a xs, v = .ref a ∧ SqL K H a xs ∧ xs.length = l.length ∧
    ∀ (i : Nat) (k : Ask), l[i]? = some k → ∃ p, xs[i]? = some (.ref p) ∧ SqT K H p [.int k.1, .int k.2.1, .int k.2.2] ∧ Dp K H (.ref p) (dAsk k) := by
  obtain ⟨a, xs, e, hs, ha⟩ := dp_list h
  refine ⟨a, xs, e, hs, by rw [dpa_len ha, List.length_map], fun i k hk => ?_⟩
  obtain ⟨v, hv, hd⟩ := dpa_get (i := i) (d := dAsk k) ha (by rw [List.getElem?_map, hk]; rfl)
  obtain ⟨p, rfl, ht⟩ := dp_tints hd
  exact ⟨p, hv, ht, hd⟩
theorem dp_disk {K : PySem.W.Frag} {H : Hp} {v : V} {d : Disk} (h : Dp K H v (dDisk d)) : ∃ a, v = .ref a ∧ SqT K H a [.int d.tr, .int d.sc, .int d.pa, .int d.he] := dp_tints h

/-! ### all but what stands at r stays -/
def SameBut (r : Addr) (H H' : Hp) : Prop := ∀ b o, b ≠ r → H b = some o → H' b = some o
theorem sb_refl {r : Addr} {H : Hp} : SameBut r H H := fun _ _ _ e => e
theorem sb_of {r : Addr} {H H' : Hp} (s : Same H H') : SameBut r H H' := fun b o _ e => s b o e
theorem sb_trans {r : Addr} {H H1 H2 : Hp} (a : SameBut r H H1) (b : SameBut r H1 H2) : SameBut r H H2 := fun c o n e => b c o n (a c o n e)
theorem sb_upd {r : Addr} {H H' : Hp} {o : HO} (s : SameBut r H H') : SameBut r H (upd H' r o) := fun b x n e => by
  rw [upd_ne n]
  exact s b x n e
theorem sb_new {r p : Addr} {H H' : Hp} {o : HO} (s : SameBut r H H') (h : H' p = none) : SameBut r H (upd H' p o) := fun b x n e => by
  rw [upd_ne (ne_of_none (s b x n e) h)]
  exact s b x n e
theorem sb_old {r p : Addr} {H H' : Hp} {o : HO} (s : SameBut r H H') (h : H p = none) : SameBut r H (upd H' p o) := fun b x n e => by
  rw [upd_ne (ne_of_none e h)]
  exact s b x n e
theorem sb_wo {r : Addr} {H H' : Hp} (s : SameBut r H H') : Same (wo H r) (wo H' r) := fun b o e => by
  by_cases h : b = r
  · rw [h, wo_at] at e
    cases e
  · rw [wo_ne h] at e
    rw [wo_ne h]
    exact s _ _ h e
theorem sb_free {r p : Addr} {H H' : Hp} (s : SameBut r H H') (n : p ≠ r) (h : H' p = none) : H p = none := by
  cases e : H p with
  | none => rfl
  | some o =>
    rw [s p o n e] at h
    cases h
theorem wo2_step {r F : Addr} {H H' : Hp} (s : ∀ b o, b ≠ r → b ≠ F → H b = some o → H' b = some o) : Same (wo (wo H r) F) (wo (wo H' r) F) := fun b o e => by
  have n1 : b ≠ F := fun z => by
    rw [z, wo_at] at e
    cases e
  rw [wo_ne n1] at e
  have n2 : b ≠ r := fun z => by
    rw [z, wo_at] at e
    cases e
  rw [wo_ne n2] at e
  rw [wo_ne n1, wo_ne n2]
  exact s b o n2 n1 e
/-- what is new in H', besides F -/
def fr (H H' : Hp) (F : Addr) : Hp := wo (nw H H') F
theorem fr_step {H H1 H2 : Hp} {F : Addr} (s : SameBut F H1 H2) : Same (fr H H1 F) (fr H H2 F) := fun b o e => by
  have n : b ≠ F := fun z => by
    unfold fr at e
    rw [z, wo_at] at e
    cases e
  unfold fr at e ⊢
  rw [wo_ne n] at e
  rw [wo_ne n]
  obtain ⟨h1, h2⟩ := nw_of e
  rw [nw_none h1]
  exact s _ _ n h2
theorem fr_at {H H' : Hp} {F p : Addr} {o : HO} (n : p ≠ F) (h : H p = none) (e : H' p = some o) : fr H H' F p = some o := by
  unfold fr
  rw [wo_ne n, nw_none h]
  exact e
theorem fr_nw {H H' : Hp} {F : Addr} : Same (fr H H' F) (nw H H') := wo_sub
theorem fr_sub {H H' : Hp} {F : Addr} : Same (fr H H' F) H' := wo_sub.trans nw_sub

/-- what is new in H', besides F and W -/
def fr2 (H H' : Hp) (F W : Addr) : Hp := wo (fr H H' F) W
theorem fr2_step {H H1 H2 : Hp} {F W : Addr} (s : ∀ b o, b ≠ F → b ≠ W → H1 b = some o → H2 b = some o) : Same (fr2 H H1 F W) (fr2 H H2 F W) := fun b o e => by
  have n1 : b ≠ W := fun z => by
    unfold fr2 at e
    rw [z, wo_at] at e
    cases e
  unfold fr2 at e ⊢
  rw [wo_ne n1] at e
  rw [wo_ne n1]
  have n2 : b ≠ F := fun z => by
    unfold fr at e
    rw [z, wo_at] at e
    cases e
  unfold fr at e ⊢
  rw [wo_ne n2] at e
  rw [wo_ne n2]
  obtain ⟨h1, h2⟩ := nw_of e
  rw [nw_none h1]
  exact s _ _ n2 n1 h2
theorem fr2_at {H H' : Hp} {F W p : Addr} {o : HO} (n : p ≠ F) (n2 : p ≠ W) (h : H p = none) (e : H' p = some o) : fr2 H H' F W p = some o := by
  unfold fr2
  rw [wo_ne n2]
  exact fr_at n h e

/-! ### orders: numbers -/
def nints (os : List Nat) : List Int := os.map fun (i : Nat) => (i : Int)
theorem nints_len (os : List Nat) : (nints os).length = os.length := List.length_map ..
theorem nints_at {os : List Nat} {i : Nat} {x : V} (h : ((nints os).map V.int)[i]? = some x) : ∃ n, os[i]? = some n ∧ x = V.int (n : Int) := by
  unfold nints at h
  rw [List.map_map, List.getElem?_map] at h
  cases e : os[i]? with
  | none =>
    rw [e] at h
    cases h
  | some n =>
    rw [e] at h
    exact ⟨n, rfl, (Option.some.inj h).symm⟩
theorem nints_get {os : List Nat} {i n : Nat} (h : os[i]? = some n) : ((nints os).map V.int)[i]? = some (V.int (n : Int)) := by
  unfold nints
  rw [List.map_map, List.getElem?_map, h]
  rfl
theorem take_more {α : Type} : ∀ {l : List α} {i : Nat} {x : α}, l[i]? = some x → l.take (i + 1) = l.take i ++ [x]
  | [], i, x, h => by simp at h
  | a :: l, 0, x, h => by
    have e : a = x := Option.some.inj h
    subst e
    rfl
  | a :: l, i + 1, x, h => by
    have ih := take_more (l := l) (i := i) (x := x) h
    show a :: l.take (i + 1) = a :: l.take i ++ [x]
    rw [ih]
    rfl
theorem getD_of {α : Type} {l : List α} {i : Nat} {x d : α} (h : l[i]? = some x) : l.getD i d = x := by
  rw [List.getD_eq_getElem?_getD, h]
  rfl
/-- a rising list of the numbers below n, in any order, is 0, 1, .. -/
theorem rising_range {n : Nat} {ns : List Int} {os : List Nat} (p : ns.Perm (nints os)) (q : os.Perm (List.range n)) (r : ns.Pairwise (· ≤ ·)) : ns = nints (List.range n) := by
  have p2 : ns.Perm (nints (List.range n)) := p.trans (q.map _)
  refine List.Perm.eq_of_pairwise (le := fun a b : Int => a ≤ b) (fun a b _ _ h1 h2 => Int.le_antisymm h1 h2) r ?_ p2
  unfold nints
  rw [List.pairwise_map]
  exact List.pairwise_le_range.imp fun h => by exact_mod_cast h
theorem rg_nints (n : Nat) : rgV 0 (n : Int) = (nints (List.range n)).map V.int := by
  unfold rgV nints
  rw [List.map_map]
  have e : ((n : Int) - 0).toNat = n := by omega
  rw [e]
  refine List.map_congr_left fun i _ => ?_
  show V.int (0 + (i : Int)) = V.int (i : Int)
  rw [Int.zero_add]
theorem canLay_ints : ∀ ns : List Int, PyData.canLayAll0 (ns.map PyData.int) = true
  | [] => by simp [PyData.canLayAll0]
  | n :: r => by simp [PyData.canLayAll0, PyData.canLay0, canLay_ints r]
theorem shaped_ints (ns : List Int) : SeqAt.shaped (.list (ns.map PyData.int)) = true := by
  unfold SeqAt.shaped
  simp [PyData.canLay0, canLay_ints, PyData.depth, PySem.W.depth_ints]
theorem shaped_tints (ns : List Int) : SeqAt.shaped (.tuple (ns.map PyData.int)) = true := by
  unfold SeqAt.shaped
  simp [PyData.canLay0, canLay_ints, PyData.depth, PySem.W.depth_ints]

theorem canLay_asks : ∀ l : List Ask, PyData.canLayAll0 (l.map dAsk) = true
  | [] => by simp [PyData.canLayAll0]
  | n :: r => by simp [PyData.canLayAll0, PyData.canLay0, dAsk, canLay_asks r]
theorem depth_asks : ∀ l : List Ask, PyData.depthAll (l.map dAsk) ≤ 1
  | [] => by simp [PyData.depthAll]
  | n :: r => by
    have h := depth_asks r
    have e : PyData.depth (dAsk n) = 1 := by
      unfold dAsk
      rw [PyData.depth, PySem.W.depth_ints]
    rw [List.map_cons, PyData.depthAll, e]
    omega
theorem shaped_asks (l : List Ask) : SeqAt.shaped (dAsks l) = true := by
  have := depth_asks l
  unfold SeqAt.shaped
  simp [PyData.canLay0, canLay_asks, PyData.depth, dAsks]
  omega

/-! ### the row of the script: (script, place, mixed) -/
/-- the script: read, never written -/
def ScrAt (K : PySem.W.Frag) (H : Hp) (a : Addr) (ns : List Int) : Prop :=
  (∃ o, H a = some (.frz o (.lst (ns.map V.int)))) ∨
    ∃ (o : Obj) (its : Array Value) (n : Nat), K.lookup a = some o ∧ o.cls = .type "list" ∧ o.dict = none ∧ o.data = .seq its n ∧ its.size ≤ sizeLine ∧ Vals (ns.map V.int) its.toList
theorem ScrAt.sql {K : PySem.W.Frag} {H : Hp} {a : Addr} {ns : List Int} (h : ScrAt K H a ns) : SqL K H a (ns.map V.int) := by
  rcases h with ⟨o, h⟩ | h
  · exact .inl (.inr ⟨o, h⟩)
  · exact .inr h
theorem scr_of {K : PySem.W.Frag} {H : Hp} {a : Addr} {ns : List Int} (hO : Only H) (h : SqL K H a (ns.map V.int)) : ScrAt K H a ns := by
  rcases h with (h | ⟨o, h⟩) | h
  · rcases hO a with e | ⟨o, xs, e⟩
    · rw [e] at h
      cases h
    · rw [e] at h
      cases h
  · exact .inl ⟨o, h⟩
  · exact .inr h
theorem ScrAt.but {K : PySem.W.Frag} {H H' : Hp} {a : Addr} {ns : List Int} (h : ScrAt K H a ns) (s : Same H H') : ScrAt K H' a ns := by
  rcases h with ⟨o, h⟩ | h
  · exact .inl ⟨o, s _ _ h⟩
  · exact .inr h
theorem ScrAt.put {K : PySem.W.Frag} {H : Hp} {a b : Addr} {ns : List Int} {xs : List V} {o : HO} (h : ScrAt K H a ns) (e : H b = some (.lst xs)) : ScrAt K (upd H b o) a ns := by
  rcases h with ⟨x, h⟩ | h
  · have n : a ≠ b := ne_of h e (by intro z; cases z)
    exact .inl ⟨x, by rw [upd_ne n]; exact h⟩
  · exact .inr h
theorem ScrAt.of {K : PySem.W.Frag} {H H' : Hp} {a : Addr} {ns : List Int} (h : ScrAt K H a ns) (s : ∀ b o u, H b = some (.frz o u) → H' b = some (.frz o u)) : ScrAt K H' a ns := by
  rcases h with ⟨x, h⟩ | h
  · exact .inl ⟨x, s _ _ _ h⟩
  · exact .inr h
def RowAt (K : PySem.W.Frag) (H : Hp) (r : Addr) : Prop := ∃ (a : Addr) (ns : List Int) (pos mix : Int), 0 ≤ pos ∧ H r = some (.lst [.ref a, .int pos, .int mix]) ∧ ScrAt K H a ns
theorem RowAt.but {K : PySem.W.Frag} {H H' : Hp} {r : Addr} (h : RowAt K H r) (s : Same H H') : RowAt K H' r := by
  obtain ⟨a, ns, pos, mix, h1, h2, h3⟩ := h
  exact ⟨a, ns, pos, mix, h1, s _ _ h2, h3.but s⟩
theorem RowAt.put {K : PySem.W.Frag} {H : Hp} {r b : Addr} {xs : List V} {o : HO} (h : RowAt K H r) (n : b ≠ r) (e : H b = some (.lst xs)) : RowAt K (upd H b o) r := by
  obtain ⟨a, ns, pos, mix, h1, h2, h3⟩ := h
  exact ⟨a, ns, pos, mix, h1, by rw [upd_ne n.symm]; exact h2, h3.put e⟩
theorem row_start {K : PySem.W.Frag} {H : Hp} {a r : Addr} {ns : List Int} (h : ScrAt K H a ns) (e : H r = none) : RowAt K (upd H r (.lst [.ref a, .int 0, .int 0])) r := ⟨a, ns, 0, 0, Int.le_refl _, upd_same, h.but (same_new e)⟩
theorem same_sb {G H H' : Hp} {r : Addr} (s : Same G H) (e : G r = none) (b : SameBut r H H') : Same G H' := fun c o q => b c o (ne_of_none q e) (s _ _ q)
theorem RowAt.some {K : PySem.W.Frag} {H : Hp} {r : Addr} (h : RowAt K H r) : ∃ o, H r = Option.some o := by
  obtain ⟨a, ns, pos, mix, h1, h2, h3⟩ := h
  exact ⟨_, h2⟩
theorem RowAt.ne {K : PySem.W.Frag} {H : Hp} {r p : Addr} (h : RowAt K H r) (e : H p = none) : p ≠ r := fun z => by
  obtain ⟨o, h⟩ := h.some
  rw [z, h] at e
  cases e

/-! ### max(ns, default=0) -/
def maxl : List Int → Int
  | [] => 0
  | n :: r => r.foldl max n
theorem reads_int {h : Heap} {v : Value} {n : Int} {as : List Addr} (r : Reads h v (.int n) as) : ∃ t, v = .int n t := by
  cases r
  exact ⟨_, rfl⟩
theorem alike_ints_all (ns : List Int) : PySem.W.AlikeAll (ns.map PyData.int) := by
  refine ⟨fun x hx y hy => ?_, fun x hx => ?_⟩
  · obtain ⟨i, _, rfl⟩ := List.mem_map.mp hx
    obtain ⟨j, _, rfl⟩ := List.mem_map.mp hy
    simp [PySem.W.alike]
  · obtain ⟨i, _, rfl⟩ := List.mem_map.mp hx
    exact fun z => by cases z
def rMaxD0 (K : PySem.W.Frag) : List V → List V → Hp → VK → Prop := fun vs zs H Q => ∃ (a : Addr) (ns : List Int), vs = [V.ref a] ∧ zs = [.int 0] ∧ SqL K H a (ns.map V.int) ∧ Q (.int (maxl ns)) H
section
variable {X : Cx}
theorem cr_maxD0 (hc : X.calm = true) (hu : X.A.units + 1 < cLine) : CallRK X (.builtin "max") [Str.ofString "default"] (rMaxD0 X.K) := by
  intro pins s σ H xs zs us ws Q I r rz h
  obtain ⟨a, ns, rfl, rfl, hs, q⟩ := h
  obtain ⟨its, rv, hl, _⟩ := I.list hs
  rw [Vals.ref1 r]
  cases rz with
  | cons rz1 rz2 =>
    cases rz2
    obtain ⟨t, rfl⟩ := rz1
    obtain ⟨as, hr⟩ := Dp.readsAll I (ns.map PyData.int) _ its (dpa_ints ns) rv
    refine PySem.W.max_list_default (I.ok.hd hc) hl.isList (by simpa using hr) (alike_ints_all ns) (by rw [PySem.W.depth_ints]; exact hu) (fun e h' tk hk => ?_) fun y ys i v h' tk bs e hv hread hk => ?_
    · have e0 : ns = [] := by
        cases ns with
        | nil => rfl
        | cons n r => cases e
      subst e0
      exact ⟨.int 0, H, I.kept hk, ⟨_, rfl⟩, q⟩
    · obtain ⟨n, r, rfl, rfl, rfl⟩ : ∃ n r, ns = n :: r ∧ y = .int n ∧ ys = r.map PyData.int := by
        cases ns with
        | nil => cases e
        | cons n r =>
          rw [List.map_cons] at e
          injection e with e1 e2
          exact ⟨n, r, rfl, e1.symm, e2.symm⟩
      rw [PySem.W.maxD_ints] at hread
      obtain ⟨t', rfl⟩ := reads_int hread
      exact ⟨.int (maxl (n :: r)), H, I.kept hk, ⟨_, rfl⟩, q⟩
end
end Ag

namespace Ag
open PySem PySem.Spec PyProof.Rows L2

/-! ### the mathematics: when an ask is done -/
def iabs (i : Int) : Int := if i < 0 then -i else i
def imax (i j : Int) : Int := if j > i then j else i
def serve (d : Disk) (now here : Int) (a : Ask) : Int :=
  imax now a.1 + iabs (a.2.1 - here) * d.pa + (a.2.2 - (imax now a.1 + iabs (a.2.1 - here) * d.pa)) % d.sc + 1
theorem iabs_nn (i : Int) : 0 ≤ iabs i := by
  unfold iabs
  split <;> omega
theorem imax_l (i j : Int) : i ≤ imax i j := by
  unfold imax
  split <;> omega
theorem imax_r (i j : Int) : j ≤ imax i j := by
  unfold imax
  split <;> omega
theorem serve_lb {d : Disk} (g : GoodDisk d) (now here : Int) (a : Ask) : imax now a.1 + 1 ≤ serve d now here a := by
  unfold serve
  have h1 : 0 ≤ iabs (a.2.1 - here) * d.pa := Int.mul_nonneg (iabs_nn _) (by have := g.p1; omega)
  have h2 := Int.emod_nonneg (a.2.2 - (imax now a.1 + iabs (a.2.1 - here) * d.pa)) (b := d.sc) (by have := g.s1; omega)
  omega
/-- rows: (number, when it is done), in an order -/
def rowsOf (d : Disk) (asks : List Ask) : Int → Int → List Nat → List (Nat × Int)
  | _, _, [] => []
  | now, here, i :: r => (i, serve d now here (asks.getD i (0, 0, 0))) :: rowsOf d asks (serve d now here (asks.getD i (0, 0, 0))) (asks.getD i (0, 0, 0)).2.1 r
def dRow (r : Nat × Int) : PyData := .tuple ([(r.1 : Int), r.2].map PyData.int)
def endOf (d : Disk) (asks : List Ask) : Int → Int → List Nat → Int × Int
  | now, here, [] => (now, here)
  | now, here, i :: r => endOf d asks (serve d now here (asks.getD i (0, 0, 0))) (asks.getD i (0, 0, 0)).2.1 r
theorem rowsOf_snoc (d : Disk) (asks : List Ask) (i : Nat) : ∀ (r : List Nat) (now here : Int), rowsOf d asks now here (r ++ [i]) = rowsOf d asks now here r ++ [(i, serve d (endOf d asks now here r).1 (endOf d asks now here r).2 (asks.getD i (0, 0, 0)))]
  | [], _, _ => rfl
  | j :: r, now, here => by
    show _ :: rowsOf d asks _ _ (r ++ [i]) = _
    rw [rowsOf_snoc d asks i r]
    rfl
theorem endOf_snoc (d : Disk) (asks : List Ask) (i : Nat) : ∀ (r : List Nat) (now here : Int), endOf d asks now here (r ++ [i]) = (serve d (endOf d asks now here r).1 (endOf d asks now here r).2 (asks.getD i (0, 0, 0)), (asks.getD i (0, 0, 0)).2.1)
  | [], _, _ => rfl
  | j :: r, now, here => endOf_snoc d asks i r _ _
theorem rowsOf_len (d : Disk) (asks : List Ask) : ∀ (r : List Nat) (now here : Int), (rowsOf d asks now here r).length = r.length
  | [], _, _ => rfl
  | j :: r, now, here => by
    show (rowsOf d asks _ _ r).length + 1 = r.length + 1
    rw [rowsOf_len d asks r]
theorem rowsOf_fst (d : Disk) (asks : List Ask) : ∀ (r : List Nat) (now here : Int), (rowsOf d asks now here r).map (·.1) = r
  | [], _, _ => rfl
  | j :: r, now, here => by
    show j :: (rowsOf d asks _ _ r).map (·.1) = j :: r
    rw [rowsOf_fst d asks r]
/-- how far the arm goes -/
def wayOf (asks : List Ask) : Int → List (Nat × Int) → Int
  | _, [] => 0
  | here, r :: rest => iabs ((asks.getD r.1 (0, 0, 0)).2.1 - here) + wayOf asks (asks.getD r.1 (0, 0, 0)).2.1 rest
def hereOf (asks : List Ask) : Int → List (Nat × Int) → Int
  | here, [] => here
  | _, r :: rest => hereOf asks (asks.getD r.1 (0, 0, 0)).2.1 rest
theorem wayOf_snoc (asks : List Ask) (x : Nat × Int) : ∀ (rs : List (Nat × Int)) (here : Int), wayOf asks here (rs ++ [x]) = wayOf asks here rs + iabs ((asks.getD x.1 (0, 0, 0)).2.1 - hereOf asks here rs)
  | [], here => by
    show iabs _ + 0 = 0 + iabs _
    simp [hereOf]
  | r :: rs, here => by
    show iabs _ + wayOf asks _ (rs ++ [x]) = iabs _ + wayOf asks _ rs + _
    rw [wayOf_snoc asks x rs]
    simp only [hereOf]
    omega
theorem hereOf_snoc (asks : List Ask) (x : Nat × Int) : ∀ (rs : List (Nat × Int)) (here : Int), hereOf asks here (rs ++ [x]) = (asks.getD x.1 (0, 0, 0)).2.1
  | [], here => rfl
  | r :: rs, here => hereOf_snoc asks x rs _
def waitOf (asks : List Ask) (r : Nat × Int) : Int := r.2 - (asks.getD r.1 (0, 0, 0)).1
def waitsOf (asks : List Ask) (rs : List (Nat × Int)) : List Int := rs.map (waitOf asks)
/-- (way, longest, all) -/
def costsOf (d : Disk) (asks : List Ask) (rs : List (Nat × Int)) : Int × Int × Int := (wayOf asks d.he rs, maxl (waitsOf asks rs), (waitsOf asks rs).sum)
def dCosts (c : Int × Int × Int) : PyData := .tuple ([c.1, c.2.1, c.2.2].map PyData.int)
def dRes (rs : List (Nat × Int)) (c : Int × Int × Int) : PyData := .tuple [.list (rs.map dRow), dCosts c]
theorem foldl_max_le (m : Int) : ∀ (l : List Int) (n : Int), m ≤ n → m ≤ l.foldl max n
  | [], n, h => h
  | x :: r, n, h => foldl_max_le m r (max n x) (by omega)
/-- max([0] + waits) is the same where no wait is below 0 -/
theorem maxl_zero : ∀ (l : List Int), (∀ x ∈ l, 0 ≤ x) → maxl (0 :: l) = maxl l
  | [], _ => rfl
  | x :: r, h => by
    show r.foldl max (max 0 x) = r.foldl max x
    have hx := h x List.mem_cons_self
    rw [show max 0 x = x by omega]
theorem end_here (d : Disk) (asks : List Ask) : ∀ (r : List Nat) (now here : Int), (endOf d asks now here r).2 = hereOf asks here (rowsOf d asks now here r)
  | [], _, _ => rfl
  | i :: r, now, here => end_here d asks r _ _
theorem rows_waits {d : Disk} (g : GoodDisk d) (asks : List Ask) : ∀ (r : List Nat) (now here : Int), ∀ x ∈ waitsOf asks (rowsOf d asks now here r), 1 ≤ x
  | [], _, _, x, hx => by simp [rowsOf, waitsOf] at hx
  | i :: r, now, here, x, hx => by
    unfold rowsOf waitsOf at hx
    rw [List.map_cons, List.mem_cons] at hx
    rcases hx with rfl | hx
    · have h1 := serve_lb g now here (asks.getD i (0, 0, 0))
      have h2 := imax_r now (asks.getD i (0, 0, 0)).1
      show 1 ≤ serve d now here (asks.getD i (0, 0, 0)) - (asks.getD i (0, 0, 0)).1
      omega
    · exact rows_waits g asks r _ _ x hx
/-! ### step by step: what the law does -/
theorem iabs_step {t h : Int} (ne : h ≠ t) : iabs (t - (h + (if t < h then -1 else 1))) = iabs (t - h) - 1 := by
  unfold iabs
  split <;> split <;> split <;> omega
theorem emod_step {s n c : Int} (hc : 0 < c) (hs0 : 0 ≤ s) (hs : s < c) (ne : n % c ≠ s) : (s - (n + 1)) % c = (s - n) % c - 1 ∧ 0 < (s - n) % c := by
  have h0 := Int.emod_nonneg (s - n) (b := c) (by omega)
  have h1 := Int.emod_lt_of_pos (s - n) hc
  have hz : (s - n) % c ≠ 0 := fun e => by
    have d : c ∣ s - n := Int.dvd_of_emod_eq_zero e
    obtain ⟨k, hk⟩ := d
    have e2 : n = s + c * (-k) := by
      rw [Int.mul_neg]
      omega
    rw [e2, Int.add_mul_emod_self_left, Int.emod_eq_of_lt hs0 hs] at ne
    exact ne rfl
  refine ⟨?_, by omega⟩
  have e : s - (n + 1) = ((s - n) % c - 1) + c * ((s - n) / c) := by
    have := Int.mul_ediv_add_emod (s - n) c
    omega
  rw [e, Int.add_mul_emod_self_left]
  exact Int.emod_eq_of_lt (by omega) (by omega)
theorem emod_end {s n c : Int} (hs : n % c = s) : (s - n) % c = 0 := by
  rw [← hs]
  have := Int.mul_ediv_add_emod n c
  have e : n % c - n = 0 + c * (-(n / c)) := by
    rw [Int.mul_neg]
    omega
  rw [e, Int.add_mul_emod_self_left]
  simp
end Ag

namespace Ag
open PySem PySem.Spec PyProof.Rows L2

/-! ### min of alike data: the first of the least -/
theorem minD_mem (x : PyData) (xs : List PyData) : PySem.W.minD x xs ∈ x :: xs := by
  have go : ∀ (xs : List PyData) (x : PyData), xs.foldl (fun a y => if PySem.W.dataLt y a then y else a) x ∈ x :: xs := by
    intro xs
    induction xs with
    | nil => intro x; exact List.mem_cons_self
    | cons y r ih =>
      intro x
      show r.foldl _ (if PySem.W.dataLt y x then y else x) ∈ x :: y :: r
      have h := ih (if PySem.W.dataLt y x then y else x)
      rcases List.mem_cons.mp h with h | h
      · rw [h]
        split
        · exact List.mem_cons_of_mem _ List.mem_cons_self
        · exact List.mem_cons_self
      · exact List.mem_cons_of_mem _ (List.mem_cons_of_mem _ h)
  exact go xs x
/-- min(xs): some item whose data is the least -/
def rMinD (K : PySem.W.Frag) (A : Around) : List V → Hp → VK → Prop := fun vs H Q => ∃ (a : Addr) (xs : List V) (d : PyData) (ds : List PyData), vs = [V.ref a] ∧ SqL K H a xs ∧ DpAll K H xs (d :: ds) ∧ PySem.W.AlikeAll (d :: ds) ∧ A.units + 1 + PyData.depthAll (d :: ds) < cLine ∧
  ∀ (i : Nat) (v : V), xs[i]? = some v → (d :: ds)[i]? = some (PySem.W.minD d ds) → Q v H
section
variable {X : Cx}
theorem cr_minD (hc : X.calm = true) : CallR X (.builtin "min") (rMinD X.K X.A) := by
  intro pins s σ H xs us Q I r h
  obtain ⟨a, xs, d, ds, rfl, hs, hda, hal, hu, q⟩ := h
  obtain ⟨its, rv, hl, _⟩ := I.list hs
  rw [Vals.ref1 r]
  obtain ⟨as, hr⟩ := Dp.readsAll I (d :: ds) _ its hda rv
  refine PySem.W.min_list_data (I.ok.hd hc) hl.isList (by simpa using hr) hal hu fun i v h' tk bs hv hread hk => ?_
  have hv' : its[i]? = some v := by simpa using hv
  have hlen := rv.length
  obtain ⟨x, hx⟩ : ∃ x, xs[i]? = some x := by
    have := (List.getElem?_eq_some_iff.mp hv').1
    exact ⟨_, List.getElem?_eq_getElem (by omega)⟩
  obtain ⟨u, hu', ru⟩ := rv.get hx
  rw [hv'] at hu'
  cases hu'
  have I' : Inv X pins σ H { s with heap := h', toks := tk } := I.kept hk
  obtain ⟨e, he, hed⟩ := dpa_get' hda hx
  obtain ⟨as', hr'⟩ := Dp.reads I' e x v hed ru
  have em : e = PySem.W.minD d ds := PySem.W.alike_unique e _ v as' bs (hal.1 e (List.mem_of_getElem? he) _ (minD_mem d ds)) hr' hread
  rw [em] at he
  exact ⟨x, H, I', ru, q i x hx he⟩
end
/-! ### a number in an order -/
theorem inV_nints (n : Nat) : ∀ os : List Nat, inV (.int (n : Int)) ((nints os).map V.int) = decide (n ∈ os)
  | [] => by simp [inV, nints]
  | m :: r => by
    have ih := inV_nints n r
    unfold inV nints at ih ⊢
    rw [List.map_cons, List.map_cons, List.any_cons, ih]
    show ((m : Int) == (n : Int) || decide (n ∈ r)) = decide (n ∈ m :: r)
    by_cases h : n = m
    · subst h
      simp
    · have : ((m : Int) == (n : Int)) = false := by
        simp
        omega
      rw [this]
      simp [h]
theorem flat_nints : ∀ os : List Nat, ((nints os).map V.int).all flatV = true
  | [] => rfl
  | m :: r => by
    have ih := flat_nints r
    unfold nints at ih ⊢
    rw [List.map_cons, List.map_cons, List.all_cons, ih]
    rfl
/-! ### all orders, one number more a turn -/
def moreOf (n : Nat) (os : List Nat) : List (List Nat) := ((List.range n).filter fun i => decide (i ∉ os)).map fun i => os ++ [i]
def ordersK (n : Nat) : Nat → List (List Nat)
  | 0 => [[]]
  | k + 1 => (ordersK n k).flatMap (moreOf n)
theorem moreOf_mem {n : Nat} {os os' : List Nat} : os' ∈ moreOf n os ↔ ∃ i, i < n ∧ i ∉ os ∧ os' = os ++ [i] := by
  unfold moreOf
  rw [List.mem_map]
  constructor
  · rintro ⟨i, hi, rfl⟩
    rw [List.mem_filter, List.mem_range, decide_eq_true_eq] at hi
    exact ⟨i, hi.1, hi.2, rfl⟩
  · rintro ⟨i, h1, h2, rfl⟩
    exact ⟨i, by rw [List.mem_filter, List.mem_range, decide_eq_true_eq]; exact ⟨h1, h2⟩, rfl⟩
structure IsOrd (n k : Nat) (os : List Nat) : Prop where
  len : os.length = k
  lt : ∀ i ∈ os, i < n
  nd : os.Nodup
theorem ordersK_is {n : Nat} : ∀ {k : Nat} {os : List Nat}, os ∈ ordersK n k → IsOrd n k os
  | 0, os, h => by
    rw [List.mem_singleton.mp (show os ∈ [[]] from h)]
    exact ⟨rfl, fun i hi => absurd hi (by simp), List.nodup_nil⟩
  | k + 1, os, h => by
    obtain ⟨o, ho, hm⟩ := List.mem_flatMap.mp h
    obtain ⟨i, h1, h2, rfl⟩ := moreOf_mem.mp hm
    have ih := ordersK_is ho
    refine ⟨by rw [List.length_append, ih.len]; rfl, fun j hj => ?_, ?_⟩
    · rcases List.mem_append.mp hj with hj | hj
      · exact ih.lt j hj
      · rw [List.mem_singleton.mp hj]
        exact h1
    · rw [List.nodup_append]
      refine ⟨ih.nd, by simp, fun a ha b hb => ?_⟩
      rw [List.mem_singleton.mp hb]
      exact fun e => h2 (e ▸ ha)
theorem ordersK_of {n : Nat} : ∀ {k : Nat} {os : List Nat}, IsOrd n k os → os ∈ ordersK n k
  | 0, os, h => by
    have e : os = [] := List.eq_nil_of_length_eq_zero h.len
    subst e
    exact List.mem_singleton.mpr rfl
  | k + 1, os, h => by
    have hne : os ≠ [] := fun e => by
      have := h.len
      rw [e] at this
      cases this
    obtain ⟨o, i, rfl⟩ : ∃ o i, os = o ++ [i] := ⟨os.dropLast, os.getLast hne, (List.dropLast_concat_getLast hne).symm⟩
    have hl := h.len
    rw [List.length_append] at hl
    have hl' : o.length = k := by
      simp at hl
      exact hl
    have nd := h.nd
    rw [List.nodup_append] at nd
    refine List.mem_flatMap.mpr ⟨o, ordersK_of ⟨hl', fun j hj => h.lt j (List.mem_append_left _ hj), nd.1⟩, moreOf_mem.mpr ⟨i, h.lt i (by simp), fun hi => nd.2.2 i hi i (by simp) rfl, rfl⟩⟩
theorem isOrd_range {n : Nat} : IsOrd n n (List.range n) := ⟨List.length_range, fun i hi => List.mem_range.mp hi, List.nodup_range⟩
theorem isOrd_take {n k : Nat} (h : k ≤ n) : IsOrd n k (List.range k) := ⟨List.length_range, fun i hi => by have := List.mem_range.mp hi; omega, List.nodup_range⟩
theorem ordersK_ne {n k : Nat} (h : k ≤ n) : ordersK n k ≠ [] := List.ne_nil_of_mem (ordersK_of (isOrd_take h))
theorem moreOf_len (n : Nat) (os : List Nat) : (moreOf n os).length ≤ n := by
  unfold moreOf
  rw [List.length_map]
  exact Nat.le_trans (List.length_filter_le _ _) (by rw [List.length_range]; exact Nat.le_refl _)
theorem flat_len {α β : Type} (f : α → List β) (c : Nat) : ∀ l : List α, (∀ x ∈ l, (f x).length ≤ c) → (l.flatMap f).length ≤ l.length * c
  | [], _ => by simp
  | x :: r, h => by
    rw [List.flatMap_cons, List.length_append, List.length_cons, Nat.add_mul, Nat.one_mul]
    have h1 := h x List.mem_cons_self
    have h2 := flat_len f c r fun y hy => h y (List.mem_cons_of_mem _ hy)
    omega
theorem ordersK_len (n : Nat) : ∀ k : Nat, (ordersK n k).length ≤ n ^ k
  | 0 => by simp [ordersK]
  | k + 1 => by
    have h := flat_len (moreOf n) n (ordersK n k) fun x _ => moreOf_len n x
    have ih := ordersK_len n k
    have h2 := Nat.mul_le_mul_right n ih
    rw [Nat.pow_succ]
    exact Nat.le_trans h h2
theorem ordersK_len6 {n k : Nat} (hn : n ≤ 6) (hk : k ≤ 6) : (ordersK n k).length ≤ 46656 := by
  refine Nat.le_trans (ordersK_len n k) ?_
  have h1 : n ^ k ≤ 6 ^ k := Nat.pow_le_pow_left hn k
  have h2 : 6 ^ k ≤ 6 ^ 6 := Nat.pow_le_pow_right (by decide) hk
  exact Nat.le_trans h1 (Nat.le_trans h2 (by decide))
/-! ### all waits together, and its least -/
def allOf (d : Disk) (l : List Ask) (os : List Nat) : Int := (waitsOf l (rowsOf d l 0 d.he os)).sum
theorem allOf_snoc (d : Disk) (l : List Ask) (os : List Nat) (i : Nat) : allOf d l (os ++ [i]) = allOf d l os + serve d (endOf d l 0 d.he os).1 (endOf d l 0 d.he os).2 (l.getD i (0, 0, 0)) - (l.getD i (0, 0, 0)).1 := by
  unfold allOf
  rw [rowsOf_snoc]
  unfold waitsOf
  rw [List.map_append, List.sum_append]
  show _ + ((serve d (endOf d l 0 d.he os).1 (endOf d l 0 d.he os).2 (l.getD i (0, 0, 0)) - (l.getD i (0, 0, 0)).1) + 0) = _
  omega
def dSum (d : Disk) (l : List Ask) (os : List Nat) : PyData := .tuple [.int (allOf d l os), .list ((nints os).map PyData.int)]
theorem alike_sums (d : Disk) (l : List Ask) (oss : List (List Nat)) : PySem.W.AlikeAll (oss.map (dSum d l)) := by
  refine ⟨fun x hx y hy => ?_, fun x hx => ?_⟩
  · obtain ⟨o, _, rfl⟩ := List.mem_map.mp hx
    obtain ⟨o', _, rfl⟩ := List.mem_map.mp hy
    simp [dSum, PySem.W.alike, PySem.W.alikeAll, PySem.W.alike_ints]
  · obtain ⟨o, _, rfl⟩ := List.mem_map.mp hx
    exact fun z => by cases z
theorem depth_sums (d : Disk) (l : List Ask) : ∀ oss : List (List Nat), PyData.depthAll (oss.map (dSum d l)) ≤ 2
  | [] => by simp [PyData.depthAll]
  | o :: r => by
    have h := depth_sums d l r
    have e : PyData.depth (dSum d l o) = 2 := by
      unfold dSum
      simp [PyData.depth, PyData.depthAll, PySem.W.depth_ints]
    rw [List.map_cons, PyData.depthAll, e]
    omega
/-- the least of all orders -/
def leastOf (d : Disk) (l : List Ask) : PyData := match (ordersK l.length l.length).map (dSum d l) with
  | [] => .none
  | x :: r => PySem.W.minD x r
theorem leastOf_eq {d : Disk} {l : List Ask} {x : PyData} {r : List PyData} (h : (ordersK l.length l.length).map (dSum d l) = x :: r) : leastOf d l = PySem.W.minD x r := by
  unfold leastOf
  rw [h]
end Ag

namespace Ag
open PySem PySem.Spec PyProof.Rows L2
theorem ite_eqb {b c : Bool} {A B : Prop} (e : b = c) (h : if c = true then A else B) : if b = true then A else B := by
  rw [e]
  exact h
/-! ### two lists side by side -/
def All2 {α β : Type} (R : α → β → Prop) : List α → List β → Prop
  | [], [] => True
  | a :: as, b :: bs => R a b ∧ All2 R as bs
  | _, _ => False
theorem all2_len {α β : Type} {R : α → β → Prop} : ∀ {as : List α} {bs : List β}, All2 R as bs → as.length = bs.length
  | [], [], _ => rfl
  | _ :: _, _ :: _, h => by simp only [List.length_cons, all2_len h.2]
  | [], _ :: _, h => h.elim
  | _ :: _, [], h => h.elim
theorem all2_mono {α β : Type} {R S : α → β → Prop} (k : ∀ a b, R a b → S a b) : ∀ {as : List α} {bs : List β}, All2 R as bs → All2 S as bs
  | [], [], _ => trivial
  | _ :: _, _ :: _, h => ⟨k _ _ h.1, all2_mono k h.2⟩
  | [], _ :: _, h => h.elim
  | _ :: _, [], h => h.elim
theorem all2_snoc {α β : Type} {R : α → β → Prop} {a : α} {b : β} (r : R a b) : ∀ {as : List α} {bs : List β}, All2 R as bs → All2 R (as ++ [a]) (bs ++ [b])
  | [], [], _ => ⟨r, trivial⟩
  | _ :: _, _ :: _, h => ⟨h.1, all2_snoc r h.2⟩
  | [], _ :: _, h => h.elim
  | _ :: _, [], h => h.elim
theorem all2_app {α β : Type} {R : α → β → Prop} {cs : List α} {ds : List β} (r : All2 R cs ds) : ∀ {as : List α} {bs : List β}, All2 R as bs → All2 R (as ++ cs) (bs ++ ds)
  | [], [], _ => r
  | _ :: _, _ :: _, h => ⟨h.1, all2_app r h.2⟩
  | [], _ :: _, h => h.elim
  | _ :: _, [], h => h.elim
theorem all2_at {α β : Type} {R : α → β → Prop} : ∀ {as : List α} {bs : List β} {i : Nat} {a : α}, All2 R as bs → as[i]? = some a → ∃ b, bs[i]? = some b ∧ R a b
  | [], [], _, _, _, e => by simp at e
  | _ :: _, _ :: _, 0, _, h, e => by simp at e; subst e; exact ⟨_, rfl, h.1⟩
  | _ :: _, _ :: _, i + 1, _, h, e => by
    obtain ⟨b, e1, r⟩ := all2_at (i := i) h.2 (by simpa using e)
    exact ⟨b, by simpa using e1, r⟩
  | [], _ :: _, _, _, h, _ => h.elim
  | _ :: _, [], _, _, h, _ => h.elim
theorem all2_at' {α β : Type} {R : α → β → Prop} : ∀ {as : List α} {bs : List β} {i : Nat} {b : β}, All2 R as bs → bs[i]? = some b → ∃ a, as[i]? = some a ∧ R a b
  | [], [], _, _, _, e => by simp at e
  | _ :: _, _ :: _, 0, _, h, e => by simp at e; subst e; exact ⟨_, rfl, h.1⟩
  | _ :: _, _ :: _, i + 1, _, h, e => by
    obtain ⟨b, e1, r⟩ := all2_at' (i := i) h.2 (by simpa using e)
    exact ⟨b, by simpa using e1, r⟩
  | [], _ :: _, _, _, h, _ => h.elim
  | _ :: _, [], _, _, h, _ => h.elim
theorem all2_dpa {K : PySem.W.Frag} {H : Hp} {β : Type} {R : V → β → Prop} {f : β → PyData} (k : ∀ v b, R v b → Dp K H v (f b)) : ∀ {vs : List V} {bs : List β}, All2 R vs bs → DpAll K H vs (bs.map f)
  | [], [], _ => .nil
  | _ :: _, _ :: _, h => .cons (k _ _ h.1) (all2_dpa k h.2)
  | [], _ :: _, h => h.elim
  | _ :: _, [], h => h.elim
/-- an order, as a list of its own -/
def OrdAt (G : Hp) (v : V) (os : List Nat) : Prop := ∃ o, v = .ref o ∧ G o = some (.lst ((nints os).map V.int))
theorem ordAt_same {G G' : Hp} {v : V} {os : List Nat} (s : Same G G') (h : OrdAt G v os) : OrdAt G' v os := by
  obtain ⟨o, e, h⟩ := h
  exact ⟨o, e, s _ _ h⟩
theorem ordAt_dp {K : PySem.W.Frag} {G : Hp} {v : V} {os : List Nat} (h : OrdAt G v os) : Dp K G v (.list ((nints os).map PyData.int)) := by
  obtain ⟨o, rfl, h⟩ := h
  exact dp_ints_of (SqL.of h)
/-- (waits, order) -/
def SumAt (d : Disk) (l : List Ask) (G : Hp) (v : V) (os : List Nat) : Prop := ∃ m o, v = .ref m ∧ G m = some (.tup [.int (allOf d l os), .ref o]) ∧ G o = some (.lst ((nints os).map V.int))
theorem sumAt_same {d : Disk} {l : List Ask} {G G' : Hp} {v : V} {os : List Nat} (s : Same G G') (h : SumAt d l G v os) : SumAt d l G' v os := by
  obtain ⟨m, o, e, h1, h2⟩ := h
  exact ⟨m, o, e, s _ _ h1, s _ _ h2⟩
theorem sumAt_dp {K : PySem.W.Frag} {d : Disk} {l : List Ask} {G : Hp} {v : V} {os : List Nat} (h : SumAt d l G v os) : Dp K G v (dSum d l os) := by
  obtain ⟨m, o, rfl, h1, h2⟩ := h
  exact .tup (SqT.of h1) (.cons (.int _) (.cons (dp_ints_of (SqL.of h2)) .nil))
/-- ((waits, order), now, here) -/
def LvlAt (d : Disk) (l : List Ask) (G : Hp) (v : V) (os : List Nat) : Prop := ∃ t m, v = .ref t ∧ G t = some (.tup [.ref m, .int (endOf d l 0 d.he os).1, .int (endOf d l 0 d.he os).2]) ∧ SumAt d l G (.ref m) os
theorem lvlAt_same {d : Disk} {l : List Ask} {G G' : Hp} {v : V} {os : List Nat} (s : Same G G') (h : LvlAt d l G v os) : LvlAt d l G' v os := by
  obtain ⟨t, m, e, h1, h2⟩ := h
  exact ⟨t, m, e, s _ _ h1, sumAt_same s h2⟩
theorem take_flat {α β : Type} {f : α → List β} {l : List α} {i : Nat} {x : α} (h : l[i]? = some x) : (l.take (i + 1)).flatMap f = (l.take i).flatMap f ++ f x := by
  rw [take_more h, List.flatMap_append]
  simp
def moreTo (k : Nat) (os : List Nat) : List (List Nat) := ((List.range k).filter fun i => decide (i ∉ os)).map fun i => os ++ [i]
theorem moreTo_in {k : Nat} {os : List Nat} (h : k ∈ os) : moreTo (k + 1) os = moreTo k os := by
  unfold moreTo
  rw [List.range_succ, List.filter_append]
  simp [h]
theorem moreTo_out {k : Nat} {os : List Nat} (h : k ∉ os) : moreTo (k + 1) os = moreTo k os ++ [os ++ [k]] := by
  unfold moreTo
  rw [List.range_succ, List.filter_append]
  simp [h]
theorem nints_snoc (os : List Nat) (n : Nat) : (nints os).map V.int ++ [V.int (n : Int)] = (nints (os ++ [n])).map V.int := by
  unfold nints
  rw [List.map_append, List.map_append]
  rfl
end Ag

namespace Ag
open PySem PySem.Spec PyProof.Rows L2
/-! ### sorted(d), d a dict whose keys are pairs of ints -/
def keyOf (c : Int × Int) : List Key := [Sum.inl c.1, Sum.inl c.2]
theorem keyOf_inj {a b : Int × Int} (h : keyOf a = keyOf b) : a = b := by
  unfold keyOf at h
  injection h with h1 h2
  injection h2 with h2 _
  injection h1 with h1
  injection h2 with h2
  exact Prod.ext h1 h2
theorem keyOf_kV (c : Int × Int) : (keyOf c).map kV = [V.int c.1, V.int c.2] := rfl
def pairAt (H : Hp) (b : Addr) : Int × Int := match H b with
  | some (.tup [.int i, .int j]) => (i, j)
  | _ => (0, 0)
theorem pairAt_of {H : Hp} {b : Addr} {i j : Int} (h : H b = some (.tup [.int i, .int j])) : pairAt H b = (i, j) := by
  unfold pairAt
  rw [h]
def backA : Value → Addr
  | .ref a => a
  | _ => 0
def rSortedDT : List V → Hp → VK → Prop := fun vs H Q => ∃ (d : Addr) (kvs : List (List Key × V)) (cs : List (Int × Int)), vs = [.ref d] ∧ Rd H d (.dT kvs) ∧ kvs.map (·.1) = cs.map keyOf ∧
  ∀ (p : Addr) (as : List Addr), H p = none → (as.map (pairAt H)).Perm cs → (as.map (pairAt H)).Pairwise (fun x y => SrtO.lexB y x = false) → (∀ a ∈ as, H a = some (.tup [.int (pairAt H a).1, .int (pairAt H a).2])) → Q (.ref p) (upd H p (.lst (as.map V.ref)))
section
variable {X : Cx}
theorem keys_pairs {H : Hp} : ∀ {kvs : List (List Key × V)} {bs : List Addr} {cs : List (Int × Int)}, IsKeys H kvs bs → kvs.map (·.1) = cs.map keyOf → (∀ b ∈ bs, H b = some (.tup [.int (pairAt H b).1, .int (pairAt H b).2])) ∧ bs.map (pairAt H) = cs
  | [], [], [], _, _ => ⟨fun b hb => absurd hb (by simp), rfl⟩
  | [], [], _ :: _, _, e => by simp at e
  | p :: kvs, b :: bs, [], _, e => by simp at e
  | p :: kvs, b :: bs, c :: cs, h, e => by
    cases h with
    | cons h1 h2 =>
      rw [List.map_cons, List.map_cons] at e
      injection e with e1 e2
      obtain ⟨g1, g2⟩ := keys_pairs h2 e2
      rw [e1, keyOf_kV] at h1
      have hp : pairAt H b = c := pairAt_of h1
      refine ⟨fun x hx => ?_, by rw [List.map_cons, hp, g2]⟩
      rcases List.mem_cons.mp hx with rfl | hx
      · rw [hp]
        exact h1
      · exact g1 x hx
theorem cr_sortedDT (hc : X.calm = true) : CallR X (.builtin "sorted") rSortedDT := by
  intro pins s σ H xs us Q I r h
  obtain ⟨d, kvs, cs, rfl, hd, hks, q⟩ := h
  obtain ⟨u, rfl, rx⟩ := vals1 r
  cases rx
  obtain ⟨z, hs, ks, pr, o, es, ep, ho, hx, hdt, he, hn⟩ := (show ObjOk X.prog X.w H s.heap d (.dT kvs) from hd.ok I.hok)
  have l1 : es.size = ks.length := size_of_entries he
  have l2 : kvs.length = ks.length := Paired.length pr
  have hkeys := isKeys_of pr
  obtain ⟨hb1, hb2⟩ := keys_pairs hkeys hks
  refine Calls.call_function_entry PyProof.Rows.kind_sorted PyProof.Rows.plain_sorted PyProof.Rows.entry_sorted (PyProof.Rows.args_sorted1 _) ?_
  unfold Builtin.«sorted»
  refine wpAny_bind (m := checkCount "sorted" 1 1 _) (wpAny_pure ?_)
  refine wpAny_bind (PySem.W.kdu_collect (A := X.A.in1) (kdl_raw hs hx hdt) (I.ok.hd hc) ho (by omega) fun h' tk acc' hk it => ?_)
  have ea : acc'.toList = (ks.map fun x => x.2.1).map Value.ref := by
    rw [List.map_map]
    have hl : acc'.toList.length = ks.length := by rw [Array.length_toList, it.1]; exact l1
    apply List.ext_getElem?
    intro j
    rw [List.getElem?_map]
    cases hj : acc'.toList[j]? with
    | none =>
      have h1 := List.getElem?_eq_none_iff.mp hj
      rw [List.getElem?_eq_none (by omega)]
      rfl
    | some v =>
      obtain ⟨en, hen, hv⟩ := it.2 j v (by rw [← Array.getElem?_toList]; exact hj)
      have qe := entry_at he j
      rw [hen] at qe
      cases hb : ks[j]? with
      | none =>
        rw [hb] at qe
        exact nomatch (show some en = none from qe)
      | some b =>
        rw [hb] at qe
        have e2 : en = entryOfKey (tupleKind (mixKind X.prog X.w)) b := Option.some.inj qe
        rw [hv, e2]
        rfl
  have I1 : Inv X pins σ H { s with heap := h', toks := tk } := I.kept hk
  have hal : acc'.toList.length = ks.length := by rw [ea, List.length_map, List.length_map]
  have hz : acc'.toList.length ≤ sizeLine := by rw [hal]; omega
  refine wpAny_bind (wpAny_newList ?_ hz)
  have hoL : (h'.push (seqObj "list" acc'.toList.toArray 0)).get? h'.objs.size = some (seqObj "list" acc'.toList.toArray 0) := Heap.get?_push_size _ rfl
  show wpAny _ _ _ _ _ { s with heap := h'.push (seqObj "list" acc'.toList.toArray 0), toks := tk }
  have isp : ∀ v ∈ acc'.toList, Srt.IsPair (h'.push (seqObj "list" acc'.toList.toArray 0)) v (pairAt H (backA v)).1 (pairAt H (backA v)).2 := fun v hv => by
    rw [ea] at hv
    obtain ⟨b, hb, rfl⟩ := List.mem_map.mp hv
    have hH := hb1 b hb
    obtain ⟨_, its2, r2, o2, ho2, hc2, n2, hd2⟩ := (show ObjOk X.prog X.w H h' b (.tup [.int (pairAt H b).1, .int (pairAt H b).2]) from I1.hok b _ hH)
    obtain ⟨u1, u2, rfl, ri, rj⟩ := vals2 r2
    obtain ⟨t1, rfl⟩ := ri
    obtain ⟨t2, rfl⟩ := rj
    exact ⟨b, o2, t1, t2, n2, rfl, Heap.get?_push_of_some _ ho2, hc2, hd2⟩
  refine wpAny_bind (wpAny_holding (wpAny_call_entry PyProof.Rows.slot_list_sort ⟨_, hoL, rfl⟩ PyProof.Rows.entry_list_sort
    (SrtO.list_sort_ord (s := { s with heap := h'.push (seqObj "list" acc'.toList.toArray 0), toks := tk }) (ltv := fun v u => SrtO.lexB (pairAt H (backA v)) (pairAt H (backA u))) (SrtO.swo_lex fun v => pairAt H (backA v)) hoL hz (fun h2 => SrtO.pairs_sortableO (by omega) isp fun o e => ?_) fun out hs' hb => ⟨_, rfl, ?_⟩) (PyProof.Rows.args_list_sort _)))
  · have e' : some o = some (seqObj "list" acc'.toList.toArray 0) := e.symm.trans hoL
    cases e'
    intro c
    exact absurd (Value.type.inj c) (by decide)
  · obtain ⟨e', he'⟩ := PyProof.Rows.sortedHeap_at (vs := acc'.toList) (out := out.toArray) hoL
    have hperm : out.Perm acc'.toList := hb.perm
    have eo : out = (out.map backA).map Value.ref := by
      rw [List.map_map]
      refine (List.map_id out).symm.trans (List.map_congr_left fun v hv => ?_)
      have := hperm.mem_iff.mp hv
      rw [ea] at this
      obtain ⟨b, _, rfl⟩ := List.mem_map.mp this
      rfl
    have hmem : ∀ a ∈ out.map backA, a ∈ ks.map fun x => x.2.1 := fun a ha => by
      obtain ⟨v, hv, rfl⟩ := List.mem_map.mp ha
      have := hperm.mem_iff.mp hv
      rw [ea] at this
      obtain ⟨b, hb, rfl⟩ := List.mem_map.mp this
      exact hb
    have hlen : ((out.map backA).map V.ref).length ≤ sizeLine := by
      rw [List.length_map, List.length_map, hperm.length_eq]
      exact hz
    refine wpAny_pure ⟨_, rfl, .ref h'.objs.size, upd H h'.objs.size (.lst ((out.map backA).map V.ref)), I1.laid (t' := tk) (fun b u e => ?_) (Nat.le_refl _)
      (show ObjOk X.prog X.w _ _ _ (.lst ((out.map backA).map V.ref)) from ⟨hlen, out, e', by have hv := vals_refs (out.map backA); rw [← eo] at hv; exact hv, he'⟩), rfl, q _ _ (I1.hok.fresh (Nat.le_refl _)) ?_ ?_ fun a ha => hb1 a (hmem a ha)⟩
    · have hb : b < h'.objs.size := Heap.lt_size e
      rw [PyProof.Rows.sortedHeap_old (Nat.ne_of_lt hb) (by rw [size_push']; exact Nat.lt_succ_of_lt hb)]
      exact Heap.get?_push_of_some _ e
    · rw [← hb2]
      have hp2 := hperm.map backA
      rw [ea, List.map_map] at hp2
      have : (List.map (backA ∘ Value.ref) (ks.map fun x => x.2.1)) = ks.map fun x => x.2.1 := by
        rw [show (backA ∘ Value.ref) = id from rfl, List.map_id]
      rw [this] at hp2
      exact hp2.map _
    · rw [List.map_map, List.pairwise_map]
      exact hs'.imp fun h => h
end
end Ag

namespace Ag
open PySem PySem.Spec PyProof.Rows L2
/-! ### (way, longest wait) of an order; the best found so far -/
abbrev Cost := Int × Int
def costW (d : Disk) (l : List Ask) (os : List Nat) : Cost := (wayOf l d.he (rowsOf d l 0 d.he os), (waitsOf l (rowsOf d l 0 d.he os)).foldl imax 0)
theorem imax_eq (i j : Int) : imax i j = max i j := by
  unfold imax
  split <;> omega
theorem foldl_imax (l : List Int) (n : Int) : l.foldl imax n = l.foldl max n := by
  congr 1
  funext i j
  exact imax_eq i j
theorem costW_costs {d : Disk} (g : GoodDisk d) (l : List Ask) (os : List Nat) : costW d l os = ((costsOf d l (rowsOf d l 0 d.he os)).1, (costsOf d l (rowsOf d l 0 d.he os)).2.1) := by
  unfold costW costsOf
  rw [foldl_imax]
  have h := maxl_zero (waitsOf l (rowsOf d l 0 d.he os)) fun x hx => by
    have := rows_waits g l os 0 d.he x hx
    omega
  show (_, maxl (0 :: waitsOf l (rowsOf d l 0 d.he os))) = _
  rw [h]
theorem costW_snoc (d : Disk) (l : List Ask) (os : List Nat) (i : Nat) : costW d l (os ++ [i]) = ((costW d l os).1 + iabs ((l.getD i (0, 0, 0)).2.1 - (endOf d l 0 d.he os).2), imax (costW d l os).2 (serve d (endOf d l 0 d.he os).1 (endOf d l 0 d.he os).2 (l.getD i (0, 0, 0)) - (l.getD i (0, 0, 0)).1)) := by
  unfold costW
  rw [rowsOf_snoc, wayOf_snoc, end_here]
  unfold waitsOf
  rw [List.map_append, List.foldl_append]
  rfl
theorem costW_le (d : Disk) (l : List Ask) (os : List Nat) (i : Nat) : (costW d l os).1 ≤ (costW d l (os ++ [i])).1 ∧ (costW d l os).2 ≤ (costW d l (os ++ [i])).2 := by
  rw [costW_snoc]
  have := iabs_nn ((l.getD i (0, 0, 0)).2.1 - (endOf d l 0 d.he os).2)
  exact ⟨by show _ ≤ _ + _; omega, imax_l _ _⟩
abbrev Best := List (Cost × List Nat)
def look (B : Best) (c : Cost) : Option (List Nat) := (B.find? fun b => decide (b.1 = c)).map (·.2)
def putB (B : Best) (c : Cost) (os : List Nat) : Best := if (look B c).isNone then B ++ [(c, os)] else B
def strict (a b : Cost) : Bool := decide (a.1 < b.1) && decide (a.2 < b.2)
/-- as the program goes: k more numbers -/
def dfs (d : Disk) (l : List Ask) : Nat → List Nat → Best → Best
  | 0, os, B => putB B (costW d l os) os
  | k + 1, os, B => (List.range l.length).foldl (fun B i => if i ∈ os then B else if (B.any fun b => strict b.1 (costW d l (os ++ [i]))) = true then B else dfs d l k (os ++ [i]) B) B
/-- all orders that begin with os, k numbers more -/
def lv (n : Nat) : Nat → List Nat → List (List Nat)
  | 0, os => [os]
  | k + 1, os => (moreOf n os).flatMap (lv n k)
theorem lv_all (n : Nat) : ∀ (k j : Nat), (ordersK n j).flatMap (lv n k) = ordersK n (j + k)
  | 0, j => by
    show (ordersK n j).flatMap (fun os => [os]) = ordersK n j
    induction ordersK n j with
    | nil => rfl
    | cons x r ih => rw [List.flatMap_cons, ih]; rfl
  | k + 1, j => by
    have ih := lv_all n k (j + 1)
    show (ordersK n j).flatMap (fun os => (moreOf n os).flatMap (lv n k)) = _
    rw [← List.flatMap_assoc]
    show ((ordersK n j).flatMap (moreOf n)).flatMap (lv n k) = _
    rw [show (ordersK n j).flatMap (moreOf n) = ordersK n (j + 1) from rfl, ih]
    congr 1
    omega
theorem lv_root (n : Nat) : lv n n [] = ordersK n n := by
  have h := lv_all n n 0
  rw [Nat.zero_add] at h
  rw [← h]
  show _ = ([[]] : List (List Nat)).flatMap (lv n n)
  simp
theorem lv_is {n : Nat} : ∀ {k j : Nat} {os x : List Nat}, IsOrd n j os → x ∈ lv n k os → IsOrd n (j + k) x
  | 0, j, os, x, h, hx => by
    rw [List.mem_singleton.mp (show x ∈ [os] from hx)]
    exact h
  | k + 1, j, os, x, h, hx => by
    obtain ⟨o, ho, hx⟩ := List.mem_flatMap.mp hx
    obtain ⟨i, h1, h2, rfl⟩ := moreOf_mem.mp ho
    have ho' : IsOrd n (j + 1) (os ++ [i]) := by
      refine ⟨by rw [List.length_append, h.len]; rfl, fun m hm => ?_, ?_⟩
      · rcases List.mem_append.mp hm with hm | hm
        · exact h.lt m hm
        · rw [List.mem_singleton.mp hm]
          exact h1
      · rw [List.nodup_append]
        refine ⟨h.nd, by simp, fun a ha b hb => ?_⟩
        rw [List.mem_singleton.mp hb]
        exact fun e => h2 (e ▸ ha)
    have r := lv_is ho' hx
    have e : j + (k + 1) = j + 1 + k := by omega
    rw [e]
    exact r
theorem lv_le (d : Disk) (l : List Ask) : ∀ {k : Nat} {os x : List Nat}, x ∈ lv l.length k os → (costW d l os).1 ≤ (costW d l x).1 ∧ (costW d l os).2 ≤ (costW d l x).2
  | 0, os, x, hx => by
    rw [List.mem_singleton.mp (show x ∈ [os] from hx)]
    exact ⟨Int.le_refl _, Int.le_refl _⟩
  | k + 1, os, x, hx => by
    obtain ⟨o, ho, hx⟩ := List.mem_flatMap.mp hx
    obtain ⟨i, h1, h2, rfl⟩ := moreOf_mem.mp ho
    have a := costW_le d l os i
    have b := lv_le d l hx
    exact ⟨Int.le_trans a.1 b.1, Int.le_trans a.2 b.2⟩
/-- no order of all is as good in both and better in one -/
def Par (d : Disk) (l : List Ask) (c : Cost) : Prop := ∀ os ∈ ordersK l.length l.length, (costW d l os).1 ≤ c.1 → (costW d l os).2 ≤ c.2 → costW d l os = c
def firstOf (d : Disk) (l : List Ask) (S : List (List Nat)) (c : Cost) : Option (List Nat) := S.find? fun os => decide (costW d l os = c)
structure BInv (d : Disk) (l : List Ask) (S : List (List Nat)) (B : Best) : Prop where
  src : ∀ b ∈ B, b.2 ∈ S ∧ b.1 = costW d l b.2
  nd : (B.map (·.1)).Nodup
  par : ∀ c, Par d l c → look B c = firstOf d l S c
theorem look_none {B : Best} {c : Cost} : look B c = none ↔ c ∉ B.map (·.1) := by
  unfold look
  rw [Option.map_eq_none_iff, List.find?_eq_none]
  constructor
  · intro h hc
    obtain ⟨b, hb, rfl⟩ := List.mem_map.mp hc
    exact h b hb (by simp)
  · intro h b hb e
    exact h (List.mem_map.mpr ⟨b, hb, by simpa using e⟩)
theorem look_snoc (B : Best) (c c' : Cost) (os : List Nat) : look (B ++ [(c', os)]) c = (look B c).or (if c' = c then some os else none) := by
  unfold look
  rw [List.find?_append]
  cases h : B.find? (fun b => decide (b.1 = c)) with
  | some b => rfl
  | none =>
    by_cases e : c' = c
    · simp [e]
    · simp [e]
theorem firstOf_snoc (d : Disk) (l : List Ask) (S : List (List Nat)) (os : List Nat) (c : Cost) : firstOf d l (S ++ [os]) c = (firstOf d l S c).or (if costW d l os = c then some os else none) := by
  unfold firstOf
  rw [List.find?_append]
  cases h : S.find? (fun os => decide (costW d l os = c)) with
  | some b => rfl
  | none =>
    by_cases e : costW d l os = c
    · simp [e]
    · simp [e]
theorem binv_put {d : Disk} {l : List Ask} {S : List (List Nat)} {B : Best} (I : BInv d l S B) (os : List Nat) : BInv d l (S ++ [os]) (putB B (costW d l os) os) := by
  unfold putB
  by_cases h : (look B (costW d l os)).isNone = true
  · rw [if_pos h]
    have h0 : look B (costW d l os) = none := Option.isNone_iff_eq_none.mp h
    refine ⟨fun b hb => ?_, ?_, fun c hc => ?_⟩
    · rcases List.mem_append.mp hb with hb | hb
      · exact ⟨List.mem_append_left _ (I.src b hb).1, (I.src b hb).2⟩
      · rw [List.mem_singleton.mp hb]
        exact ⟨List.mem_append_right _ (List.mem_singleton.mpr rfl), rfl⟩
    · rw [List.map_append, List.nodup_append]
      refine ⟨I.nd, by simp, fun a ha b hb e => ?_⟩
      have eb : b = costW d l os := List.mem_singleton.mp (show b ∈ [costW d l os] from hb)
      exact look_none.mp h0 (by rw [← eb, ← e]; exact ha)
    · rw [look_snoc, firstOf_snoc, I.par c hc]
  · rw [if_neg h]
    refine ⟨fun b hb => ⟨List.mem_append_left _ (I.src b hb).1, (I.src b hb).2⟩, I.nd, fun c hc => ?_⟩
    rw [firstOf_snoc, ← I.par c hc]
    by_cases e : costW d l os = c
    · rw [if_pos e]
      cases hl : look B c with
      | none =>
        rw [e, hl] at h
        exact absurd rfl h
      | some x => rfl
    · rw [if_neg e]
      cases look B c <;> rfl
/-- orders that cannot be the first of a cost that counts may be passed over -/
theorem binv_skip {d : Disk} {l : List Ask} {S M : List (List Nat)} {B : Best} (I : BInv d l S B) (h : ∀ c, Par d l c → ∀ os ∈ M, costW d l os ≠ c) : BInv d l (S ++ M) B := by
  refine ⟨fun b hb => ⟨List.mem_append_left _ (I.src b hb).1, (I.src b hb).2⟩, I.nd, fun c hc => ?_⟩
  rw [I.par c hc]
  unfold firstOf
  rw [List.find?_append]
  have e : M.find? (fun os => decide (costW d l os = c)) = none := List.find?_eq_none.mpr fun os hos z => h c hc os hos (by simpa using z)
  rw [e]
  cases S.find? (fun os => decide (costW d l os = c)) <;> rfl
theorem foldl_range {β : Type} (f : β → Nat → β) (n : Nat) (b : β) : (List.range (n + 1)).foldl f b = f ((List.range n).foldl f b) n := by
  rw [List.range_succ, List.foldl_append]
  rfl
theorem dfs_inv (d : Disk) (l : List Ask) : ∀ (k j : Nat) (os : List Nat) (S : List (List Nat)) (B : Best), j + k = l.length → IsOrd l.length j os → (∀ x ∈ S, x ∈ ordersK l.length l.length) → BInv d l S B → BInv d l (S ++ lv l.length k os) (dfs d l k os B)
  | 0, j, os, S, B, hj, ho, hS, I => binv_put I os
  | k + 1, j, os, S, B, hj, ho, hS, I => by
    have go : ∀ m, m ≤ l.length → BInv d l (S ++ (moreTo m os).flatMap (lv l.length k)) ((List.range m).foldl (fun B i => if i ∈ os then B else if (B.any fun b => strict b.1 (costW d l (os ++ [i]))) = true then B else dfs d l k (os ++ [i]) B) B) := by
      intro m
      induction m with
      | zero =>
        intro _
        show BInv d l (S ++ []) B
        rw [List.append_nil]
        exact I
      | succ m ih =>
        intro hm
        have ih := ih (by omega)
        rw [foldl_range]
        by_cases hmo : m ∈ os
        · rw [if_pos hmo, moreTo_in hmo]
          exact ih
        · rw [if_neg hmo, moreTo_out hmo, List.flatMap_append, ← List.append_assoc]
          have e1 : ([os ++ [m]] : List (List Nat)).flatMap (lv l.length k) = lv l.length k (os ++ [m]) := by simp
          rw [e1]
          have ho' : IsOrd l.length (j + 1) (os ++ [m]) := by
            refine ⟨by rw [List.length_append, ho.len]; rfl, fun i hi => ?_, ?_⟩
            · rcases List.mem_append.mp hi with hi | hi
              · exact ho.lt i hi
              · rw [List.mem_singleton.mp hi]
                omega
            · rw [List.nodup_append]
              refine ⟨ho.nd, by simp, fun a ha b hb => ?_⟩
              rw [List.mem_singleton.mp hb]
              exact fun e => hmo (e ▸ ha)
          have hS' : ∀ x ∈ S ++ (moreTo m os).flatMap (lv l.length k), x ∈ ordersK l.length l.length := fun x hx => by
            rcases List.mem_append.mp hx with hx | hx
            · exact hS x hx
            · obtain ⟨o, ho1, hx⟩ := List.mem_flatMap.mp hx
              obtain ⟨i, h1, h2, rfl⟩ := moreOf_mem.mp (show o ∈ moreOf m os from ho1)
              have : x ∈ lv l.length (k + 1) os := List.mem_flatMap.mpr ⟨_, moreOf_mem.mpr ⟨i, by omega, h2, rfl⟩, hx⟩
              have r := lv_is ho this
              rw [hj] at r
              exact ordersK_of r
          by_cases hp : ((((List.range m).foldl (fun B i => if i ∈ os then B else if (B.any fun b => strict b.1 (costW d l (os ++ [i]))) = true then B else dfs d l k (os ++ [i]) B) B)).any fun b => strict b.1 (costW d l (os ++ [m]))) = true
          · rw [if_pos hp]
            refine binv_skip ih fun c hc x hx e => ?_
            obtain ⟨b, hb, hst⟩ := List.any_eq_true.mp hp
            obtain ⟨b1, b2⟩ := ih.src b hb
            have hle := lv_le d l hx
            unfold strict at hst
            rw [Bool.and_eq_true, decide_eq_true_eq, decide_eq_true_eq] at hst
            rw [e] at hle
            have hb' := hc b.2 (hS' _ b1)
            rw [← b2] at hb'
            have := hb' (by omega) (by omega)
            rw [this] at hst
            omega
          · rw [if_neg hp]
            exact dfs_inv d l k (j + 1) (os ++ [m]) _ _ (by omega) ho' hS' ih
    exact go l.length (Nat.le_refl _)
theorem putB_len (B : Best) (c : Cost) (os : List Nat) : (putB B c os).length ≤ B.length + 1 := by
  unfold putB
  split
  · rw [List.length_append]
    exact Nat.le_refl _
  · exact Nat.le_succ _
theorem dfs_len (d : Disk) (l : List Ask) : ∀ (k : Nat) (os : List Nat) (B : Best) , (dfs d l k os B).length ≤ B.length + (lv l.length k os).length
  | 0, os, B => putB_len B _ os
  | k + 1, os, B => by
    have go : ∀ m, ((List.range m).foldl (fun B i => if i ∈ os then B else if (B.any fun b => strict b.1 (costW d l (os ++ [i]))) = true then B else dfs d l k (os ++ [i]) B) B).length ≤ B.length + ((moreTo m os).flatMap (lv l.length k)).length := by
      intro m
      induction m with
      | zero => exact Nat.le_add_right _ _
      | succ m ih =>
        rw [foldl_range]
        by_cases hmo : m ∈ os
        · rw [if_pos hmo, moreTo_in hmo]
          exact ih
        · rw [if_neg hmo, moreTo_out hmo, List.flatMap_append, List.length_append]
          split
          · omega
          · have h := dfs_len d l k (os ++ [m]) ((List.range m).foldl (fun B i => if i ∈ os then B else if (B.any fun b => strict b.1 (costW d l (os ++ [i]))) = true then B else dfs d l k (os ++ [i]) B) B)
            have e1 : ([os ++ [m]] : List (List Nat)).flatMap (lv l.length k) = lv l.length k (os ++ [m]) := by simp
            rw [e1]
            omega
    exact go l.length
/-! ### what is worth choosing -/
/-- rising: by way, then by longest wait -/
def Rising (a b : Cost) : Prop := a.1 < b.1 ∨ (a.1 = b.1 ∧ a.2 < b.2)
def scan : Option Int → List Cost → List Cost
  | _, [] => []
  | none, c :: r => c :: scan (some c.2) r
  | some m, c :: r => if c.2 < m then c :: scan (some c.2) r else scan (some m) r
theorem scan_sub : ∀ (ks : List Cost) (m : Option Int), (scan m ks).Sublist ks
  | [], m => by cases m <;> exact List.Sublist.slnil
  | c :: r, none => (scan_sub r _).cons_cons c
  | c :: r, some m => by
    unfold scan
    split
    · exact (scan_sub r _).cons_cons c
    · exact (scan_sub r _).cons c
theorem scan_mem : ∀ (ks : List Cost) (m : Option Int) (x : Cost), ks.Pairwise Rising → (x ∈ scan m ks ↔ x ∈ ks ∧ (∀ m', m = some m' → x.2 < m') ∧ ∀ c ∈ ks, c.1 ≤ x.1 → c.2 ≤ x.2 → c = x)
  | [], m, x, _ => by cases m <;> simp [scan]
  | c :: r, m, x, hp => by
    obtain ⟨hc, hr⟩ := List.pairwise_cons.mp hp
    have kept : (∀ m', m = some m' → c.2 < m') → (x ∈ c :: scan (some c.2) r ↔ x ∈ c :: r ∧ (∀ m', m = some m' → x.2 < m') ∧ ∀ c' ∈ c :: r, c'.1 ≤ x.1 → c'.2 ≤ x.2 → c' = x) := by
      intro hm
      rw [List.mem_cons, scan_mem r (some c.2) x hr]
      constructor
      · rintro (rfl | ⟨h1, h2, h3⟩)
        · refine ⟨List.mem_cons_self, hm, fun c' hc' a b => ?_⟩
          rcases List.mem_cons.mp hc' with e | hc'
          · exact e
          · have := hc c' hc'
            unfold Rising at this
            omega
        · have h2 := h2 c.2 rfl
          refine ⟨List.mem_cons_of_mem _ h1, fun m' e => ?_, fun c' hc' a b => ?_⟩
          · have := hm m' e
            omega
          · rcases List.mem_cons.mp hc' with e | hc'
            · subst e
              omega
            · exact h3 c' hc' a b
      · rintro ⟨h1, h2, h3⟩
        rcases List.mem_cons.mp h1 with e | h1
        · exact .inl e
        · refine .inr ⟨h1, fun m' e => ?_, fun c' hc' => h3 c' (List.mem_cons_of_mem _ hc')⟩
          cases e
          have hx := hc x h1
          unfold Rising at hx
          by_cases hlt : x.2 < c.2
          · exact hlt
          · have := h3 c List.mem_cons_self (by omega) (by omega)
            subst this
            omega
    cases m with
    | none => exact kept fun m' e => by cases e
    | some m =>
      unfold scan
      by_cases h : c.2 < m
      · rw [if_pos h]
        exact kept fun m' e => by cases e; exact h
      · rw [if_neg h, scan_mem r (some m) x hr]
        constructor
        · rintro ⟨h1, h2, h3⟩
          have h2 := h2 m rfl
          refine ⟨List.mem_cons_of_mem _ h1, fun m' e => by cases e; exact h2, fun c' hc' a b => ?_⟩
          rcases List.mem_cons.mp hc' with e | hc'
          · subst e
            omega
          · exact h3 c' hc' a b
        · rintro ⟨h1, h2, h3⟩
          have h2 := h2 m rfl
          rcases List.mem_cons.mp h1 with e | h1
          · subst e
            omega
          · exact ⟨h1, fun m' e => by cases e; exact h2, fun c' hc' => h3 c' (List.mem_cons_of_mem _ hc')⟩
theorem rising_same : ∀ {a b : List Cost}, a.Pairwise Rising → b.Pairwise Rising → (∀ x, x ∈ a ↔ x ∈ b) → a = b
  | [], [], _, _, _ => rfl
  | [], y :: b, _, _, h => absurd ((h y).mpr List.mem_cons_self) (by simp)
  | x :: a, [], _, _, h => absurd ((h x).mp List.mem_cons_self) (by simp)
  | x :: a, y :: b, ha, hb, h => by
    obtain ⟨ha1, ha2⟩ := List.pairwise_cons.mp ha
    obtain ⟨hb1, hb2⟩ := List.pairwise_cons.mp hb
    have e : x = y := by
      rcases List.mem_cons.mp ((h x).mp List.mem_cons_self) with e | hx
      · exact e
      · rcases List.mem_cons.mp ((h y).mpr List.mem_cons_self) with e | hy
        · exact e.symm
        · have a1 := hb1 x hx
          have a2 := ha1 y hy
          unfold Rising at a1 a2
          omega
    subst e
    have ht : ∀ z, z ∈ a ↔ z ∈ b := fun z => by
      have n1 : ∀ w ∈ a, w ≠ x := fun w hw e => by
        have := ha1 w hw
        rw [e] at this
        unfold Rising at this
        omega
      have n2 : ∀ w ∈ b, w ≠ x := fun w hw e => by
        have := hb1 w hw
        rw [e] at this
        unfold Rising at this
        omega
      constructor
      · intro hz
        rcases List.mem_cons.mp ((h z).mp (List.mem_cons_of_mem _ hz)) with e | hz'
        · exact absurd e (n1 z hz)
        · exact hz'
      · intro hz
        rcases List.mem_cons.mp ((h z).mpr (List.mem_cons_of_mem _ hz)) with e | hz'
        · exact absurd e (n2 z hz)
        · exact hz'
    rw [rising_same ha2 hb2 ht]
theorem rising_of {ks : List Cost} (nd : ks.Nodup) (s : ks.Pairwise fun x y => SrtO.lexB y x = false) : ks.Pairwise Rising := by
  refine (List.pairwise_and_iff.mpr ⟨nd, s⟩).imp fun {a b} h => ?_
  obtain ⟨h1, h2⟩ := h
  have h3 := SrtO.lexB_no.mp h2
  unfold Rising
  by_cases e : a.1 = b.1
  · by_cases e2 : a.2 = b.2
    · exact absurd (Prod.ext e e2) h1
    · omega
  · omega
/-- what front tells: each cost that counts, rising, with its first order -/
def IsFront (d : Disk) (l : List Ask) (F : List (Cost × List Nat)) : Prop := (F.map (·.1)).Pairwise Rising ∧ (∀ c, c ∈ F.map (·.1) ↔ (Par d l c ∧ ∃ os ∈ ordersK l.length l.length, costW d l os = c)) ∧ ∀ e ∈ F, firstOf d l (ordersK l.length l.length) e.1 = some e.2
theorem front_unique {d : Disk} {l : List Ask} {F G : List (Cost × List Nat)} (hF : IsFront d l F) (hG : IsFront d l G) : F = G := by
  have h1 : F.map (·.1) = G.map (·.1) := rising_same hF.1 hG.1 fun c => (hF.2.1 c).trans (hG.2.1 c).symm
  have h2 : ∀ (F G : List (Cost × List Nat)), F.map (·.1) = G.map (·.1) → (∀ e ∈ F, firstOf d l (ordersK l.length l.length) e.1 = some e.2) → (∀ e ∈ G, firstOf d l (ordersK l.length l.length) e.1 = some e.2) → F = G := by
    intro F
    induction F with
    | nil =>
      intro G e _ _
      cases G with
      | nil => rfl
      | cons y r => simp at e
    | cons x r ih =>
      intro G e a b
      cases G with
      | nil => simp at e
      | cons y r' =>
        rw [List.map_cons, List.map_cons] at e
        injection e with e1 e2
        have a1 := a x List.mem_cons_self
        have b1 := b y List.mem_cons_self
        rw [e1, b1] at a1
        have e3 : x = y := Prod.ext e1 (Option.some.inj a1).symm
        rw [e3, ih r' e2 (fun z hz => a z (List.mem_cons_of_mem _ hz)) (fun z hz => b z (List.mem_cons_of_mem _ hz))]
  exact h2 F G h1 hF.2.2 hG.2.2
/-- some cost that counts is as good as any -/
theorem par_below (d : Disk) (l : List Ask) : ∀ (S : List (List Nat)), (∀ x ∈ S, x ∈ ordersK l.length l.length) → ∀ os ∈ ordersK l.length l.length, ∃ o ∈ ordersK l.length l.length, Par d l (costW d l o) ∧ (costW d l o).1 ≤ (costW d l os).1 ∧ (costW d l o).2 ≤ (costW d l os).2 := by
  intro S _ os hos
  -- the least of way, then of longest wait, of all that are as good
  have key : ∀ (M : List (List Nat)), M ≠ [] → ∃ o ∈ M, ∀ p ∈ M, ¬ Rising (costW d l p) (costW d l o) := by
    intro M
    induction M with
    | nil => intro h; exact absurd rfl h
    | cons x r ih =>
      intro _
      by_cases hr : r = []
      · subst hr
        refine ⟨x, List.mem_cons_self, fun p hp h => ?_⟩
        rw [List.mem_singleton.mp hp] at h
        unfold Rising at h
        omega
      · obtain ⟨o, ho, hmin⟩ := ih hr
        by_cases hx : Rising (costW d l x) (costW d l o)
        · refine ⟨x, List.mem_cons_self, fun p hp h => ?_⟩
          rcases List.mem_cons.mp hp with e | hp
          · rw [e] at h
            unfold Rising at h
            omega
          · have := hmin p hp
            unfold Rising at h hx this
            omega
        · refine ⟨o, List.mem_cons_of_mem _ ho, fun p hp h => ?_⟩
          rcases List.mem_cons.mp hp with e | hp
          · rw [e] at h
            exact hx h
          · exact hmin p hp h
  have hM : (ordersK l.length l.length).filter (fun p => decide ((costW d l p).1 ≤ (costW d l os).1) && decide ((costW d l p).2 ≤ (costW d l os).2)) ≠ [] := by
    refine List.ne_nil_of_mem (a := os) (List.mem_filter.mpr ⟨hos, ?_⟩)
    simp
  obtain ⟨o, ho, hmin⟩ := key _ hM
  obtain ⟨h1, h2⟩ := List.mem_filter.mp ho
  rw [Bool.and_eq_true, decide_eq_true_eq, decide_eq_true_eq] at h2
  refine ⟨o, h1, fun p hp a b => ?_, h2.1, h2.2⟩
  have hpM : p ∈ (ordersK l.length l.length).filter (fun p => decide ((costW d l p).1 ≤ (costW d l os).1) && decide ((costW d l p).2 ≤ (costW d l os).2)) := by
    refine List.mem_filter.mpr ⟨hp, ?_⟩
    rw [Bool.and_eq_true, decide_eq_true_eq, decide_eq_true_eq]
    omega
  have := hmin p hpM
  unfold Rising at this
  by_cases e1 : (costW d l p).1 = (costW d l o).1
  · by_cases e2 : (costW d l p).2 = (costW d l o).2
    · exact Prod.ext e1 e2
    · omega
  · omega
theorem firstOf_some {d : Disk} {l : List Ask} {S : List (List Nat)} {c : Cost} {os : List Nat} (h : firstOf d l S c = some os) : os ∈ S ∧ costW d l os = c := by
  unfold firstOf at h
  exact ⟨List.mem_of_find?_eq_some h, by have := List.find?_some h; simpa using this⟩
theorem look_mem {B : Best} {c : Cost} {os : List Nat} (h : look B c = some os) : (c, os) ∈ B := by
  unfold look at h
  cases e : B.find? (fun b => decide (b.1 = c)) with
  | none =>
    rw [e] at h
    cases h
  | some b =>
    rw [e] at h
    have h1 := List.mem_of_find?_eq_some e
    have h2 := List.find?_some e
    have h3 : b.1 = c := by simpa using h2
    have h4 : b.2 = os := Option.some.inj h
    have : b = (c, os) := Prod.ext h3 h4
    rw [← this]
    exact h1
/-- what the program's scan keeps is the front -/
theorem front_of {d : Disk} {l : List Ask} {B : Best} (I : BInv d l (ordersK l.length l.length) B) {ks : List Cost} (hp : ks.Perm (B.map (·.1))) (hs : ks.Pairwise fun x y => SrtO.lexB y x = false) : IsFront d l ((scan none ks).map fun c => (c, (look B c).getD [])) := by
  have hr := rising_of (hp.nodup_iff.mpr I.nd) hs
  have em : ((scan none ks).map fun c => (c, (look B c).getD [])).map (·.1) = scan none ks := by
    rw [List.map_map]
    exact List.map_id _
  have key : ∀ c, c ∈ scan none ks ↔ (Par d l c ∧ ∃ os ∈ ordersK l.length l.length, costW d l os = c) := by
    intro c
    rw [scan_mem ks none c hr]
    constructor
    · rintro ⟨h1, _, h3⟩
      obtain ⟨b, hb, rfl⟩ := List.mem_map.mp (hp.mem_iff.mp h1)
      obtain ⟨b1, b2⟩ := I.src b hb
      refine ⟨fun os hos a b' => ?_, b.2, b1, b2.symm⟩
      obtain ⟨o, ho, po, o1, o2⟩ := par_below d l [] (fun x hx => absurd hx (by simp)) os hos
      have hf : firstOf d l (ordersK l.length l.length) (costW d l o) ≠ none := by
        unfold firstOf
        rw [Ne, List.find?_eq_none]
        intro h
        exact h o ho (by simp)
      rw [← I.par _ po] at hf
      have hin : costW d l o ∈ B.map (·.1) := by
        by_cases z : costW d l o ∈ B.map (·.1)
        · exact z
        · exact absurd (look_none.mpr z) hf
      have e := h3 (costW d l o) (hp.mem_iff.mpr hin) (by omega) (by omega)
      rw [e] at o1 o2
      exact Prod.ext (by omega) (by omega)
    · rintro ⟨pc, os, hos, rfl⟩
      have hf : firstOf d l (ordersK l.length l.length) (costW d l os) ≠ none := by
        unfold firstOf
        rw [Ne, List.find?_eq_none]
        intro h
        exact h os hos (by simp)
      rw [← I.par _ pc] at hf
      have hin : costW d l os ∈ B.map (·.1) := by
        by_cases z : costW d l os ∈ B.map (·.1)
        · exact z
        · exact absurd (look_none.mpr z) hf
      refine ⟨hp.mem_iff.mpr hin, fun m' e => (by cases e), fun c' hc' a b => ?_⟩
      obtain ⟨b0, hb0, rfl⟩ := List.mem_map.mp (hp.mem_iff.mp hc')
      obtain ⟨b1, b2⟩ := I.src b0 hb0
      rw [b2] at a b ⊢
      exact pc b0.2 b1 a b
  refine ⟨by rw [em]; exact hr.sublist (scan_sub ks none), fun c => by rw [em]; exact key c, fun e he => ?_⟩
  obtain ⟨c, hc, rfl⟩ := List.mem_map.mp he
  obtain ⟨pc, os, hos, ec⟩ := (key c).mp hc
  have hl := I.par c pc
  show firstOf d l _ c = some ((look B c).getD [])
  rw [hl]
  cases hf : firstOf d l (ordersK l.length l.length) c with
  | some x => rfl
  | none =>
    unfold firstOf at hf
    exact absurd (by simpa using ec) (List.find?_eq_none.mp hf os hos)
/-! ### what the law keeps is the front, too -/
def knownOf (d : Disk) (l : List Ask) (S : List (List Nat)) : Best := S.foldl (fun B os => putB B (costW d l os) os) []
theorem known_snoc (d : Disk) (l : List Ask) (S : List (List Nat)) (os : List Nat) : knownOf d l (S ++ [os]) = putB (knownOf d l S) (costW d l os) os := by
  unfold knownOf
  rw [List.foldl_append]
  rfl
structure KInv (d : Disk) (l : List Ask) (S : List (List Nat)) (B : Best) : Prop where
  src : ∀ b ∈ B, b.2 ∈ S ∧ b.1 = costW d l b.2
  nd : (B.map (·.1)).Nodup
  all : ∀ c, look B c = firstOf d l S c
theorem kinv_put {d : Disk} {l : List Ask} {S : List (List Nat)} {B : Best} (I : KInv d l S B) (os : List Nat) : KInv d l (S ++ [os]) (putB B (costW d l os) os) := by
  unfold putB
  by_cases h : (look B (costW d l os)).isNone = true
  · rw [if_pos h]
    have h0 : look B (costW d l os) = none := Option.isNone_iff_eq_none.mp h
    refine ⟨fun b hb => ?_, ?_, fun c => ?_⟩
    · rcases List.mem_append.mp hb with hb | hb
      · exact ⟨List.mem_append_left _ (I.src b hb).1, (I.src b hb).2⟩
      · rw [List.mem_singleton.mp hb]
        exact ⟨List.mem_append_right _ (List.mem_singleton.mpr rfl), rfl⟩
    · rw [List.map_append, List.nodup_append]
      refine ⟨I.nd, by simp, fun a ha b hb e => ?_⟩
      have eb : b = costW d l os := List.mem_singleton.mp (show b ∈ [costW d l os] from hb)
      exact look_none.mp h0 (by rw [← eb, ← e]; exact ha)
    · rw [look_snoc, firstOf_snoc, I.all c]
  · rw [if_neg h]
    refine ⟨fun b hb => ⟨List.mem_append_left _ (I.src b hb).1, (I.src b hb).2⟩, I.nd, fun c => ?_⟩
    rw [firstOf_snoc, ← I.all c]
    by_cases e : costW d l os = c
    · rw [if_pos e]
      cases hl : look B c with
      | none =>
        rw [e, hl] at h
        exact absurd rfl h
      | some x => rfl
    · rw [if_neg e]
      cases look B c <;> rfl
theorem known_inv (d : Disk) (l : List Ask) (S : List (List Nat)) : KInv d l S (knownOf d l S) := by
  have go : ∀ (R S : List (List Nat)) (B : Best), KInv d l S B → KInv d l (S ++ R) (R.foldl (fun B os => putB B (costW d l os) os) B) := by
    intro R
    induction R with
    | nil =>
      intro S B I
      rw [List.append_nil]
      exact I
    | cons x r ih =>
      intro S B I
      have h := ih (S ++ [x]) _ (kinv_put I x)
      rw [List.append_assoc] at h
      exact h
  exact go S [] [] ⟨fun b hb => absurd hb (by simp), List.nodup_nil, fun c => rfl⟩
theorem known_len (d : Disk) (l : List Ask) (S : List (List Nat)) : (knownOf d l S).length ≤ S.length := by
  have go : ∀ (R : List (List Nat)) (B : Best), (R.foldl (fun B os => putB B (costW d l os) os) B).length ≤ B.length + R.length := by
    intro R
    induction R with
    | nil => intro B; exact Nat.le_refl _
    | cons x r ih =>
      intro B
      have h1 := ih (putB B (costW d l x) x)
      have h2 := putB_len B (costW d l x) x
      rw [List.length_cons]
      exact Nat.le_trans h1 (by omega)
  have := go S []
  unfold knownOf
  simpa using this
/-- no other cost is as good in both -/
def loneB (B : Best) (c : Cost) : Bool := B.all fun b => !(!decide (b.1 = c) && (decide (b.1.1 ≤ c.1) && decide (b.1.2 ≤ c.2)))
theorem due_front {d : Disk} {l : List Ask} {ks : List Cost} (hp : ks.Perm ((knownOf d l (ordersK l.length l.length)).map (·.1))) (hs : ks.Pairwise fun x y => SrtO.lexB y x = false) :
    IsFront d l ((ks.filter (loneB (knownOf d l (ordersK l.length l.length)))).map fun c => (c, (look (knownOf d l (ordersK l.length l.length)) c).getD [])) := by
  have I := known_inv d l (ordersK l.length l.length)
  revert hp I
  generalize knownOf d l (ordersK l.length l.length) = B
  intro hp I
  have hr := rising_of (hp.nodup_iff.mpr I.nd) hs
  have em : ((ks.filter (loneB B)).map fun c => (c, (look B c).getD [])).map (·.1) = ks.filter (loneB B) := by
    rw [List.map_map]
    exact List.map_id _
  have at_ : ∀ os ∈ ordersK l.length l.length, costW d l os ∈ B.map (·.1) := fun os hos => by
    by_cases z : costW d l os ∈ B.map (·.1)
    · exact z
    · have h := look_none.mpr z
      rw [I.all] at h
      unfold firstOf at h
      exact absurd (by simp) (List.find?_eq_none.mp h os hos)
  have key : ∀ c, c ∈ ks.filter (loneB B) ↔ (Par d l c ∧ ∃ os ∈ ordersK l.length l.length, costW d l os = c) := by
    intro c
    rw [List.mem_filter]
    constructor
    · rintro ⟨h1, h2⟩
      obtain ⟨b, hb, rfl⟩ := List.mem_map.mp (hp.mem_iff.mp h1)
      obtain ⟨b1, b2⟩ := I.src b hb
      refine ⟨fun os hos x y => ?_, b.2, b1, b2.symm⟩
      obtain ⟨b', hb', e⟩ := List.mem_map.mp (at_ os hos)
      unfold loneB at h2
      have h3 := List.all_eq_true.mp h2 b' hb'
      rw [e] at h3
      by_cases z : costW d l os = b.1
      · exact z
      · rw [decide_eq_false z, decide_eq_true x, decide_eq_true y] at h3
        cases h3
    · rintro ⟨pc, os, hos, rfl⟩
      refine ⟨hp.mem_iff.mpr (at_ os hos), ?_⟩
      unfold loneB
      refine List.all_eq_true.mpr fun b hb => ?_
      obtain ⟨b1, b2⟩ := I.src b hb
      by_cases z : b.1 = costW d l os
      · rw [decide_eq_true z]
        rfl
      · rw [decide_eq_false z]
        by_cases x : b.1.1 ≤ (costW d l os).1
        · by_cases y : b.1.2 ≤ (costW d l os).2
          · rw [b2] at x y z
            exact absurd (pc b.2 b1 x y) z
          · rw [decide_eq_false y]
            simp
        · rw [decide_eq_false x]
          simp
  refine ⟨by rw [em]; exact hr.sublist List.filter_sublist, fun c => by rw [em]; exact key c, fun e he => ?_⟩
  obtain ⟨c, hc, rfl⟩ := List.mem_map.mp he
  obtain ⟨pc, os, hos, ec⟩ := (key c).mp hc
  show firstOf d l _ c = some ((look B c).getD [])
  rw [I.all]
  cases hf : firstOf d l (ordersK l.length l.length) c with
  | some x => rfl
  | none =>
    unfold firstOf at hf
    exact absurd (by simpa using ec) (List.find?_eq_none.mp hf os hos)
end Ag

namespace Ag
open PySem PySem.Spec PyProof.Rows L2
/-! ### the dict of costs in the heap -/
def KvAt (G : Hp) (e : List Key × V) (b : Cost × List Nat) : Prop := e.1 = keyOf b.1 ∧ OrdAt G e.2 b.2
theorem kvAt_same {G G' : Hp} {e : List Key × V} {b : Cost × List Nat} (s : Same G G') (h : KvAt G e b) : KvAt G' e b := ⟨h.1, ordAt_same s h.2⟩
theorem kv_none {G : Hp} {c : Cost} : ∀ {kvs : List (List Key × V)} {B : Best}, All2 (KvAt G) kvs B → ((valV kvs (keyOf c)).isSome = (look B c).isSome)
  | [], [], _ => rfl
  | e :: kvs, b :: B, h => by
    have ih := kv_none (c := c) h.2
    by_cases z : b.1 = c
    · have e1 : e.1 = keyOf c := by rw [h.1.1, z]
      rw [valV_pos e1]
      unfold look
      simp [z]
    · have e1 : ¬ e.1 = keyOf c := fun q => z (keyOf_inj (h.1.1.symm.trans q))
      rw [valV_neg e1, ih]
      unfold look
      simp [z]
  | [], _ :: _, h => h.elim
  | _ :: _, [], h => h.elim
theorem kv_some {G : Hp} {c : Cost} : ∀ {kvs : List (List Key × V)} {B : Best} {os : List Nat}, All2 (KvAt G) kvs B → look B c = some os → ∃ v, valV kvs (keyOf c) = some v ∧ OrdAt G v os
  | [], [], _, _, e => by simp [look] at e
  | e :: kvs, b :: B, os, h, hl => by
    by_cases z : b.1 = c
    · have e1 : e.1 = keyOf c := by rw [h.1.1, z]
      refine ⟨e.2, valV_pos e1, ?_⟩
      unfold look at hl
      simp [z] at hl
      rw [← hl]
      exact h.1.2
    · have e1 : ¬ e.1 = keyOf c := fun q => z (keyOf_inj (h.1.1.symm.trans q))
      have hl' : look B c = some os := by
        unfold look at hl ⊢
        simpa [z] using hl
      obtain ⟨v, h1, h2⟩ := kv_some h.2 hl'
      exact ⟨v, by rw [valV_neg e1]; exact h1, h2⟩
  | [], _ :: _, _, h, _ => h.elim
  | _ :: _, [], _, h, _ => h.elim
theorem kv_keys {G : Hp} : ∀ {kvs : List (List Key × V)} {B : Best}, All2 (KvAt G) kvs B → kvs.map (·.1) = (B.map (·.1)).map keyOf
  | [], [], _ => rfl
  | e :: kvs, b :: B, h => by
    rw [List.map_cons, List.map_cons, List.map_cons, kv_keys h.2, h.1.1]
  | [], _ :: _, h => h.elim
  | _ :: _, [], h => h.elim
theorem kv_putN {G : Hp} {c : Cost} {kvs : List (List Key × V)} {B : Best} (h : All2 (KvAt G) kvs B) (hl : look B c = none) (v : V) : putK kvs (keyOf c) v = kvs ++ [(keyOf c, v)] := by
  refine putK_new v ?_
  have := kv_none (c := c) h
  rw [hl] at this
  exact Option.isSome_eq_false_iff.mp this |> Option.isNone_iff_eq_none.mp
/-- a comprehension over the keys of a locked dict with tuple keys -/
theorem lc_keysT {d : Addr} {o : Obj} {kvs : List (List Key × V)} {g : TG} {tt : TT} {te : TE} {vs : List Nat} {σ : L2.St} {H1 : Hp} {D : Addr} {Qd : Hp → Prop} (Pv : Nat → Hp → Prop) (h0 : Pv 0 (upd H1 D (.lst []))) (hl : ∀ i H, i ≤ kvs.length → Pv i H → H d = some (.frz o (.dT kvs)))
    (hs : ∀ i k v q H, kvs[i]? = some (k, v) → H q = some (.tup (k.map kV)) → Pv i H → g (.ref q) (wipe σ vs) H fun σ2 H2 => wipe σ2 vs = wipe σ vs ∧ tt σ2 H2 fun b H3 =>
      if b = true then te σ2 H3 fun y H4 => ∃ acc, H4 D = some (.lst acc) ∧ acc.length < sizeLine ∧ Pv (i + 1) (upd H4 D (.lst (acc ++ [y]))) else Pv (i + 1) H3) (hd : ∀ H, Pv kvs.length H → Qd H) :
    ∃ W : Nat → Nat → Hp → Prop, (∃ m, W 0 m (upd H1 D (.lst []))) ∧ ∀ i m H, W i m H →
      ((Itkt d o kvs).stop i H ∧ Qd H) ∨ ((Itkt d o kvs).go i H ∧ ∃ Nx : Hp → Prop, (∀ H', Nx H' → ∃ m', m' < m ∧ W (i + 1) m' H') ∧ ∀ x H', (Itkt d o kvs).yld i H x H' → g x (wipe σ vs) H' fun σ2 H2 => wipe σ2 vs = wipe σ vs ∧ tt σ2 H2 fun b H3 =>
        if b = true then te σ2 H3 fun y H4 => ∃ acc, H4 D = some (.lst acc) ∧ acc.length < sizeLine ∧ Nx (upd H4 D (.lst (acc ++ [y]))) else Nx H3) := by
  refine ⟨fun i m H => m = kvs.length - i ∧ i ≤ kvs.length ∧ Pv i H, ⟨kvs.length, by simp, Nat.zero_le _, h0⟩, ?_⟩
  rintro i m H ⟨rfl, hi, p⟩
  have q := hl i H hi p
  by_cases hlt : i < kvs.length
  · refine .inr ⟨⟨q, hlt⟩, Pv (i + 1), fun H' p' => ⟨kvs.length - (i + 1), by omega, rfl, hlt, p'⟩, fun x H' y => ?_⟩
    obtain ⟨e, k, v, a, hk, rfl, ha⟩ := y
    subst e
    exact hs i k v a _ hk ha p
  · have e : i = kvs.length := by omega
    subst e
    exact .inl ⟨⟨q, Nat.le_refl _⟩, hd H p⟩
theorem isOrd_snoc {n m k : Nat} {os : List Nat} (h : IsOrd n k os) (hm : m < n) (hn : m ∉ os) : IsOrd n (k + 1) (os ++ [m]) := by
  refine ⟨by rw [List.length_append, h.len]; rfl, fun i hi => ?_, ?_⟩
  · rcases List.mem_append.mp hi with hi | hi
    · exact h.lt i hi
    · rw [List.mem_singleton.mp hi]
      exact hm
  · rw [List.nodup_append]
    refine ⟨h.nd, by simp, fun a ha b hb => ?_⟩
    rw [List.mem_singleton.mp hb]
    exact fun e => hn (e ▸ ha)
theorem none_beats {B : Best} {c : Cost} : ((B.filter fun e => strict e.1 c).map (·.1)).isEmpty = !(B.any fun b => strict b.1 c) := by
  induction B with
  | nil => rfl
  | cons x r ih =>
    by_cases h : strict x.1 c = true
    · simp [h]
    · have h' : strict x.1 c = false := by simpa using h
      rw [List.filter_cons_of_neg (by simpa using h), ih, List.any_cons, h']
      rfl
/-- pairs of ints -/
def PrAt (G : Hp) (v : V) (c : Cost) : Prop := ∃ q, v = .ref q ∧ G q = some (.tup [.int c.1, .int c.2])
def dPr (c : Cost) : PyData := .tuple ([c.1, c.2].map PyData.int)
theorem prAt_dp {K : PySem.W.Frag} {G : Hp} {v : V} {c : Cost} (h : PrAt G v c) : Dp K G v (dPr c) := by
  obtain ⟨q, rfl, h⟩ := h
  exact dp_tints_of (ns := [c.1, c.2]) (SqT.of h)
theorem prAt_same {G G' : Hp} {v : V} {c : Cost} (s : Same G G') (h : PrAt G v c) : PrAt G' v c := by
  obtain ⟨q, e, h⟩ := h
  exact ⟨q, e, s _ _ h⟩
theorem canLay_prs : ∀ l : List Cost, PyData.canLayAll0 (l.map dPr) = true
  | [] => by simp [PyData.canLayAll0]
  | n :: r => by simp [PyData.canLayAll0, PyData.canLay0, dPr, canLay_prs r]
theorem depth_prs : ∀ l : List Cost, PyData.depthAll (l.map dPr) ≤ 1
  | [] => by simp [PyData.depthAll]
  | n :: r => by
    have h := depth_prs r
    have e : PyData.depth (dPr n) = 1 := by
      unfold dPr
      rw [PyData.depth, PySem.W.depth_ints]
    rw [List.map_cons, PyData.depthAll, e]
    omega
theorem shaped_prs (l : List Cost) : SeqAt.shaped (.list (l.map dPr)) = true := by
  have := depth_prs l
  unfold SeqAt.shaped
  simp [PyData.canLay0, canLay_prs, PyData.depth]
  omega
theorem eqv_nilA (ds : List PyData) : PyData.eqv (.list ds) (.list []) = ds.isEmpty := by
  cases ds with
  | nil => simp [PyData.eqv, PyData.eqvAll]
  | cons n r => simp [PyData.eqv, PyData.eqvAll]
/-- as dfs goes, the first m numbers -/
def dfsTo (d : Disk) (l : List Ask) (k : Nat) (os : List Nat) (B : Best) (m : Nat) : Best := (List.range m).foldl (fun B i => if i ∈ os then B else if (B.any fun b => strict b.1 (costW d l (os ++ [i]))) = true then B else dfs d l k (os ++ [i]) B) B
theorem dfsTo_succ (d : Disk) (l : List Ask) (k : Nat) (os : List Nat) (B : Best) (m : Nat) : dfsTo d l k os B (m + 1) = if m ∈ os then dfsTo d l k os B m else if ((dfsTo d l k os B m).any fun b => strict b.1 (costW d l (os ++ [m]))) = true then dfsTo d l k os B m else dfs d l k (os ++ [m]) (dfsTo d l k os B m) := by
  unfold dfsTo
  rw [foldl_range]
theorem dfsTo_len (d : Disk) (l : List Ask) (k : Nat) (os : List Nat) (B : Best) : ∀ m, (dfsTo d l k os B m).length ≤ B.length + ((moreTo m os).flatMap (lv l.length k)).length
  | 0 => Nat.le_add_right _ _
  | m + 1 => by
    have ih := dfsTo_len d l k os B m
    rw [dfsTo_succ]
    by_cases hmo : m ∈ os
    · rw [if_pos hmo, moreTo_in hmo]
      exact ih
    · rw [if_neg hmo, moreTo_out hmo, List.flatMap_append, List.length_append]
      split
      · omega
      · have h := dfs_len d l k (os ++ [m]) (dfsTo d l k os B m)
        have e1 : ([os ++ [m]] : List (List Nat)).flatMap (lv l.length k) = lv l.length k (os ++ [m]) := by simp
        rw [e1]
        omega
theorem moreTo_mono {k n : Nat} {os : List Nat} (f : List Nat → List (List Nat)) : ∀ j m, j ≤ m → ((moreTo j os).flatMap f).length ≤ ((moreTo m os).flatMap f).length
  | j, 0, h => by
    have e : j = 0 := by omega
    subst e
    exact Nat.le_refl _
  | j, m + 1, h => by
    by_cases e : j = m + 1
    · subst e
      exact Nat.le_refl _
    · have ih := moreTo_mono (k := k) (n := n) (os := os) f j m (by omega)
      by_cases hm : m ∈ os
      · rw [moreTo_in hm]
        exact ih
      · rw [moreTo_out hm, List.flatMap_append, List.length_append]
        omega
theorem dfsTo_room {d : Disk} {l : List Ask} {k : Nat} {os : List Nat} {B : Best} {m c : Nat} (hm : m < l.length) (hn : m ∉ os) (h : B.length + (lv l.length (k + 1) os).length ≤ c) : (dfsTo d l k os B m).length + (lv l.length k (os ++ [m])).length ≤ c := by
  have h1 := dfsTo_len d l k os B m
  have h2 := moreTo_mono (k := k) (n := 0) (os := os) (lv l.length k) (m + 1) l.length hm
  rw [moreTo_out hn, List.flatMap_append, List.length_append] at h2
  have e1 : ([os ++ [m]] : List (List Nat)).flatMap (lv l.length k) = lv l.length k (os ++ [m]) := by simp
  rw [e1] at h2
  have e2 : (lv l.length (k + 1) os).length = ((moreTo l.length os).flatMap (lv l.length k)).length := rfl
  omega
end Ag

namespace Ag
open PySem PySem.Spec PyProof.Rows L2
/-! ### the text -/
def top (i : Nat) : Stmt := PySem.Challenge.pw_armorder_k05_whole_what_is_worth_choosin.main.body.getD i (.Pass ⟨0, 0, 0, 0⟩)
theorem ifd_t {p : Prop} [Decidable p] {A B : Prop} (h : p) (a : A) : if decide p = true then A else B := by
  rw [decide_eq_true h]
  exact iteT a
theorem ifd_f {p : Prop} [Decidable p] {A B : Prop} (h : ¬ p) (b : B) : if decide p = true then A else B := by
  rw [decide_eq_false h]
  exact iteF b
theorem ifnd_t {p : Prop} [Decidable p] {A B : Prop} (h : p) (b : B) : if (!decide p) = true then A else B := by
  rw [decide_eq_true h]
  exact iteF b
theorem ifnd_f {p : Prop} [Decidable p] {A B : Prop} (h : ¬ p) (a : A) : if (!decide p) = true then A else B := by
  rw [decide_eq_false h]
  exact iteT a
theorem if2d {p : Prop} [Decidable p] {A B : Prop} (h1 : p → A) (h2 : ¬ p → B) : if decide p = true then A else B := by
  by_cases h : p
  · exact ifd_t h (h1 h)
  · exact ifd_f h (h2 h)
theorem rel_int {i : Int} {t : Tok} : RelV (.int i) (.int i t) := ⟨_, rfl⟩
/-- a def that is called: its name, that it stays, how its arguments bind -/
structure Cal (K : PySem.W.Frag) (mg : Str → Option Value) (x : Str) (f : Addr) (fd : FuncData) (ps : List Str) : Prop where
  m : mg x = some (.ref f)
  k : PySem.W.keepIn K (.ref f) = true
  b : Binds K fd ps []
/-! ### need_disk -/
abbrev s_need_disk : Stmt := top 11
def sp_need_disk (K : PySem.W.Frag) : Sp := fun vs H Q _ => ∃ (v : V) (d : Disk), vs = [v] ∧ Dp K H v (dDisk d) ∧ GoodDisk d ∧ Q .non H
theorem sc_need_disk : FnScope ["disk", "tracks", "sectors", "pace", "here"] ["disk"] (defScope s_need_disk) := ⟨rfl, rfl, rfl, by decide +kernel, rfl, by decide +kernel, by decide +kernel⟩
section
variable {P : Program} {w : World} {K : PySem.W.Frag} {mg : Str → Option Value} {base : Heap}
theorem ok_need_disk {f : Addr} {fd : FuncData} (F : Fun K "need_disk" "need_disk" s_need_disk f fd) {t1 t2 t3 : Tok} (m1 : mg "MOST_TRACKS" = some (.int 64 t1)) (m2 : mg "MOST_SECTORS" = some (.int 16 t2)) (m3 : mg "MOST_PACE" = some (.int 4 t3)) :
    FnOk P w K mg base CX0 1 f fd ["disk"] (sp_need_disk K) := by
  refine F.ok sc_need_disk (fun vs H Q E h => ?_) (fun cdv A outer s H vs Q E hr h => ?_)
  · obtain ⟨v, d, rfl, _⟩ := h
    rfl
  · obtain ⟨v, d, rfl, hd, g, q⟩ := h
    obtain ⟨a, rfl, hT⟩ := dp_disk hd
    have nd := sc_need_disk.nd
    refine ⟨_, pss_cons (ps_asg (pv 0) (pg_tup rfl (pgs_cons (pg_name (i := 1) nd rfl (.inl rfl)) (pgs_cons (pg_name (i := 2) nd rfl (.inl rfl)) (pgs_cons (pg_name (i := 3) nd rfl (.inl rfl)) (pgs_cons (pg_name (i := 4) nd rfl (.inl rfl)) pgs_nil))))))
      (pss_cons (ps_if (pt_not (pt_chain op_le op_le pe_int (pv 1) (pe_glob rfl m1 rel_int))) (pss_one ps_never) pss_nil)
      (pss_cons (ps_if (pt_not (pt_chain op_le op_le pe_int (pv 2) (pe_glob rfl m2 rel_int))) (pss_one ps_never) pss_nil)
      (pss_cons (ps_if (pt_not (pt_chain op_le op_le pe_int (pv 3) (pe_glob rfl m3 rel_int))) (pss_one ps_never) pss_nil)
      (pss_one (ps_if (pt_not (pt_chain op_le op_lt pe_int (pv 4) (pv 1))) (pss_one ps_never) pss_nil))))), ?_⟩
    refine ⟨_, rfl, a, _, rfl, hT, rfl, _, _, rfl, _, _, rfl, _, _, rfl, _, _, rfl, rfl, ?_⟩
    refine ⟨_, rfl, _, _, rfl, rfl, _, rfl, ifd_t g.t1 ⟨_, _, rfl, rfl, _, rfl, ifnd_t g.t2 ?_⟩⟩
    refine ⟨_, rfl, _, _, rfl, rfl, _, rfl, ifd_t g.s1 ⟨_, _, rfl, rfl, _, rfl, ifnd_t g.s2 ?_⟩⟩
    refine ⟨_, rfl, _, _, rfl, rfl, _, rfl, ifd_t g.p1 ⟨_, _, rfl, rfl, _, rfl, ifnd_t g.p2 ?_⟩⟩
    refine ⟨_, rfl, _, _, rfl, rfl, _, rfl, ifd_t g.h1 ⟨_, rfl, _, _, rfl, rfl, _, rfl, ifnd_t g.h2 ?_⟩⟩
    exact q
end
/-! ### need_asks -/
abbrev s_need_asks : Stmt := top 12
def sp_need_asks (K : PySem.W.Frag) : Sp := fun vs H Q _ => ∃ (v u : V) (d : Disk) (l : List Ask), vs = [v, u] ∧ Dp K H v (dDisk d) ∧ Dp K H u (dAsks l) ∧ GoodAsks d l ∧ Q .non H
theorem sc_need_asks : FnScope ["disk", "asks", "number", "come", "track", "sector", "good"] ["disk", "asks"] (defScope s_need_asks) := ⟨rfl, rfl, rfl, by decide +kernel, rfl, by decide +kernel, by decide +kernel⟩
section
variable {P : Program} {w : World} {K : PySem.W.Frag} {mg : Str → Option Value} {base : Heap}
theorem ok_need_asks {f : Addr} {fd : FuncData} (F : Fun K "need_asks" "need_asks" s_need_asks f fd) (mr : mg "range" = none) (ml : mg "len" = none) {t1 t2 : Tok} (m1 : mg "MOST_ASKS" = some (.int 40 t1)) (m2 : mg "MOST_COME" = some (.int 999 t2)) :
    FnOk P w K mg base CX0 1 f fd ["disk", "asks"] (sp_need_asks K) := by
  refine F.ok sc_need_asks (fun vs H Q E h => ?_) (fun cdv A outer s H vs Q E hr h => ?_)
  · obtain ⟨v, u, d, l, rfl, _⟩ := h
    rfl
  · obtain ⟨v, u, d, l, rfl, hd, ha, g, q⟩ := h
    obtain ⟨a, rfl, hT⟩ := dp_disk hd
    obtain ⟨b, xs, rfl, hL, hlen, hat⟩ := dp_asks ha
    have nd := sc_need_asks.nd
    refine ⟨_, pss_one (ps_for PassesOwn.never rfl (pi_range1 rfl mr (pa_cons (pe_callB call_len_seq (by rfl) ml PySem.boot_len (pa_cons (pv 1) pa_nil)) pa_nil)) (pg_name (i := 2) nd rfl (.inl rfl))
      (pss_cons (ps_asg (pe_ix ix_list (pv 1) (pv 2) (fun _ _ => rfl)) (pg_tup rfl (pgs_cons (pg_name (i := 3) nd rfl (.inl rfl)) (pgs_cons (pg_name (i := 4) nd rfl (.inl rfl)) (pgs_cons (pg_name (i := 5) nd rfl (.inl rfl)) pgs_nil)))))
      (pss_cons (ps_set (i := 6) nd rfl (.inl rfl) (pe_and (pe_cmpR op_lt (pv 2) (pe_glob rfl m1 rel_int) (nomark _)) (pe_one (pe_chain op_le op_le pe_int (pv 3) (pe_glob rfl m2 rel_int)))))
      (pss_one (ps_if (PW.pt (pw_or (pt_not (pt_val (pv 6))) (pw_or (pt_not (pt_chain op_le op_lt pe_int (pv 4) (pe_ix ix_tup (pv 0) pe_int (fun _ _ => rfl)))) (pw_or1 (pt_not (pt_chain op_le op_lt pe_int (pv 5) (pe_ix ix_tup (pv 0) pe_int (fun _ _ => rfl)))))))) (pss_one ps_never) pss_nil))))), ?_⟩
    have h40 := g.len
    refine ⟨_, rfl, b, xs, rfl, .inl hL, _, rfl, by rw [hlen]; omega, by rw [hlen]; omega, ?_⟩
    refine for_range (lo := 0) (n := xs.length) (fun i σ H' => H' = H ∧ ∃ v2 v3 v4 v5 v6, σ = [some (.ref a), some (.ref b), v2, v3, v4, v5, v6]) ⟨rfl, none, none, none, none, none, rfl⟩ ?_ ?_
    · rintro i σ H' hi ⟨rfl, v2, v3, v4, v5, v6, rfl⟩
      obtain ⟨k, hk⟩ : ∃ k, l[i]? = some k := ⟨_, List.getElem?_eq_getElem (by omega)⟩
      obtain ⟨p, hp, hpT, _⟩ := hat i k hk
      have ga := g.at hk
      refine ⟨_, rfl, _, rfl, b, xs, (i : Int), .ref p, rfl, by rw [Int.zero_add], hL, atI_nat hp, ?_⟩
      refine ⟨p, _, rfl, hpT, rfl, _, _, rfl, _, _, rfl, _, _, rfl, rfl, ?_⟩
      refine ⟨_, rfl, _, _, rfl, rfl, _, rfl, ifd_t (by omega) ?_⟩
      refine ⟨_, rfl, _, _, rfl, rfl, _, rfl, ifd_t ga.c1 ⟨_, _, rfl, rfl, ?_⟩⟩
      refine ⟨_, rfl, _, rfl, ifnd_t ga.c2 ?_⟩
      refine ⟨_, rfl, _, _, rfl, rfl, _, rfl, ifd_t ga.t1 ⟨_, rfl, a, _, 0, _, rfl, rfl, hT, atI_nat (j := 0) rfl, _, _, rfl, rfl, _, rfl, ifnd_t ga.t2 ?_⟩⟩
      refine ⟨_, rfl, _, _, rfl, rfl, _, rfl, ifd_t ga.s1 ⟨_, rfl, a, _, 1, _, rfl, rfl, hT, atI_nat (j := 1) rfl, _, _, rfl, rfl, _, rfl, ifnd_t ga.s2 ?_⟩⟩
      exact ⟨rfl, _, _, _, _, _, rfl⟩
    · rintro σ H' ⟨rfl, _⟩
      exact q
end
/-! ### served -/
abbrev s_served : Stmt := top 13
def sp_served (K : PySem.W.Frag) : Sp := fun vs H Q _ => ∃ (v u : V) (d : Disk) (now here : Int) (a : Ask), vs = [v, .int now, .int here, u] ∧ Dp K H v (dDisk d) ∧ Dp K H u (dAsk a) ∧ GoodDisk d ∧ Q (.int (serve d now here a)) H
theorem sc_served : FnScope ["disk", "now", "here", "ask", "come", "track", "sector", "there"] ["disk", "now", "here", "ask"] (defScope s_served) := ⟨rfl, rfl, rfl, by decide +kernel, rfl, by decide +kernel, by decide +kernel⟩
section
variable {P : Program} {w : World} {K : PySem.W.Frag} {mg : Str → Option Value} {base : Heap}
theorem ok_served {f : Addr} {fd : FuncData} (F : Fun K "served" "served" s_served f fd) (mm : mg "max" = none) (ma : mg "abs" = none) : FnOk P w K mg base CX0 1 f fd ["disk", "now", "here", "ask"] (sp_served K) := by
  refine F.ok sc_served (fun vs H Q E h => ?_) (fun cdv A outer s H vs Q E hr h => ?_)
  · obtain ⟨v, u, d, now, here, a, rfl, _⟩ := h
    rfl
  · obtain ⟨v, u, d, now, here, ask, rfl, hd, hk, g, q⟩ := h
    obtain ⟨a, rfl, hT⟩ := dp_disk hd
    obtain ⟨b, rfl, hA⟩ := dp_tints hk
    have nd := sc_served.nd
    refine ⟨_, pss_cons (ps_asg (pv 3) (pg_tup rfl (pgs_cons (pg_name (i := 4) nd rfl (.inl rfl)) (pgs_cons (pg_name (i := 5) nd rfl (.inl rfl)) (pgs_cons (pg_name (i := 6) nd rfl (.inl rfl)) pgs_nil)))))
      (pss_cons (ps_set (i := 7) nd rfl (.inl rfl) (pe_op op_add (pe_callB (call_max2 rfl) (by rfl) mm (by decide +kernel) (pa_cons (pv 1) (pa_cons (pv 4) pa_nil))) (pe_op op_mul (pe_callB call_abs (by rfl) ma (by decide +kernel) (pa_cons (pe_op op_sub (pv 5) (pv 2)) pa_nil)) (pe_ix ix_tup (pv 0) pe_int (fun _ _ => rfl)))))
      (pss_one (ps_ret (pe_op op_add (pe_op op_add (pv 7) (pe_op op_mod (pe_op op_sub (pv 6) (pv 7)) (pe_ix ix_tup (pv 0) pe_int (fun _ _ => rfl)))) pe_int)))), ?_⟩
    refine ⟨_, rfl, b, _, rfl, hA, rfl, _, _, rfl, _, _, rfl, _, _, rfl, rfl, ?_⟩
    refine ⟨_, rfl, _, rfl, _, _, rfl, _, rfl, _, rfl, _, _, rfl, rfl, _, rfl, _, rfl, a, _, 2, _, rfl, rfl, hT, atI_nat (j := 2) rfl, _, _, rfl, rfl, .inr ⟨by have := g.p1; omega, by have := g.p2; omega⟩, _, _, rfl, rfl, ?_⟩
    refine ⟨_, rfl, _, rfl, _, rfl, _, _, rfl, rfl, _, rfl, a, _, 1, _, rfl, rfl, hT, atI_nat (j := 1) rfl, _, _, rfl, rfl, (by have := g.s1; show (0 : Int) < d.sc; omega), _, _, rfl, rfl, _, _, rfl, rfl, ?_⟩
    exact q
end
/-! ### need_few -/
abbrev s_need_few : Stmt := top 16
def sp_need_few (K : PySem.W.Frag) : Sp := fun vs H Q _ => ∃ (u : V) (l : List Ask), vs = [u] ∧ Dp K H u (dAsks l) ∧ l.length ≤ 6 ∧ Q .non H
theorem sc_need_few : FnScope ["asks"] ["asks"] (defScope s_need_few) := ⟨rfl, rfl, rfl, by decide +kernel, rfl, by decide +kernel, by decide +kernel⟩
section
variable {P : Program} {w : World} {K : PySem.W.Frag} {mg : Str → Option Value} {base : Heap}
theorem ok_need_few {f : Addr} {fd : FuncData} (F : Fun K "need_few" "need_few" s_need_few f fd) (mb_len : mg "len" = none) {t1 : Tok} (mc_MOST_OF_ALL : mg "MOST_OF_ALL" = some (.int 6 t1)) : FnOk P w K mg base CX0 1 f fd ["asks"] (sp_need_few K) := by
  refine F.ok sc_need_few (fun vs H Q E h => ?_) (fun cdv A outer s H vs Q E hr h => ?_)
  · obtain ⟨u, l, rfl, _⟩ := h
    rfl
  · obtain ⟨u, l, rfl, ha, hl, q⟩ := h
    obtain ⟨b, xs, rfl, hL, hxl, hat⟩ := dp_asks ha
    refine ⟨_, (pss_one (ps_if (pt_cmpR op_gt (pe_callB call_len_seq (by rfl) mb_len PySem.boot_len (pa_cons (pv 0) pa_nil)) (pe_glob rfl mc_MOST_OF_ALL rel_int) (nomark _)) (pss_one ps_never) pss_nil)), ?_⟩
    exact ⟨_, rfl, b, xs, rfl, .inl hL, _, _, rfl, rfl, _, rfl, ifd_f (by omega) q⟩
end
end Ag

namespace Ag
open PySem PySem.Spec PyProof.Rows L2
/-! ### orders_from -/
abbrev s_orders_from : Stmt := top 17
def sp_orders_from (k : Nat) (K : PySem.W.Frag) : Sp := fun vs H Q _ => ∃ (v u : V) (oa ca b : Addr) (d : Disk) (l : List Ask) (os : List Nat) (kvs : List (List Key × V)) (B : Best),
  vs = [v, u, .ref oa, .int (endOf d l 0 d.he os).1, .int (endOf d l 0 d.he os).2, .ref ca, .ref b] ∧ Dp K (wo H b) v (dDisk d) ∧ Dp K (wo H b) u (dAsks l) ∧ H oa = some (.lst ((nints os).map V.int)) ∧ H ca = some (.tup [.int (costW d l os).1, .int (costW d l os).2]) ∧
  H b = some (.dT kvs) ∧ All2 (KvAt (wo H b)) kvs B ∧ GoodDisk d ∧ l.length ≤ 6 ∧ IsOrd l.length os.length os ∧ os.length + k = l.length ∧ B.length + (lv l.length k os).length ≤ 1000000 ∧
  ∀ (H' : Hp) (kvs' : List (List Key × V)), SameBut b H H' → H' b = some (.dT kvs') → All2 (KvAt (wo H' b)) kvs' (dfs d l k os B) → Q .non H'
theorem sc_orders_from : FnScope ["disk", "asks", "order", "now", "here", "cost", "best", "number", "done", "way", "more", "one"] ["disk", "asks", "order", "now", "here", "cost", "best"] (defScope s_orders_from) := ⟨rfl, rfl, rfl, by decide +kernel, rfl, by decide +kernel, by decide +kernel⟩
section
variable {P : Program} {w : World} {K : PySem.W.Frag} {mg : Str → Option Value} {base : Heap}
set_option maxHeartbeats 32000000 in
theorem ok_orders_from {f f4 : Addr} {fd fd4 : FuncData} (F : Fun K "orders_from" "orders_from" s_orders_from f fd) (C_orders_from : Cal K mg "orders_from" f fd ["disk", "asks", "order", "now", "here", "cost", "best"])
    (G_served : FnOk P w K mg base CX0 1 f4 fd4 ["disk", "now", "here", "ask"] (sp_served K)) (C_served : Cal K mg "served" f4 fd4 ["disk", "now", "here", "ask"])
    (mb_len : mg "len" = none) (mb_range : mg "range" = none) (mb_abs : mg "abs" = none) (mb_max : mg "max" = none) : ∀ k : Nat, FnOk P w K mg base CX0 (k + 2) f fd ["disk", "asks", "order", "now", "here", "cost", "best"] (sp_orders_from k K)
  | 0 => by
    refine F.ok sc_orders_from (fun vs H Q E h => ?_) (fun cdv A outer s H vs Q E hr h => ?_)
    · obtain ⟨v, u, oa, ca, b, d, l, os, kvs, B, rfl, _⟩ := h
      rfl
    · obtain ⟨v, u, oa, ca, b, d, l, os, kvs, B, rfl, hd, ha, ho, hc, hb, hB, g, hl6, hio, hk, hroom, q⟩ := h
      have nd := sc_orders_from.nd
      obtain ⟨pa, xs, rfl, hL, hxl, hat⟩ := dp_asks (dp_same wo_sub ha)
      refine ⟨_, (pss_cons (ps_if (pt_cmpR op_eq (pe_callB call_len_seq (by rfl) mb_len PySem.boot_len (pa_cons (pv 2) pa_nil)) (pe_callB call_len_seq (by rfl) mb_len PySem.boot_len (pa_cons (pv 1) pa_nil)) (nomark _)) (pss_cons (ps_if (pt_cmp (pc_dnotin (hu_of hr) (pv 5) (pv 6))) (pss_one (ps_dput (hu_of hr) (pv 6) (pv 5) (pv 2) rfl)) pss_nil)
      (pss_one ps_retN)) pss_nil)
      (pss_one ps_never)), ?_⟩
      refine ⟨_, rfl, oa, _, rfl, .inl (SqL.of ho), _, rfl, pa, xs, rfl, .inl hL, rfl, _, rfl, ifd_t (by rw [List.length_map, nints_len, hxl]; rw [Nat.add_zero] at hk; rw [hk]) ?_⟩
      refine ⟨_, rfl, _, rfl, b, _, rfl, DGet.t (k := keyOf (costW d l os)) hb hc, _, rfl, ?_⟩
      rw [kv_none hB]
      by_cases hn : (look B (costW d l os)).isSome = true
      · rw [hn]
        refine iteF ?_
        refine q H kvs sb_refl hb ?_
        show All2 _ kvs (putB B (costW d l os) os)
        unfold putB
        rw [if_neg (by rw [Option.isNone_iff_eq_none]; intro z; rw [z] at hn; cases hn)]
        exact hB
      · have hn' : (look B (costW d l os)).isSome = false := by simpa using hn
        have hnone : look B (costW d l os) = none := by simpa using hn'
        rw [hn']
        refine iteT ?_
        have hlen : kvs.length < sizeLine := by
          rw [all2_len hB]
          refine Nat.lt_of_le_of_lt (show B.length ≤ 1000000 by omega) (by decide)
        refine ⟨_, rfl, _, rfl, _, rfl, b, _, rfl, DPut.t (k := keyOf (costW d l os)) hb hc hlen, ?_⟩
        rw [kv_putN hB hnone]
        refine q _ _ (sb_upd sb_refl) upd_same ?_
        show All2 _ _ (putB B (costW d l os) os)
        unfold putB
        rw [if_pos (by rw [hnone]; rfl)]
        have nob : oa ≠ b := ne_of ho hb (by intro z; cases z)
        refine all2_snoc ⟨rfl, oa, rfl, by rw [wo_ne nob, upd_ne nob]; exact ho⟩ (all2_mono (fun e b' => kvAt_same (sb_wo (sb_upd sb_refl))) hB)
  | k + 1 => by
    have G_orders_from := ok_orders_from F C_orders_from G_served C_served mb_len mb_range mb_abs mb_max k
    refine F.ok sc_orders_from (fun vs H Q E h => ?_) (fun cdv A outer s H vs Q E hr h => ?_)
    · obtain ⟨v, u, oa, ca, b, d, l, os, kvs, B, rfl, _⟩ := h
      rfl
    · obtain ⟨v, u, oa, ca, b, d, l, os, kvs, B, rfl, hd, ha, ho, hc, hb, hB, g, hl6, hio, hk, hroom, q⟩ := h
      have nd := sc_orders_from.nd
      have hr_served : Room 1 _ := hr.mono (by omega)
      have hr_orders_from : Room (k + 2) _ := hr
      obtain ⟨pd, rfl, hT⟩ := dp_disk hd
      obtain ⟨pa, xs, rfl, hL, hxl, hat⟩ := dp_asks ha
      refine ⟨_, (pss_cons (ps_if (pt_cmpR op_eq (pe_callB call_len_seq (by rfl) mb_len PySem.boot_len (pa_cons (pv 2) pa_nil)) (pe_callB call_len_seq (by rfl) mb_len PySem.boot_len (pa_cons (pv 1) pa_nil)) (nomark _)) (pss_cons ps_never
      (pss_one ps_never)) pss_nil)
      (pss_one (ps_for PassesOwn.never rfl (pi_range1 rfl mb_range (pa_cons (pe_callB call_len_seq (by rfl) mb_len PySem.boot_len (pa_cons (pv 1) pa_nil)) pa_nil)) (pg_name (i := 7) nd rfl (.inl rfl))
        (pss_one (ps_if (pt_cmpR op_notIn_seq (pv 7) (pv 2) (by rfl)) (pss_cons (ps_set (i := 8) nd rfl (.inl rfl) (pe_call G_served hr_served rfl C_served.m C_served.k C_served.b .nil pass0 (pa_cons (pv 0) (pa_cons (pv 3) (pa_cons (pv 4) (pa_cons (pe_ix (r := rIxL K) ix_list (pv 1) (pv 7) (fun _ _ => rfl)) pa_nil))))))
      (pss_cons (ps_set (i := 9) nd rfl (.inl rfl) (pe_op op_add (pe_ix (r := rIxT K) ix_tup (pv 5) pe_int (fun _ _ => rfl)) (pe_callB call_abs (by rfl) mb_abs (by decide +kernel) (pa_cons (pe_op op_sub (pe_ix (r := rIxT K) ix_tup (pe_ix (r := rIxL K) ix_list (pv 1) (pv 7) (fun _ _ => rfl)) pe_int (fun _ _ => rfl)) (pv 4)) pa_nil))))
      (pss_cons (ps_set (i := 10) nd rfl (.inr rfl) (pe_tup (pa_cons (pv 9) (pa_cons (pe_callB (call_max2 rfl) (by rfl) mb_max (by decide +kernel) (pa_cons (pe_ix (r := rIxT K) ix_tup (pv 5) pe_int (fun _ _ => rfl)) (pa_cons (pe_op op_sub (pv 8) (pe_ix (r := rIxT K) ix_tup (pe_ix (r := rIxL K) ix_list (pv 1) (pv 7) (fun _ _ => rfl)) pe_int (fun _ _ => rfl))) pa_nil))) pa_nil))))
      (pss_one (ps_if (pt_cmpR (op_eqD hr.units) (pe_lock (pe_lc (own := [("one", 11)]) (g := (gName 11)) rfl nd (pi_keys (pv 6)) (blkOk_by (own := [("one", 11)]) (N := ["disk", "asks", "order", "now", "here", "cost", "best", "number", "done", "way", "more", "one"]) (sc := defScope s_orders_from) (by decide +kernel)) (fun _ _ _ _ _ => (pg_name (i := 11) nd rfl (.inl rfl))) (fun _ _ _ _ _ => (pts_one (PW.pt (pw_and (pt_cmpR op_lt (pe_ix (r := rIxT K) ix_tup (pv 11) pe_int (fun _ _ => rfl)) (pe_ix (r := rIxT K) ix_tup (pv 10) pe_int (fun _ _ => rfl)) (nomark _)) (pw_and1 (pt_cmpR op_lt (pe_ix (r := rIxT K) ix_tup (pv 11) pe_int (fun _ _ => rfl)) (pe_ix (r := rIxT K) ix_tup (pv 10) pe_int (fun _ _ => rfl)) (nomark _))))))) (fun _ _ _ _ _ => (pv 11)))) (pe_lst pa_nil) (nomark _)) (pss_one (ps_expr (pe_call G_orders_from hr_orders_from rfl C_orders_from.m C_orders_from.k C_orders_from.b .nil pass0 (pa_cons (pv 0) (pa_cons (pv 1) (pa_cons (pe_op op_cat (pv 2) (pe_lst (pa_cons (pv 7) pa_nil))) (pa_cons (pv 8) (pa_cons (pe_ix (r := rIxT K) ix_tup (pe_ix (r := rIxL K) ix_list (pv 1) (pv 7) (fun _ _ => rfl)) pe_int (fun _ _ => rfl)) (pa_cons (pv 10) (pa_cons (pv 6) pa_nil)))))))))) pss_nil))))) pss_nil))))), ?_⟩
      have nob : oa ≠ b := ne_of ho hb (by intro z; cases z)
      have ncb : ca ≠ b := ne_of hc hb (by intro z; cases z)
      refine ⟨_, rfl, oa, _, rfl, .inl (SqL.of ho), _, rfl, pa, xs, rfl, .inl (wo_sub.seq hL), rfl, _, rfl, ifd_f (fun z => ?_) ?_⟩
      · rw [List.length_map, nints_len, hxl] at z
        have := V.int.inj z
        omega
      refine ⟨_, rfl, pa, xs, rfl, .inl (wo_sub.seq hL), _, rfl, by rw [hxl]; omega, by rw [hxl]; omega, ?_⟩
      refine for_range (lo := 0) (n := xs.length) (fun m σ H' => SameBut b H H' ∧ ∃ (kvs' : List (List Key × V)) (v7 v8 v9 v10 v11 : Option V), σ = [some (.ref pd), some (.ref pa), some (.ref oa), some (.int (endOf d l 0 d.he os).1), some (.int (endOf d l 0 d.he os).2), some (.ref ca), some (.ref b), v7, v8, v9, v10, v11] ∧
          H' b = some (.dT kvs') ∧ All2 (KvAt (wo H' b)) kvs' (dfsTo d l k os B m)) ⟨sb_refl, kvs, none, none, none, none, none, rfl, hb, hB⟩ ?_ ?_
      · rintro m σ H1 hm ⟨sb1, kvs1, v7, v8, v9, v10, v11, rfl, hb1, hB1⟩
        have hml : m < l.length := by omega
        obtain ⟨ask, hask⟩ : ∃ ask, l[m]? = some ask := ⟨_, List.getElem?_eq_getElem hml⟩
        obtain ⟨p, hp, hpT, hpd⟩ := hat m ask hask
        have ek : l.getD m (0, 0, 0) = ask := getD_of hask
        have ho1 := sb1 _ _ nob ho
        have hc1 := sb1 _ _ ncb hc
        have sw1 := sb_wo sb1
        have hLw : ∀ {H' : Hp}, SameBut b H1 H' → SqL K H' pa xs := fun s => wo_sub.seq ((sb_wo (sb_trans sb1 s)).seq hL)
        have hPw : ∀ {H' : Hp}, SameBut b H1 H' → SqT K H' p [.int ask.1, .int ask.2.1, .int ask.2.2] := fun s => same_sqt wo_sub (same_sqt (sb_wo (sb_trans sb1 s)) hpT)
        have r0 : SameBut b H1 H1 := sb_refl
        refine ⟨_, rfl, _, rfl, oa, _, rfl, .inl (SqL.of ho1), rfl, flat_nints os, _, rfl, ?_⟩
        refine ite_eqb (c := decide (m ∉ os)) ?_ ?_
        · show (!inV (.int (0 + (m : Int))) ((nints os).map V.int)) = decide (m ∉ os)
          rw [Int.zero_add, inV_nints]
          simp
        refine if2d (fun hni => ?_) (fun hin => ?_)
        · -- served
          refine ⟨_, rfl, _, rfl, _, rfl, _, rfl, _, rfl, pa, xs, _, .ref p, rfl, rfl, hLw r0, at_of (j := m) (by omega) hp, ?_⟩
          refine ⟨.ref pd, .ref p, d, _, _, ask, rfl, dp_same wo_sub (dp_same sw1 hd), dp_same wo_sub (dp_same sw1 hpd), g, ?_⟩
          refine ⟨_, rfl, ca, _, 0, _, rfl, rfl, SqT.of hc1, atI_nat (j := 0) rfl, _, rfl, _, rfl, pa, xs, _, .ref p, rfl, rfl, hLw r0, at_of (j := m) (by omega) hp, p, _, 1, _, rfl, rfl, hPw r0, atI_nat (j := 1) rfl, _, rfl, _, _, rfl, rfl, _, rfl, _, _, rfl, rfl, ?_⟩
          refine ⟨_, rfl, _, rfl, ca, _, 1, _, rfl, rfl, SqT.of hc1, atI_nat (j := 1) rfl, _, rfl, _, rfl, _, rfl, pa, xs, _, .ref p, rfl, rfl, hLw r0, at_of (j := m) (by omega) hp, p, _, 0, _, rfl, rfl, hPw r0, atI_nat (j := 0) rfl, _, _, rfl, rfl, _, _, rfl, (by show 2 ≤ sizeLine; decide), fun mo hmo => ?_⟩
          have emo : HO.tup [V.int ((costW d l os).1 + if ask.2.1 - (endOf d l 0 d.he os).2 < 0 then -(ask.2.1 - (endOf d l 0 d.he os).2) else ask.2.1 - (endOf d l 0 d.he os).2),
              V.int (if serve d (endOf d l 0 d.he os).1 (endOf d l 0 d.he os).2 ask - ask.1 > (costW d l os).2 then serve d (endOf d l 0 d.he os).1 (endOf d l 0 d.he os).2 ask - ask.1 else (costW d l os).2)] = HO.tup [.int (costW d l (os ++ [m])).1, .int (costW d l (os ++ [m])).2] := by
            rw [costW_snoc, ek]
            rfl
          have hgo : ∀ {A : Hp → Prop}, A (upd H1 mo (HO.tup [.int (costW d l (os ++ [m])).1, .int (costW d l (os ++ [m])).2])) → A (upd H1 mo (HO.tup [V.int ((costW d l os).1 + if ask.2.1 - (endOf d l 0 d.he os).2 < 0 then -(ask.2.1 - (endOf d l 0 d.he os).2) else ask.2.1 - (endOf d l 0 d.he os).2),
              V.int (if serve d (endOf d l 0 d.he os).1 (endOf d l 0 d.he os).2 ask - ask.1 > (costW d l os).2 then serve d (endOf d l 0 d.he os).1 (endOf d l 0 d.he os).2 ask - ask.1 else (costW d l os).2)])) := fun h => by
            rw [emo]
            exact h
          refine hgo ?_
          have s2 := same_new (o := HO.tup [.int (costW d l (os ++ [m])).1, .int (costW d l (os ++ [m])).2]) hmo
          have nbm : b ≠ mo := ne_of_none hb1 hmo
          have hb2 := s2 _ _ hb1
          -- is it beaten?
          refine ⟨b, .dT kvs1, hb2, trivial, fun od => ⟨_, rfl, b, od, rfl, .inr ⟨kvs1, upd_same, fun D hD => ?_⟩⟩⟩
          have nDb : D ≠ b := fun z => by rw [z, upd_same] at hD; cases hD
          have hD2 : upd H1 mo (HO.tup [.int (costW d l (os ++ [m])).1, .int (costW d l (os ++ [m])).2]) D = none := by rw [upd_ne nDb] at hD; exact hD
          have sD := same_new (o := .lst []) hD
          refine lc_keysT (fun i H' => Same (upd (upd H1 mo (HO.tup [.int (costW d l (os ++ [m])).1, .int (costW d l (os ++ [m])).2])) b (.frz od (.dT kvs1))) H' ∧ ∃ ws : List V, H' D = some (.lst ws) ∧ ws.length ≤ i ∧
              All2 (PrAt (wo H' D)) ws ((((dfsTo d l k os B m).take i).filter fun e => strict e.1 (costW d l (os ++ [m]))).map (·.1)))
            ⟨sD, [], upd_same, Nat.le_refl _, trivial⟩ (fun i H' _ ⟨s, _⟩ => s _ _ upd_same) ?_ ?_
          · rintro i ky vv qa H3 hi hq ⟨s3, ws, eD, hwl, hws⟩
            obtain ⟨e, he, hke⟩ := all2_at hB1 hi
            have hky : ky = keyOf e.1 := hke.1
            subst hky
            have hlt : i < kvs1.length := (List.getElem?_eq_some_iff.mp hi).1
            have hq3 : H3 qa = some (.tup [.int e.1.1, .int e.1.2]) := hq
            have nmb : mo ≠ b := nbm.symm
            have hm3 : H3 mo = some (.tup [.int (costW d l (os ++ [m])).1, .int (costW d l (os ++ [m])).2]) := s3 _ _ (by rw [upd_ne nmb, upd_same])
            have hlen2 : kvs1.length < 1000001 := by
              have := dfsTo_room (d := d) (B := B) (k := k) hml hni hroom
              rw [all2_len hB1]
              omega
            refine ⟨rfl, _, rfl, qa, _, 0, _, rfl, rfl, SqT.of hq3, atI_nat (j := 0) rfl, _, rfl, mo, _, 0, _, rfl, rfl, SqT.of hm3, atI_nat (j := 0) rfl, _, _, rfl, rfl, _, rfl, ?_⟩
            have fin : ∀ {Z : Prop}, Z → Z := fun h => h
            rw [take_more he, List.filter_append, List.map_append]
            by_cases h1 : e.1.1 < (costW d l (os ++ [m])).1
            · refine ifd_t h1 ⟨_, rfl, qa, _, 1, _, rfl, rfl, SqT.of hq3, atI_nat (j := 1) rfl, _, rfl, mo, _, 1, _, rfl, rfl, SqT.of hm3, atI_nat (j := 1) rfl, _, _, rfl, rfl, _, rfl, ?_⟩
              by_cases h2 : e.1.2 < (costW d l (os ++ [m])).2
              · refine ifd_t h2 ⟨_, rfl, ws, eD, Nat.lt_of_le_of_lt hwl (Nat.lt_trans (Nat.lt_trans hlt hlen2) (by decide)), same_upd s3 hD, ws ++ [.ref qa], upd_same, by rw [List.length_append]; show ws.length + 1 ≤ i + 1; omega, ?_⟩
                have e1 : ([e].filter fun e => strict e.1 (costW d l (os ++ [m]))) = [e] := by
                  simp [strict, h1, h2]
                rw [e1]
                have nqD : qa ≠ D := ne_of hq3 eD (by intro z; cases z)
                exact all2_snoc ⟨qa, rfl, by rw [wo_ne nqD, upd_ne nqD]; exact hq3⟩ (all2_mono (fun v c => prAt_same (sb_wo (sb_upd sb_refl))) hws)
              · refine ifd_f h2 ⟨s3, ws, eD, by omega, ?_⟩
                have e1 : ([e].filter fun e => strict e.1 (costW d l (os ++ [m]))) = [] := by
                  simp [strict, h1, h2]
                rw [e1]
                simpa using hws
            · refine ifd_f h1 (iteF ⟨s3, ws, eD, by omega, ?_⟩)
              have e1 : ([e].filter fun e => strict e.1 (costW d l (os ++ [m]))) = [] := by
                simp [strict, h1]
              rw [e1]
              simpa using hws
          · rintro H3 ⟨s3, ws, eD, hwl, hws⟩
            rw [List.take_of_length_le (by rw [all2_len hB1]; exact Nat.le_refl _)] at hws
            refine ⟨s3 _ _ upd_same, Nat.zero_le _, fun e0 he0 => ?_⟩
            have nbe : b ≠ e0 := fun z => by rw [← z, upd_same] at he0; cases he0
            have he3 : H3 e0 = none := by rw [upd_ne nbe.symm] at he0; exact he0
            have se := same_new (o := .lst []) he0
            have sN : Same (upd H1 mo (HO.tup [.int (costW d l (os ++ [m])).1, .int (costW d l (os ++ [m])).2])) (upd (upd H3 b (.dT kvs1)) e0 (.lst [])) := fun x o e => by
              by_cases hx : x = b
              · rw [hx] at e ⊢
                rw [hb2] at e
                cases e
                exact se _ _ upd_same
              · refine se _ _ ?_
                rw [upd_ne hx]
                exact s3 _ _ (by rw [upd_ne hx]; exact e)
            have eDn : upd (upd H3 b (.dT kvs1)) e0 (.lst []) D = some (.lst ws) := se _ _ (by rw [upd_ne nDb]; exact eD)
            have hwsn : All2 (PrAt (upd (upd H3 b (.dT kvs1)) e0 (.lst []))) ws ((((dfsTo d l k os B m)).filter fun e => strict e.1 (costW d l (os ++ [m]))).map (·.1)) := all2_mono (fun v c h => by
              obtain ⟨qa, e, h⟩ := prAt_same wo_sub h
              have nqb : qa ≠ b := ne_of h (s3 _ _ upd_same) (by intro z; cases z)
              exact ⟨qa, e, se _ _ (by rw [upd_ne nqb]; exact h)⟩) hws
            refine ⟨.list (((((dfsTo d l k os B m)).filter fun e => strict e.1 (costW d l (os ++ [m]))).map (·.1)).map dPr), .list [], .lst (SqL.of eDn) (all2_dpa (f := dPr) (fun v c h => prAt_dp h) hwsn), .lst (SqL.of upd_same) .nil, shaped_prs _, rfl, _, rfl, ?_⟩
            rw [eqv_nilA, List.isEmpty_map, none_beats]
            have sH := s2.trans sN
            revert sN sH
            generalize upd (upd H3 b (.dT kvs1)) e0 (.lst []) = H4
            intro sN sH
            have hb4 := sH _ _ hb1
            have hm4 := sN _ _ upd_same
            have sb4 := sb_trans sb1 (sb_of sH)
            have hB4 : All2 (KvAt (wo H4 b)) kvs1 (dfsTo d l k os B m) := all2_mono (fun e b' => kvAt_same (wo_mono sH)) hB1
            by_cases hbeat : ((dfsTo d l k os B m).any fun b => strict b.1 (costW d l (os ++ [m]))) = true
            · rw [hbeat]
              refine iteF ⟨sb4, kvs1, _, _, _, _, _, rfl, hb4, ?_⟩
              rw [dfsTo_succ, if_neg hni, if_pos hbeat]
              exact hB4
            · have hbeat' : ((dfsTo d l k os B m).any fun b => strict b.1 (costW d l (os ++ [m]))) = false := by simpa using hbeat
              rw [hbeat']
              have ho4 := sH _ _ ho1
              refine iteT ⟨_, rfl, _, rfl, _, rfl, _, rfl, (by show 1 ≤ sizeLine; decide), fun q1 hq1 => ?_⟩
              have nOq : oa ≠ q1 := ne_of_none ho4 hq1
              have t1 := same_new (o := HO.lst [V.int (0 + (m : Int))]) hq1
              refine ⟨oa, q1, _, _, rfl, rfl, by rw [upd_ne nOq]; exact ho4, upd_same, by rw [List.length_map, nints_len]; show os.length + 1 ≤ sizeLine; exact Nat.le_trans (by omega) (by decide : 7 ≤ sizeLine), fun o2 ho2 => ?_⟩
              have t2 := same_new (o := HO.lst ((nints os).map V.int ++ [V.int (0 + (m : Int))])) ho2
              have t12 := t1.trans t2
              have s14 : SameBut b H1 (upd (upd H4 q1 (HO.lst [V.int (0 + (m : Int))])) o2 (HO.lst ((nints os).map V.int ++ [V.int (0 + (m : Int))]))) := sb_of (sH.trans t12)
              refine ⟨_, rfl, _, rfl, _, rfl, pa, xs, _, .ref p, rfl, rfl, hLw s14, at_of (j := m) (by omega) hp, p, _, 1, _, rfl, rfl, hPw s14, atI_nat (j := 1) rfl, _, rfl, _, rfl, ?_⟩
              have sb5 := sb_trans sb1 s14
              refine ⟨.ref pd, .ref pa, o2, mo, b, d, l, os ++ [m], kvs1, dfsTo d l k os B m, ?_, dp_same (sb_wo sb5) hd, dp_same (sb_wo sb5) ha, ?_, t12 _ _ hm4, t12 _ _ hb4, all2_mono (fun e b' => kvAt_same (wo_mono t12)) hB4, g, hl6, ?_, by rw [List.length_append]; show os.length + 1 + k = l.length; omega, dfsTo_room hml hni hroom, fun H6 kvs6 sb6 hb6 hB6 => ?_⟩
              · rw [endOf_snoc, ek]
                rfl
              · rw [upd_same, ← nints_snoc, Int.zero_add]
              · have := isOrd_snoc hio hml hni
                rw [List.length_append]
                exact this
              · refine ⟨sb_trans sb5 sb6, kvs6, _, _, _, _, _, rfl, hb6, ?_⟩
                rw [dfsTo_succ, if_neg hni, if_neg hbeat]
                exact hB6
        · have hin' : m ∈ os := by simpa using hin
          refine ⟨sb1, kvs1, _, _, _, _, _, rfl, hb1, ?_⟩
          rw [dfsTo_succ, if_pos hin']
          exact hB1
      · rintro σ H1 ⟨sb1, kvs1, v7, v8, v9, v10, v11, rfl, hb1, hB1⟩
        rw [hxl] at hB1
        exact q H1 kvs1 sb1 hb1 hB1
end
end Ag

namespace Ag
open PySem PySem.Spec PyProof.Rows L2
/-! ### all_costs -/
abbrev s_all_costs : Stmt := top 18
def sp_all_costs (K : PySem.W.Frag) : Sp := fun vs H Q _ => ∃ (v u : V) (d : Disk) (l : List Ask), vs = [v, u] ∧ Dp K H v (dDisk d) ∧ Dp K H u (dAsks l) ∧ GoodDisk d ∧ l.length ≤ 6 ∧
  ∀ (H' : Hp) (b : Addr) (kvs : List (List Key × V)), Same H H' → H b = none → H' b = some (.dT kvs) → All2 (KvAt (wo H' b)) kvs (dfs d l l.length [] []) → Q (.ref b) H'
theorem sc_all_costs : FnScope ["disk", "asks", "best"] ["disk", "asks"] (defScope s_all_costs) := ⟨rfl, rfl, rfl, by decide +kernel, rfl, by decide +kernel, by decide +kernel⟩
theorem lv_room {l : List Ask} (h : l.length ≤ 6) : ([] : Best).length + (lv l.length l.length []).length ≤ 1000000 := by
  rw [lv_root]
  have := ordersK_len6 h h
  show 0 + _ ≤ _
  omega
section
variable {P : Program} {w : World} {K : PySem.W.Frag} {mg : Str → Option Value} {base : Heap}
theorem ok_all_costs {f f1 : Addr} {fd fd1 : FuncData} (F : Fun K "all_costs" "all_costs" s_all_costs f fd)
    (GO : ∀ k : Nat, FnOk P w K mg base CX0 (k + 2) f1 fd1 ["disk", "asks", "order", "now", "here", "cost", "best"] (sp_orders_from k K)) (C_orders_from : Cal K mg "orders_from" f1 fd1 ["disk", "asks", "order", "now", "here", "cost", "best"]) : FnOk P w K mg base CX0 9 f fd ["disk", "asks"] (sp_all_costs K) := by
  refine F.ok sc_all_costs (fun vs H Q E h => ?_) (fun cdv A outer s H vs Q E hr h => ?_)
  · obtain ⟨v, u, d, l, rfl, _⟩ := h
    rfl
  · obtain ⟨v, u, d, l, rfl, hd, ha, g, hl6, q⟩ := h
    have nd := sc_all_costs.nd
    have G_orders_from := GO l.length
    have hr_orders_from : Room (l.length + 2) _ := hr.mono (by omega)
    have hd0 := hd
    obtain ⟨a, rfl, hT⟩ := dp_disk hd
    refine ⟨_, (pss_cons (ps_set (i := 2) nd rfl (.inl rfl) pe_dnewT)
      (pss_cons (ps_expr (pe_call G_orders_from hr_orders_from rfl C_orders_from.m C_orders_from.k C_orders_from.b .nil pass0 (pa_cons (pv 0) (pa_cons (pv 1) (pa_cons (pe_lst pa_nil) (pa_cons pe_int (pa_cons (pe_ix (r := rIxT K) ix_tup (pv 0) pe_int (fun _ _ => rfl)) (pa_cons (pe_tup (pa_cons pe_int (pa_cons pe_int pa_nil))) (pa_cons (pv 2) pa_nil)))))))))
      (pss_one (ps_ret (pv 2))))), ?_⟩
    intro b hb
    have s1 := same_new (o := .dT []) hb
    refine ⟨_, rfl, _, rfl, Nat.zero_le _, fun oa hoa => ?_⟩
    have s2 := same_new (o := .lst []) hoa
    refine ⟨_, rfl, a, _, 3, _, rfl, rfl, same_sqt (s1.trans s2) hT, atI_nat (j := 3) rfl, (by show 2 ≤ sizeLine; decide), fun ca hca => ?_⟩
    have s3 := same_new (o := HO.tup [.int 0, .int 0]) hca
    have s13 := s1.trans (s2.trans s3)
    refine ⟨_, rfl, ?_⟩
    refine ⟨.ref a, u, oa, ca, b, d, l, [], [], [], rfl, dp_same (into_wo s13 hb) hd0, dp_same (into_wo s13 hb) ha, s3 _ _ upd_same, upd_same, s3 _ _ (s2 _ _ upd_same), trivial, g, hl6, ⟨rfl, fun i hi => absurd hi (by simp), List.nodup_nil⟩, by show 0 + l.length = l.length; omega, lv_room hl6, fun H' kvs' sb hb' hB => ?_⟩
    exact ⟨_, rfl, q H' b kvs' (same_sb s13 hb sb) hb hb' hB⟩
end
/-! ### front -/
abbrev s_front : Stmt := top 19
/-- (way, longest wait, order), a tuple with a list of its own -/
def FrAt (G : Hp) (v : V) (e : Cost × List Nat) : Prop := ∃ t o, v = .ref t ∧ G t = some (.tup [.int e.1.1, .int e.1.2, .ref o]) ∧ G o = some (.lst ((nints e.2).map V.int))
def dFr (e : Cost × List Nat) : PyData := .tuple [.int e.1.1, .int e.1.2, .list ((nints e.2).map PyData.int)]
theorem frAt_same {G G' : Hp} {v : V} {e : Cost × List Nat} (s : Same G G') (h : FrAt G v e) : FrAt G' v e := by
  obtain ⟨t, o, e, h1, h2⟩ := h
  exact ⟨t, o, e, s _ _ h1, s _ _ h2⟩
theorem frAt_dp {K : PySem.W.Frag} {G : Hp} {v : V} {e : Cost × List Nat} (h : FrAt G v e) : Dp K G v (dFr e) := by
  obtain ⟨t, o, rfl, h1, h2⟩ := h
  exact .tup (SqT.of h1) (.cons (.int _) (.cons (.int _) (.cons (dp_ints_of (SqL.of h2)) .nil)))
theorem canLay_frs : ∀ l : List (Cost × List Nat), PyData.canLayAll0 (l.map dFr) = true
  | [] => by simp [PyData.canLayAll0]
  | n :: r => by simp [PyData.canLayAll0, PyData.canLay0, dFr, canLay_frs r, canLay_ints]
theorem depth_frs : ∀ l : List (Cost × List Nat), PyData.depthAll (l.map dFr) ≤ 2
  | [] => by simp [PyData.depthAll]
  | n :: r => by
    have h := depth_frs r
    have e : PyData.depth (dFr n) = 2 := by
      unfold dFr
      simp [PyData.depth, PyData.depthAll, PySem.W.depth_ints]
    rw [List.map_cons, PyData.depthAll, e]
    omega
theorem shaped_frs (l : List (Cost × List Nat)) : SeqAt.shaped (.list (l.map dFr)) = true := by
  have := depth_frs l
  unfold SeqAt.shaped
  simp [PyData.canLay0, canLay_frs, PyData.depth]
  omega
def sp_front (K : PySem.W.Frag) : Sp := fun vs H Q _ => ∃ (v u : V) (d : Disk) (l : List Ask), vs = [v, u] ∧ Dp K H v (dDisk d) ∧ Dp K H u (dAsks l) ∧ GoodDisk d ∧ GoodAsks d l ∧ l.length ≤ 6 ∧
  ∀ (H' : Hp) (p : Addr) (us : List V) (F : List (Cost × List Nat)), Same H H' → H p = none → H' p = some (.lst us) → All2 (FrAt (fr H H' p)) us F → IsFront d l F → F.length ≤ 1000000 → Q (.ref p) H'
theorem sc_front : FnScope ["disk", "asks", "known", "found", "cost"] ["disk", "asks"] (defScope s_front) := ⟨rfl, rfl, rfl, by decide +kernel, rfl, by decide +kernel, by decide +kernel⟩
def lastOf (Fc : List Cost) : Option Int := Fc.getLast?.map (·.2)
def keepsB (Fc : List Cost) (c : Cost) : Bool := match lastOf Fc with
  | none => true
  | some m => decide (c.2 < m)
theorem scan_keep {Fc rest : List Cost} {c : Cost} (h : keepsB Fc c = true) : Fc ++ scan (lastOf Fc) (c :: rest) = (Fc ++ [c]) ++ scan (lastOf (Fc ++ [c])) rest := by
  have e : lastOf (Fc ++ [c]) = some c.2 := by
    unfold lastOf
    simp
  rw [e, List.append_assoc]
  unfold keepsB at h
  cases hl : lastOf Fc with
  | none => rfl
  | some m =>
    rw [hl] at h
    have h : c.2 < m := of_decide_eq_true h
    show Fc ++ (if c.2 < m then c :: scan (some c.2) rest else scan (some m) rest) = _
    rw [if_pos h]
    rfl
theorem scan_drop {Fc rest : List Cost} {c : Cost} (h : keepsB Fc c = false) : Fc ++ scan (lastOf Fc) (c :: rest) = Fc ++ scan (lastOf Fc) rest := by
  unfold keepsB at h
  cases hl : lastOf Fc with
  | none =>
    rw [hl] at h
    cases h
  | some m =>
    rw [hl] at h
    have h : ¬ c.2 < m := of_decide_eq_false h
    show Fc ++ (if c.2 < m then c :: scan (some c.2) rest else scan (some m) rest) = _
    rw [if_neg h]
section
variable {P : Program} {w : World} {K : PySem.W.Frag} {mg : Str → Option Value} {base : Heap}
set_option maxHeartbeats 16000000 in
theorem ok_front {f f1 f2 f3 f4 : Addr} {fd fd1 fd2 fd3 fd4 : FuncData} (F : Fun K "front" "front" s_front f fd)
    (G_need_disk : FnOk P w K mg base CX0 1 f1 fd1 ["disk"] (sp_need_disk K)) (C_need_disk : Cal K mg "need_disk" f1 fd1 ["disk"])
    (G_need_asks : FnOk P w K mg base CX0 1 f2 fd2 ["disk", "asks"] (sp_need_asks K)) (C_need_asks : Cal K mg "need_asks" f2 fd2 ["disk", "asks"])
    (G_need_few : FnOk P w K mg base CX0 1 f3 fd3 ["asks"] (sp_need_few K)) (C_need_few : Cal K mg "need_few" f3 fd3 ["asks"])
    (G_all_costs : FnOk P w K mg base CX0 9 f4 fd4 ["disk", "asks"] (sp_all_costs K)) (C_all_costs : Cal K mg "all_costs" f4 fd4 ["disk", "asks"])
    (mb_sorted : mg "sorted" = none) (mb_list : mg "list" = none) : FnOk P w K mg base CX0 10 f fd ["disk", "asks"] (sp_front K) := by
  refine F.ok sc_front (fun vs H Q E h => ?_) (fun cdv A outer s H vs Q E hr h => ?_)
  · obtain ⟨v, u, d, l, rfl, _⟩ := h
    rfl
  · obtain ⟨v, u, d, l, rfl, hd, ha, g, ga, hl6, q⟩ := h
    have nd := sc_front.nd
    have hr_need_disk : Room 1 _ := hr.mono (by decide)
    have hr_need_asks : Room 1 _ := hr.mono (by decide)
    have hr_need_few : Room 1 _ := hr.mono (by decide)
    have hr_all_costs : Room 9 _ := hr
    refine ⟨_, (pss_cons (ps_expr (pe_call G_need_disk hr_need_disk rfl C_need_disk.m C_need_disk.k C_need_disk.b .nil pass0 (pa_cons (pv 0) pa_nil)))
      (pss_cons (ps_expr (pe_call G_need_asks hr_need_asks rfl C_need_asks.m C_need_asks.k C_need_asks.b .nil pass0 (pa_cons (pv 0) (pa_cons (pv 1) pa_nil))))
      (pss_cons (ps_expr (pe_call G_need_few hr_need_few rfl C_need_few.m C_need_few.k C_need_few.b .nil pass0 (pa_cons (pv 1) pa_nil)))
      (pss_cons (ps_set (i := 2) nd rfl (.inl rfl) (pe_call G_all_costs hr_all_costs rfl C_all_costs.m C_all_costs.k C_all_costs.b .nil pass0 (pa_cons (pv 0) (pa_cons (pv 1) pa_nil))))
      (pss_cons (ps_set (i := 3) nd rfl (.inl rfl) (pe_lst pa_nil))
      (pss_cons (ps_for PassesOwn.never rfl (pi_list (pe_callB (cr_sortedDT rfl) (by rfl) mb_sorted (by decide +kernel) (pa_cons (pv 2) pa_nil))) (pg_name (i := 4) nd rfl (.inl rfl))
        (pss_one (ps_if (PW.pt (pw_or (pt_cmpR (op_eqD hr.units) (pv 3) (pe_lst pa_nil) (nomark _)) (pw_or1 (pt_cmpR op_lt (pe_ix (r := rIxT K) ix_tup (pv 4) pe_int (fun _ _ => rfl)) (pe_ix (r := rIxT K) ix_tup (pe_ix (r := rIxL K) ix_list (pv 3) (pe_un un_neg pe_int) (fun _ _ => rfl)) pe_int (fun _ _ => rfl)) (nomark _))))) (pss_one (ps_expr (pe_bm PySem.F.plainAttrs_list PySem.F.slot_list_append PySem.F.type_list_append mt_append (pv 3) (pa_cons (pe_tup (pa_cons (pe_ix (r := rIxT K) ix_tup (pv 4) pe_int (fun _ _ => rfl)) (pa_cons (pe_ix (r := rIxT K) ix_tup (pv 4) pe_int (fun _ _ => rfl)) (pa_cons (pe_callTy call_list_of (by rfl) mb_list (by decide +kernel) (pa_cons (pe_dget (hu_of hr) (pv 2) (pv 4) (fun _ _ => rfl)) pa_nil)) pa_nil)))) pa_nil)))) pss_nil)))
      (pss_one (ps_ret (pv 3))))))))), ?_⟩
    refine ⟨_, rfl, v, d, rfl, hd, g, ?_⟩
    refine ⟨_, rfl, _, rfl, v, u, d, l, rfl, hd, ha, ga, ?_⟩
    refine ⟨_, rfl, u, l, rfl, ha, hl6, ?_⟩
    refine ⟨_, rfl, _, rfl, v, u, d, l, rfl, hd, ha, g, hl6, fun H1 b kvs s1 hb0 hb hB => ?_⟩
    -- the dict's costs
    have hI := dfs_inv d l l.length 0 [] [] [] (by omega) ⟨rfl, fun i hi => absurd hi (by simp), List.nodup_nil⟩ (fun x hx => absurd hx (by simp)) ⟨fun b hb => absurd hb (by simp), List.nodup_nil, fun c hc => rfl⟩
    rw [List.nil_append, lv_root] at hI
    have hBl : (dfs d l l.length [] []).length ≤ 1000000 := Nat.le_trans (dfs_len d l l.length [] []) (lv_room hl6)
    revert hI hB hBl
    generalize dfs d l l.length [] [] = B
    intro hB hI hBl
    refine ⟨Nat.zero_le _, fun F0 hF0 => ?_⟩
    have sF := same_new (o := .lst []) hF0
    have hF0' := s1.free hF0
    have nbF : b ≠ F0 := ne_of_none hb hF0
    have hb2 := sF _ _ hb
    refine ⟨_, rfl, b, kvs, B.map (·.1), rfl, .inl hb2, kv_keys hB, fun ps as hps hperm hsort has => ?_⟩
    have sP := same_new (o := .lst (as.map V.ref)) hps
    have s13 := s1.trans (sF.trans sP)
    have hFr := front_of hI hperm hsort
    refine ⟨ps, rfl, ⟨_, SqL.of upd_same⟩, ?_⟩
    have nFp : F0 ≠ ps := ne_of_none upd_same hps
    refine for_list (K := K) (a := ps) (xs := as.map V.ref) (fun i σ H' => SameBut F0 (upd (upd H1 F0 (.lst [])) ps (.lst (as.map V.ref))) H' ∧ ∃ (us : List V) (Fc : List Cost) (v4 : Option V), σ = [some v, some u, some (.ref b), some (.ref F0), v4] ∧ H' F0 = some (.lst us) ∧ us.length ≤ i ∧
        scan none (as.map (pairAt (upd H1 F0 (.lst [])))) = Fc ++ scan (lastOf Fc) ((as.map (pairAt (upd H1 F0 (.lst [])))).drop i) ∧ All2 (FrAt (fr H H' F0)) us (Fc.map fun c => (c, (look B c).getD [])))
      ⟨sb_refl, [], [], none, rfl, sP _ _ upd_same, Nat.le_refl _, rfl, trivial⟩ (fun i σ H' _ ⟨s, _⟩ => SqL.of (s _ _ nFp.symm upd_same)) ?_ ?_
    · rintro i y σ H2 hi ⟨sb2, us, Fc, v4, rfl, eF, hul, hscan, hus⟩
      obtain ⟨qa, hqa, rfl⟩ : ∃ qa, as[i]? = some qa ∧ y = .ref qa := by
        rw [List.getElem?_map] at hi
        cases e : as[i]? with
        | none => rw [e] at hi; cases hi
        | some qa => rw [e] at hi; exact ⟨qa, rfl, (Option.some.inj hi).symm⟩
      have hq0 := has qa (List.mem_of_getElem? hqa)
      have hlt : i < as.length := (List.getElem?_eq_some_iff.mp hqa).1
      have nqF : qa ≠ F0 := ne_of hq0 (upd_same (H := H1) (o := .lst [])) (by intro z; cases z)
      have hq2 : H2 qa = _ := sb2 _ _ nqF (sP _ _ hq0)
      have hb3 : H2 b = some (.dT kvs) := sb2 _ _ nbF (sP _ _ hb2)
      have hcB : pairAt (upd H1 F0 (.lst [])) qa ∈ B.map (·.1) := hperm.mem_iff.mp (List.mem_map.mpr ⟨qa, List.mem_of_getElem? hqa, rfl⟩)
      obtain ⟨os, hos⟩ : ∃ os, look B (pairAt (upd H1 F0 (.lst [])) qa) = some os := by
        cases e : look B (pairAt (upd H1 F0 (.lst [])) qa) with
        | none => exact absurd hcB (look_none.mp e)
        | some os => exact ⟨os, rfl⟩
      obtain ⟨vo, hvo, o, rfl, ho⟩ := kv_some hB hos
      have ho1 := wo_sub _ _ ho
      have noF : o ≠ F0 := ne_of_none ho1 hF0
      have ho2 : H2 o = _ := sb2 _ _ noF (sP _ _ (sF _ _ ho1))
      have hdrop : (as.map (pairAt (upd H1 F0 (.lst [])))).drop i = pairAt (upd H1 F0 (.lst [])) qa :: (as.map (pairAt (upd H1 F0 (.lst [])))).drop (i + 1) := by
        have h1 : (as.map (pairAt (upd H1 F0 (.lst []))))[i]? = some (pairAt (upd H1 F0 (.lst [])) qa) := by rw [List.getElem?_map, hqa]; rfl
        obtain ⟨h2, h3⟩ := List.getElem?_eq_some_iff.mp h1
        rw [List.drop_eq_getElem_cons h2, h3]
      rw [hdrop] at hscan
      revert hq2 hvo hscan hos hdrop hcB
      generalize pairAt (upd H1 F0 (.lst [])) qa = c
      intro hscan hq2 hcB hos hvo hdrop
      refine ⟨_, rfl, Nat.zero_le _, fun e0 he0 => ?_⟩
      have se := same_new (o := .lst []) he0
      have eF3 := se _ _ eF
      have hus3 : All2 (FrAt (upd H2 e0 (.lst []))) us (Fc.map fun c => (c, (look B c).getD [])) := all2_mono (fun v e => frAt_same (fr_sub.trans se)) hus
      refine ⟨.list ((Fc.map fun c => (c, (look B c).getD [])).map dFr), .list [], .lst (SqL.of eF3) (all2_dpa (f := dFr) (fun v e h => frAt_dp h) hus3), .lst (SqL.of upd_same) .nil, shaped_frs _, rfl, _, rfl, ?_⟩
      rw [eqv_nilA]
      have comb : ∀ {U1 U2 U3 : Prop}, (Fc ≠ [] → (keepsB Fc c = true → U1) → (keepsB Fc c = false → U2) → U3) → (keepsB Fc c = true → U1) → (keepsB Fc c = false → U2) →
          if ((Fc.map fun c => (c, (look B c).getD [])).map dFr).isEmpty = true then (if true = true then U1 else U2) else U3 := fun h1 hA hB => by
        by_cases hne : Fc = []
        · subst hne
          exact iteT (iteT (hA rfl))
        · have e : ((Fc.map fun c => (c, (look B c).getD [])).map dFr).isEmpty = false := by
            cases Fc with
            | nil => exact absurd rfl hne
            | cons x r => rfl
          rw [e]
          exact iteF (h1 hne hA hB)
      have hq3 := se _ _ hq2
      have hb4 := se _ _ hb3
      have ho3 := se _ _ ho2
      refine comb (fun hne hA hB => ?_) (fun hk => ?_) (fun hk => ?_)
      · obtain ⟨F', m, rfl⟩ : ∃ F' m, Fc = F' ++ [m] := ⟨Fc.dropLast, Fc.getLast hne, (List.dropLast_concat_getLast hne).symm⟩
        have hul2 : us.length = (F' ++ [m]).length := by
          have := all2_len hus
          rw [List.length_map] at this
          exact this
        have hune : us ≠ [] := fun z => by
          rw [z, List.length_append] at hul2
          simp at hul2
        obtain ⟨u', vl, rfl⟩ : ∃ u' vl, us = u' ++ [vl] := ⟨us.dropLast, us.getLast hune, (List.dropLast_concat_getLast hune).symm⟩
        have hul3 : u'.length = F'.length := by
          rw [List.length_append, List.length_append] at hul2
          simpa using hul2
        obtain ⟨e, he, t, o', rfl, ht, _⟩ := all2_at hus3 (i := u'.length) (a := vl) (by simp)
        have ee : e = (m, (look B m).getD []) := by
          rw [List.map_append, hul3, List.getElem?_append_right (by rw [List.length_map]; exact Nat.le_refl _), List.length_map, Nat.sub_self] at he
          exact (Option.some.inj he).symm
        subst ee
        have el : keepsB (F' ++ [m]) c = decide (c.2 < m.2) := by
          unfold keepsB lastOf
          simp
        rw [el] at hA hB
        refine ⟨_, rfl, qa, _, 1, _, rfl, rfl, SqT.of hq3, atI_nat (j := 1) rfl, _, rfl, _, rfl, F0, _, -1, .ref t, rfl, rfl, SqL.of eF3, atI_last _ _, t, _, 1, _, rfl, rfl, SqT.of ht, atI_nat (j := 1) rfl, _, _, rfl, rfl, _, rfl, ?_⟩
        show if decide (c.2 < m.2) = true then _ else _
        by_cases hlt2 : c.2 < m.2
        · exact ifd_t hlt2 (hA (decide_eq_true hlt2))
        · exact ifd_f hlt2 (hB (decide_eq_false hlt2))
      · have hlen : us.length < sizeLine := by
          refine Nat.lt_of_le_of_lt hul ?_
          have h1 := hperm.length_eq
          rw [List.length_map, List.length_map] at h1
          exact Nat.lt_of_le_of_lt (by omega : i ≤ 1000000) (by decide)
        refine ⟨_, rfl, .inl ⟨rfl, _, SqL.of eF3⟩, _, rfl, qa, _, 0, _, rfl, rfl, SqT.of hq3, atI_nat (j := 0) rfl, _, rfl, qa, _, 1, _, rfl, rfl, SqT.of hq3, atI_nat (j := 1) rfl, _, rfl, _, rfl, b, .ref o, rfl, by rw [← hvo]; exact DGet.t (k := keyOf c) hb4 hq3, o, _, rfl, .inl (SqL.of ho3), fun o2 ho2' => ?_⟩
        have t1 := same_new (o := HO.lst ((nints os).map V.int)) ho2'
        refine ⟨(by show 3 ≤ sizeLine; decide), fun t ht => ?_⟩
        have t2 := same_new (o := HO.tup [.int c.1, .int c.2, .ref o2]) ht
        have t12 := se.trans (t1.trans t2)
        have nFo : o2 ≠ F0 := (ne_of_none eF3 ho2').symm
        have nFt : t ≠ F0 := (ne_of_none (t1 _ _ eF3) ht).symm
        refine ⟨F0, us, .ref t, rfl, rfl, t12 _ _ eF, hlen, ?_⟩
        have sB3 : SameBut F0 H2 (upd (upd (upd (upd H2 e0 (.lst [])) o2 (HO.lst ((nints os).map V.int))) t (HO.tup [.int c.1, .int c.2, .ref o2])) F0 (.lst (us ++ [.ref t]))) := sb_upd (sb_of t12)
        have sHH : Same H H2 := same_sb s13 hF0' sb2
        refine ⟨sb_trans sb2 sB3, us ++ [.ref t], Fc ++ [c], _, rfl, upd_same, by rw [List.length_append]; show us.length + 1 ≤ i + 1; omega, by rw [hscan, scan_keep hk], ?_⟩
        rw [List.map_append]
        refine all2_snoc ⟨t, o2, rfl, fr_at nFt (sHH.free (se.free (t1.free ht))) (by rw [upd_ne nFt, upd_same]), fr_at nFo (sHH.free (se.free ho2')) ?_⟩ (all2_mono (fun v e => frAt_same (fr_step sB3)) hus)
        have eos : (look B c).getD [] = os := by rw [hos]; rfl
        show _ = some (HO.lst ((nints ((look B c).getD [])).map V.int))
        rw [upd_ne nFo, t2 _ _ upd_same, eos]
      · refine ⟨sb_trans sb2 (sb_of se), us, Fc, _, rfl, eF3, by omega, by rw [hscan, scan_drop hk], all2_mono (fun v e => frAt_same (fr_step (sb_of se))) hus⟩
    · rintro σ H2 ⟨sb2, us, Fc, v4, rfl, eF, hul, hscan, hus⟩
      rw [List.drop_of_length_le (by rw [List.length_map, List.length_map]; exact Nat.le_refl _)] at hscan
      have e0 : scan (lastOf Fc) [] = [] := by cases lastOf Fc <;> rfl
      rw [e0, List.append_nil] at hscan
      rw [hscan] at hFr
      refine ⟨_, rfl, q H2 F0 us _ (same_sb s13 hF0' sb2) hF0' eF hus hFr ?_⟩
      rw [← all2_len hus]
      have h1 := hperm.length_eq
      rw [List.length_map, List.length_map] at h1
      rw [List.length_map] at hul
      omega
end
end Ag

namespace Ag
open PySem PySem.Spec PyProof.Rows L2
/-! ### the law's draws: any number in range -/
abbrev s_l_taken : Stmt := top 21
def sp_l_taken (K : PySem.W.Frag) : Sp := fun vs H Q _ => ∃ (r : Addr) (many : Int), vs = [.ref r, .int many] ∧ RowAt K H r ∧ 0 < many ∧ ∀ (H' : Hp) (v : Int), 0 ≤ v → v < many → RowAt K H' r → SameBut r H H' → Q (.int v) H'
theorem sc_l_taken : FnScope ["_law_row", "_law_many", "_law_cell"] ["_law_row", "_law_many"] (defScope s_l_taken) := ⟨rfl, rfl, rfl, by decide +kernel, rfl, by decide +kernel, by decide +kernel⟩
section
variable {P : Program} {w : World} {K : PySem.W.Frag} {mg : Str → Option Value} {base : Heap}
theorem ok_l_taken {f : Addr} {fd : FuncData} (F : Fun K "_law_taken" "_law_taken" s_l_taken f fd) (ml : mg "len" = none) : FnOk P w K mg base CX0 1 f fd ["_law_row", "_law_many"] (sp_l_taken K) := by
  refine F.ok sc_l_taken (fun vs H Q E h => ?_) (fun cdv A outer s H vs Q E hr h => ?_)
  · obtain ⟨r, many, rfl, _⟩ := h
    rfl
  · obtain ⟨r, many, rfl, ⟨a, ns, pos, mix, p0, hR, hS⟩, hm, q⟩ := h
    have nd := sc_l_taken.nd
    refine ⟨_, pss_cons (ps_asg (pe_op op_add (pe_ix ix_list (pv 0) pe_int (fun _ _ => rfl)) pe_int) (pg_sub (pv 0) pe_int set_list))
      (pss_cons (ps_if (pt_cmpR op_gt (pe_ix ix_list (pv 0) pe_int (fun _ _ => rfl)) (pe_callB call_len_seq (by rfl) ml PySem.boot_len (pa_cons (pe_ix ix_list (pv 0) pe_int (fun _ _ => rfl)) pa_nil)) (nomark _))
        (pss_cons (ps_asg (pe_op op_mod (pe_op op_add (pe_op op_mul (pe_ix ix_list (pv 0) pe_int (fun _ _ => rfl)) pe_int) pe_int) pe_int) (pg_sub (pv 0) pe_int set_list))
          (pss_one (ps_ret (pe_op op_mod (pe_op op_fdiv (pe_ix ix_list (pv 0) pe_int (fun _ _ => rfl)) pe_int) (pv 1))))) pss_nil)
      (pss_cons (ps_set (i := 2) nd rfl (.inl rfl) (pe_ix ix_list (pe_ix ix_list (pv 0) pe_int (fun _ _ => rfl)) (pe_op op_sub (pe_ix ix_list (pv 0) pe_int (fun _ _ => rfl)) pe_int) (fun _ _ => rfl)))
      (pss_cons (ps_asg (pe_op op_mod (pe_op op_add (pe_op op_add (pe_op op_mul (pe_ix ix_list (pv 0) pe_int (fun _ _ => rfl)) pe_int) (pv 2)) pe_int) pe_int) (pg_sub (pv 0) pe_int set_list))
      (pss_one (ps_ret (pe_op op_mod (pv 2) (pv 1))))))), ?_⟩
    refine ⟨_, rfl, r, _, 1, _, rfl, rfl, SqL.of hR, atI_nat (j := 1) rfl, _, _, rfl, rfl, _, rfl, r, _, _, 1, rfl, rfl, hR, rfl, ?_⟩
    have h1 : upd H r (.lst ([V.ref a, .int pos, .int mix].set 1 (.int (pos + 1)))) r = some (.lst [V.ref a, .int (pos + 1), .int mix]) := upd_same
    have hS1 : ScrAt K (upd H r (.lst ([V.ref a, .int pos, .int mix].set 1 (.int (pos + 1))))) a ns := hS.put hR
    have b1 : SameBut r H (upd H r (.lst ([V.ref a, .int pos, .int mix].set 1 (.int (pos + 1))))) := sb_upd sb_refl
    revert h1 hS1 b1
    generalize upd H r (.lst ([V.ref a, .int pos, .int mix].set 1 (.int (pos + 1)))) = H1
    intro h1 hS1 b1
    refine ⟨_, rfl, r, _, 1, _, rfl, rfl, SqL.of h1, atI_nat (j := 1) rfl, _, rfl, r, _, 0, _, rfl, rfl, SqL.of h1, atI_nat (j := 0) rfl, a, _, rfl, .inl hS1.sql, _, _, rfl, rfl, _, rfl, if2d (fun _ => ?_) (fun hle => ?_)⟩
    · refine ⟨_, rfl, r, _, 2, _, rfl, rfl, SqL.of h1, atI_nat (j := 2) rfl, _, _, rfl, rfl, .inr ⟨by decide, by decide⟩, _, _, rfl, rfl, _, _, rfl, rfl, (by show (0 : Int) < 2147483647; decide), _, rfl, r, _, _, 2, rfl, rfl, h1, rfl, ?_⟩
      refine ⟨_, rfl, r, [V.ref a, .int (pos + 1), .int ((mix * 48271 + 11) % 2147483647)], 2, _, rfl, rfl, .inl (.inl upd_same), atI_nat (j := 2) rfl, _, _, rfl, rfl, ⟨by decide, by decide⟩, _, rfl, _, _, rfl, rfl, hm, ?_⟩
      refine q _ _ (Int.emod_nonneg _ (by omega)) (Int.emod_lt_of_pos _ hm) ⟨a, ns, pos + 1, _, by omega, upd_same, hS1.put h1⟩ (sb_upd b1)
    · rw [List.length_map] at hle
      have hlt : pos.toNat < ns.length := by omega
      obtain ⟨z, hz⟩ : ∃ z, ns[pos.toNat]? = some z := ⟨_, List.getElem?_eq_getElem hlt⟩
      refine ⟨_, rfl, r, _, 0, _, rfl, rfl, SqL.of h1, atI_nat (j := 0) rfl, _, rfl, r, _, 1, _, rfl, rfl, SqL.of h1, atI_nat (j := 1) rfl, _, _, rfl, rfl, a, _, _, .int z, rfl, rfl, hS1.sql, at_of (j := pos.toNat) (by omega) (by rw [List.getElem?_map, hz]; rfl), ?_⟩
      refine ⟨_, rfl, r, _, 2, _, rfl, rfl, SqL.of h1, atI_nat (j := 2) rfl, _, _, rfl, rfl, .inr ⟨by decide, by decide⟩, _, rfl, _, _, rfl, rfl, _, _, rfl, rfl, _, _, rfl, rfl, (by show (0 : Int) < 2147483647; decide), _, rfl, r, _, _, 2, rfl, rfl, h1, rfl, ?_⟩
      refine ⟨_, rfl, _, rfl, _, _, rfl, rfl, hm, ?_⟩
      refine q _ _ (Int.emod_nonneg _ (by omega)) (Int.emod_lt_of_pos _ hm) ⟨a, ns, pos + 1, _, by omega, upd_same, hS1.put h1⟩ (sb_upd b1)
end
/-! ### the law's disks: any good one -/
abbrev s_l_disk : Stmt := top 23
def sp_l_disk (K : PySem.W.Frag) : Sp := fun vs H Q _ => ∃ (r : Addr), vs = [.ref r] ∧ RowAt K H r ∧ ∀ (H' : Hp) (p : Addr) (d : Disk), GoodDisk d → RowAt K H' r → SameBut r H H' → p ≠ r → H' p = some (.tup ([d.tr, d.sc, d.pa, d.he].map V.int)) → Q (.ref p) H'
theorem sc_l_disk : FnScope ["_law_row", "_law_tracks", "_law_sectors"] ["_law_row"] (defScope s_l_disk) := ⟨rfl, rfl, rfl, by decide +kernel, rfl, by decide +kernel, by decide +kernel⟩
theorem row_keep {K : PySem.W.Frag} {H H' : Hp} {r p : Addr} {o : HO} (h : RowAt K H r) (e : H p = some o) (n : p ≠ r) (s : SameBut r H H') : H' p = some o := s _ _ n e
section
variable {P : Program} {w : World} {K : PySem.W.Frag} {mg : Str → Option Value} {base : Heap}
theorem ok_l_disk {f fT : Addr} {fd fdT : FuncData} (F : Fun K "_law_disk" "_law_disk" s_l_disk f fd) (GT : FnOk P w K mg base CX0 1 fT fdT ["_law_row", "_law_many"] (sp_l_taken K)) (gT : mg "_law_taken" = some (.ref fT)) (kT : PySem.W.keepIn K (.ref fT) = true) (bT : Binds K fdT ["_law_row", "_law_many"] []) :
    FnOk P w K mg base CX0 2 f fd ["_law_row"] (sp_l_disk K) := by
  refine F.ok sc_l_disk (fun vs H Q E h => ?_) (fun cdv A outer s H vs Q E hr h => ?_)
  · obtain ⟨r, rfl, _⟩ := h
    rfl
  · obtain ⟨r, rfl, hR, q⟩ := h
    have nd := sc_l_disk.nd
    have hr1 : Room 1 _ := hr
    refine ⟨_, pss_cons (ps_set (i := 1) nd rfl (.inl rfl) (pe_op op_add pe_int (pe_call GT hr1 rfl gT kT bT .nil pass0 (pa_cons (pv 0) (pa_cons (pe_ix ix_list (pe_lst (pa_cons pe_int (pa_cons pe_int pa_nil))) (pe_call GT hr1 rfl gT kT bT .nil pass0 (pa_cons (pv 0) (pa_cons pe_int pa_nil))) (fun _ _ => rfl)) pa_nil)))))
      (pss_cons (ps_set (i := 2) nd rfl (.inl rfl) (pe_op op_add pe_int (pe_call GT hr1 rfl gT kT bT .nil pass0 (pa_cons (pv 0) (pa_cons (pe_ix ix_list (pe_lst (pa_cons pe_int (pa_cons pe_int pa_nil))) (pe_call GT hr1 rfl gT kT bT .nil pass0 (pa_cons (pv 0) (pa_cons pe_int pa_nil))) (fun _ _ => rfl)) pa_nil)))))
      (pss_one (ps_ret (pe_tup (pa_cons (pv 1) (pa_cons (pv 2) (pa_cons (pe_op op_add pe_int (pe_call GT hr1 rfl gT kT bT .nil pass0 (pa_cons (pv 0) (pa_cons pe_int pa_nil)))) (pa_cons (pe_call GT hr1 rfl gT kT bT .nil pass0 (pa_cons (pv 0) (pa_cons (pv 1) pa_nil))) pa_nil)))))))), ?_⟩
    refine ⟨_, rfl, (by show 2 ≤ sizeLine; decide), fun L hL => ?_⟩
    have nL := hR.ne hL
    refine ⟨_, rfl, r, 2, rfl, hR.but (same_new hL), by decide, fun H1 v v0 v1 hR1 s1 => ?_⟩
    have eL : H1 L = some (.lst [.int 8, .int 64]) := s1 _ _ nL upd_same
    have sb1 : SameBut r H H1 := sb_trans (sb_of (same_new hL)) s1
    obtain ⟨k, hk, k8⟩ : ∃ k : Int, atI [V.int 8, .int 64] v = some (.int k) ∧ (1 ≤ k ∧ k ≤ 64) := by
      rcases (by omega : v = 0 ∨ v = 1) with rfl | rfl
      · exact ⟨8, rfl, by decide⟩
      · exact ⟨64, rfl, by decide⟩
    refine ⟨L, _, v, _, rfl, rfl, SqL.of eL, hk, r, k, rfl, hR1, by omega, fun H2 v2 v20 v21 hR2 s2 => ?_⟩
    have sb2 := sb_trans sb1 s2
    refine ⟨_, _, rfl, rfl, ?_⟩
    refine ⟨_, rfl, (by show 2 ≤ sizeLine; decide), fun L2 hL2 => ?_⟩
    have nL2 := hR2.ne hL2
    refine ⟨_, rfl, r, 2, rfl, hR2.but (same_new hL2), by decide, fun H3 v3 v30 v31 hR3 s3 => ?_⟩
    have eL2 : H3 L2 = some (.lst [.int 4, .int 16]) := s3 _ _ nL2 upd_same
    have sb3 : SameBut r H H3 := sb_trans sb2 (sb_trans (sb_of (same_new hL2)) s3)
    obtain ⟨k2, hk2, k28⟩ : ∃ k : Int, atI [V.int 4, .int 16] v3 = some (.int k) ∧ (1 ≤ k ∧ k ≤ 16) := by
      rcases (by omega : v3 = 0 ∨ v3 = 1) with rfl | rfl
      · exact ⟨4, rfl, by decide⟩
      · exact ⟨16, rfl, by decide⟩
    refine ⟨L2, _, v3, _, rfl, rfl, SqL.of eL2, hk2, r, k2, rfl, hR3, by omega, fun H4 v4 v40 v41 hR4 s4 => ?_⟩
    have sb4 := sb_trans sb3 s4
    refine ⟨_, _, rfl, rfl, ?_⟩
    refine ⟨_, rfl, _, rfl, _, rfl, r, 4, rfl, hR4, by decide, fun H5 v5 v50 v51 hR5 s5 => ?_⟩
    refine ⟨_, _, rfl, rfl, _, rfl, _, rfl, r, 1 + v2, rfl, hR5, by omega, fun H6 v6 v60 v61 hR6 s6 => ?_⟩
    refine ⟨(by show 4 ≤ sizeLine; decide), fun p hp => ?_⟩
    have sb6 := sb_trans sb4 (sb_trans s5 s6)
    exact q _ p ⟨1 + v2, 1 + v4, 1 + v5, v6⟩ ⟨by show 1 ≤ 1 + v2; omega, by show 1 + v2 ≤ 64; omega, by show 1 ≤ 1 + v4; omega, by show 1 + v4 ≤ 16; omega, by show 1 ≤ 1 + v5; omega, by show 1 + v5 ≤ 4; omega, v60, v61⟩
      (hR6.but (same_new hp)) (sb_new sb6 hp) (hR6.ne hp) upd_same
end
/-! ### the law's asks: any good ones, no more than it says -/
abbrev s_l_asks : Stmt := top 24
def sp_l_asks (K : PySem.W.Frag) : Sp := fun vs H Q _ => ∃ (r : Addr) (v : V) (d : Disk) (most : Int), vs = [.ref r, v, .int most] ∧ RowAt K H r ∧ Dp K (wo H r) v (dDisk d) ∧ GoodDisk d ∧ 0 ≤ most ∧ most ≤ 40 ∧
  ∀ (H' : Hp) (p : Addr) (l : List Ask) (xs : List V), GoodAsks d l → (l.length : Int) ≤ most → RowAt K H' r → SameBut r H H' → p ≠ r → H p = none → H' p = some (.lst xs) → DpAll K (wo (wo H' r) p) xs (l.map dAsk) → Q (.ref p) H'
theorem sc_l_asks : FnScope ["_law_row", "_law_disk_here", "_law_most", "_law_often", "_law_few", "_law_found", "_law_k"] ["_law_row", "_law_disk_here", "_law_most"] (defScope s_l_asks) := ⟨rfl, rfl, rfl, by decide +kernel, rfl, by decide +kernel, by decide +kernel⟩
section
variable {P : Program} {w : World} {K : PySem.W.Frag} {mg : Str → Option Value} {base : Heap}
theorem ok_l_asks {f fT : Addr} {fd fdT : FuncData} (F : Fun K "_law_asks" "_law_asks" s_l_asks f fd) (GT : FnOk P w K mg base CX0 1 fT fdT ["_law_row", "_law_many"] (sp_l_taken K)) (gT : mg "_law_taken" = some (.ref fT)) (kT : PySem.W.keepIn K (.ref fT) = true) (bT : Binds K fdT ["_law_row", "_law_many"] [])
    (mm : mg "min" = none) (mr : mg "range" = none) : FnOk P w K mg base CX0 2 f fd ["_law_row", "_law_disk_here", "_law_most"] (sp_l_asks K) := by
  refine F.ok sc_l_asks (fun vs H Q E h => ?_) (fun cdv A outer s H vs Q E hr h => ?_)
  · obtain ⟨r, v, d, most, rfl, _⟩ := h
    rfl
  · obtain ⟨r, v, d, most, rfl, hR, hd, g, m0, m40, q⟩ := h
    obtain ⟨a, rfl, hT⟩ := dp_disk hd
    have nd := sc_l_asks.nd
    have hr1 : Room 1 _ := hr
    have hTB : ∀ {H' : Hp}, SameBut r H H' → SqT K H' a [.int d.tr, .int d.sc, .int d.pa, .int d.he] := fun s => same_sqt wo_sub (same_sqt (sb_wo s) hT)
    refine ⟨_, pss_cons (ps_set (i := 3) nd rfl (.inl rfl) (pe_ix ix_list (pe_lst (pa_cons pe_int (pa_cons pe_int (pa_cons pe_int (pa_cons pe_int pa_nil))))) (pe_call GT hr1 rfl gT kT bT .nil pass0 (pa_cons (pv 0) (pa_cons pe_int pa_nil))) (fun _ _ => rfl)))
      (pss_cons (ps_set (i := 4) nd rfl (.inl rfl) (pe_ix ix_list (pe_lst (pa_cons (pe_ix ix_tup (pv 1) pe_int (fun _ _ => rfl)) (pa_cons (pe_callB (call_min2 rfl) (by rfl) mm (by decide +kernel) (pa_cons (pe_ix ix_tup (pv 1) pe_int (fun _ _ => rfl)) (pa_cons pe_int pa_nil))) pa_nil))) (pe_call GT hr1 rfl gT kT bT .nil pass0 (pa_cons (pv 0) (pa_cons pe_int pa_nil))) (fun _ _ => rfl)))
      (pss_cons (ps_set (i := 5) nd rfl (.inl rfl) (pe_lst pa_nil))
      (pss_cons (ps_for PassesOwn.never rfl (pi_range1 rfl mr (pa_cons (pe_call GT hr1 rfl gT kT bT .nil pass0 (pa_cons (pv 0) (pa_cons (pe_op op_add (pv 2) pe_int) pa_nil))) pa_nil)) (pg_name (i := 6) nd rfl (.inl rfl))
        (pss_one (ps_expr (pe_bm PySem.F.plainAttrs_list PySem.F.slot_list_append PySem.F.type_list_append mt_append (pv 5) (pa_cons (pe_tup (pa_cons (pe_call GT hr1 rfl gT kT bT .nil pass0 (pa_cons (pv 0) (pa_cons (pv 3) pa_nil))) (pa_cons (pe_call GT hr1 rfl gT kT bT .nil pass0 (pa_cons (pv 0) (pa_cons (pv 4) pa_nil)))
          (pa_cons (pe_call GT hr1 rfl gT kT bT .nil pass0 (pa_cons (pv 0) (pa_cons (pe_ix ix_tup (pv 1) pe_int (fun _ _ => rfl)) pa_nil))) pa_nil)))) pa_nil)))))
      (pss_one (ps_ret (pv 5)))))), ?_⟩
    refine ⟨(by show 4 ≤ sizeLine; decide), fun L hL => ?_⟩
    have nL := hR.ne hL
    refine ⟨_, rfl, r, 4, rfl, hR.but (same_new hL), by decide, fun H1 v v0 v1 hR1 s1 => ?_⟩
    have eL : H1 L = some (.lst [.int 1, .int 5, .int 60, .int 1000]) := s1 _ _ nL upd_same
    have sb1 : SameBut r H H1 := sb_trans (sb_of (same_new hL)) s1
    obtain ⟨k, hk, k8⟩ : ∃ k : Int, atI [V.int 1, .int 5, .int 60, .int 1000] v = some (.int k) ∧ (1 ≤ k ∧ k ≤ 1000) := by
      rcases (by omega : v = 0 ∨ v = 1 ∨ v = 2 ∨ v = 3) with rfl | rfl | rfl | rfl
      · exact ⟨1, rfl, by decide⟩
      · exact ⟨5, rfl, by decide⟩
      · exact ⟨60, rfl, by decide⟩
      · exact ⟨1000, rfl, by decide⟩
    refine ⟨L, _, v, _, rfl, rfl, SqL.of eL, hk, ?_⟩
    refine ⟨_, rfl, a, _, 0, _, rfl, rfl, hTB sb1, atI_nat (j := 0) rfl, _, rfl, a, _, 0, _, rfl, rfl, hTB sb1, atI_nat (j := 0) rfl, _, _, rfl, (by show 2 ≤ sizeLine; decide), fun L2 hL2 => ?_⟩
    have nL2 := hR1.ne hL2
    refine ⟨_, rfl, r, 2, rfl, hR1.but (same_new hL2), by decide, fun H2 v2 v20 v21 hR2 s2 => ?_⟩
    have eL2 : H2 L2 = some (.lst [.int d.tr, .int (if (4 : Int) < d.tr then 4 else d.tr)]) := s2 _ _ nL2 upd_same
    have sb2 : SameBut r H H2 := sb_trans sb1 (sb_trans (sb_of (same_new hL2)) s2)
    have ht1 := g.t1
    obtain ⟨k2, hk2, k28⟩ : ∃ k : Int, atI [V.int d.tr, .int (if (4 : Int) < d.tr then 4 else d.tr)] v2 = some (.int k) ∧ (1 ≤ k ∧ k ≤ d.tr) := by
      rcases (by omega : v2 = 0 ∨ v2 = 1) with rfl | rfl
      · exact ⟨d.tr, rfl, by omega⟩
      · exact ⟨_, rfl, by split <;> omega⟩
    refine ⟨L2, _, v2, _, rfl, rfl, SqL.of eL2, hk2, Nat.zero_le _, fun F hF => ?_⟩
    have nF := hR2.ne hF
    have hF0 : H F = none := sb_free sb2 nF hF
    refine ⟨_, rfl, _, rfl, _, _, rfl, rfl, r, most + 1, rfl, hR2.but (same_new hF), by omega, fun H3 n n0 n1 hR3 s3 => ?_⟩
    have sb3 : SameBut r H H3 := sb_trans sb2 (sb_trans (sb_of (same_new hF)) s3)
    have eF3 : H3 F = some (.lst []) := s3 _ _ nF upd_same
    refine ⟨n, rfl, by omega, by omega, ?_⟩
    refine for_range (lo := 0) (n := n.toNat) (fun i σ H' => RowAt K H' r ∧ SameBut r H H' ∧ ∃ (l : List Ask) (xs : List V) (v6 : Option V), σ = [some (.ref r), some (.ref a), some (.int most), some (.int k), some (.int k2), some (.ref F), v6] ∧
        l.length = i ∧ xs.length = i ∧ (∀ x ∈ l, GoodAsk d x) ∧ H' F = some (.lst xs) ∧ DpAll K (wo (wo H' r) F) xs (l.map dAsk)) ⟨hR3, sb3, [], [], none, rfl, rfl, rfl, fun x hx => absurd hx (by simp), eF3, .nil⟩ ?_ ?_
    · rintro i σ H' hi ⟨hR', sb', l, xs, v6, rfl, hl, hx, hg, eF, hda⟩
      refine ⟨_, rfl, .inl ⟨rfl, _, SqL.of eF⟩, ?_⟩
      refine ⟨_, rfl, _, rfl, r, k, rfl, hR', by omega, fun H4 c c0 c1 hR4 s4 => ?_⟩
      refine ⟨_, rfl, _, rfl, r, k2, rfl, hR4, by omega, fun H5 t t0 t1 hR5 s5 => ?_⟩
      have sb5 := sb_trans sb' (sb_trans s4 s5)
      refine ⟨_, rfl, _, rfl, a, _, 1, _, rfl, rfl, hTB sb5, atI_nat (j := 1) rfl, r, d.sc, rfl, hR5, (by have := g.s1; omega), fun H6 z z0 z1 hR6 s6 => ?_⟩
      refine ⟨(by show 3 ≤ sizeLine; decide), fun p hp => ?_⟩
      have sb6 := sb_trans sb5 s6
      have sF6 := sb_trans s4 (sb_trans s5 s6)
      have eF6 : H6 F = some (.lst xs) := sF6 _ _ nF eF
      have nFp : F ≠ p := ne_of_none eF6 hp
      have npr : p ≠ r := hR6.ne hp
      refine ⟨F, xs, .ref p, rfl, rfl, by rw [upd_ne nFp]; exact eF6, small1000 (by omega), ?_⟩
      refine ⟨(hR6.but (same_new hp)).put nF (by rw [upd_ne nFp]; exact eF6), sb_old (sb_new sb6 hp) hF0, l ++ [(c, t, z)], xs ++ [.ref p], some (.int (0 + (i : Int))), rfl, by rw [List.length_append, hl]; rfl, by rw [List.length_append, hx]; rfl, ?_, upd_same, ?_⟩
      · intro x hx'
        rcases List.mem_append.mp hx' with h | h
        · exact hg x h
        · rw [List.mem_singleton.mp h]
          exact ⟨c0, by show c ≤ 999; omega, t0, by show t < d.tr; omega, z0, z1⟩
      · rw [List.map_append]
        refine dpa_snoc (dpa_same ?_ hda) ?_
        · exact wo2_step fun b o n1 n2 e => by rw [upd_ne n2, upd_ne (ne_of_none (sF6 b o n1 e) hp)]; exact sF6 b o n1 e
        · exact dp_tints_of (ns := [c, t, z]) (.inl (.inl (by rw [wo_ne nFp.symm, wo_ne npr, upd_ne nFp.symm, upd_same]; rfl)))
    · rintro σ H' ⟨hR', sb', l, xs, v6, rfl, hl, hx, hg, eF, hda⟩
      exact ⟨_, rfl, q H' F l xs ⟨by omega, hg⟩ (by omega) hR' sb' nF hF0 eF hda⟩
end
/-- a result (rows, costs), all new: a tuple at p of the list at c and the tuple at t -/
structure ResAt (K : PySem.W.Frag) (H H' : Hp) (p c t : Addr) (xs : List V) (rs : List (Nat × Int)) (k : Int × Int × Int) : Prop where
  same : Same H H'
  p0 : H p = none
  c0 : H c = none
  t0 : H t = none
  hp : H' p = some (.tup [.ref c, .ref t])
  hc : H' c = some (.lst xs)
  ht : H' t = some (.tup ([k.1, k.2.1, k.2.2].map V.int))
  rows : DpAll K (fr H H' c) xs (rs.map dRow)
theorem ResAt.dp {K : PySem.W.Frag} {H H' : Hp} {p c t : Addr} {xs : List V} {rs : List (Nat × Int)} {k : Int × Int × Int} (r : ResAt K H H' p c t xs rs k) : Dp K (nw H H') (.ref p) (dRes rs k) :=
  .tup (.inl (.inl (by rw [nw_none r.p0]; exact r.hp))) (.cons (.lst (.inl (.inl (by rw [nw_none r.c0]; exact r.hc))) (dpa_same fr_nw r.rows)) (.cons (dp_tints_of (.inl (.inl (by rw [nw_none r.t0]; exact r.ht)))) .nil))
/-! ### the law's own list of all orders -/
abbrev s_l_orders : Stmt := top 27
def sp_l_orders (K : PySem.W.Frag) : Sp := fun vs H Q _ => ∃ (n : Nat), vs = [.int (n : Int)] ∧ n ≤ 6 ∧ ∀ (H' : Hp) (p : Addr) (vs : List V), Same H H' → H p = none → H' p = some (.lst vs) → All2 (OrdAt (nw H H')) vs (ordersK n n) → Q (.ref p) H'
theorem sc_l_orders : FnScope ["_law_many", "_law_found", "_law_turn", "_law_longer", "_law_order", "_law_number"] ["_law_many"] (defScope s_l_orders) := ⟨rfl, rfl, rfl, by decide +kernel, rfl, by decide +kernel, by decide +kernel⟩
section
variable {P : Program} {w : World} {K : PySem.W.Frag} {mg : Str → Option Value} {base : Heap}
set_option maxHeartbeats 16000000 in
theorem ok_l_orders {f : Addr} {fd : FuncData} (F : Fun K "_law_orders" "_law_orders" s_l_orders f fd) (mb_range : mg "range" = none) : FnOk P w K mg base CX0 1 f fd ["_law_many"] (sp_l_orders K) := by
  refine F.ok sc_l_orders (fun vs H Q E h => ?_) (fun cdv A outer s H vs Q E hr h => ?_)
  · obtain ⟨n, rfl, _⟩ := h
    rfl
  · obtain ⟨n, rfl, hn, q⟩ := h
    have nd := sc_l_orders.nd
    refine ⟨_, (pss_cons (ps_set (i := 1) nd rfl (.inl rfl) (pe_lst (pa_cons (pe_lst pa_nil) pa_nil)))
      (pss_cons (ps_for PassesOwn.never rfl (pi_range1 rfl mb_range (pa_cons (pv 0) pa_nil)) (pg_name (i := 2) nd rfl (.inl rfl))
        (pss_cons (ps_set (i := 3) nd rfl (.inl rfl) (pe_lst pa_nil))
      (pss_cons (ps_for PassesOwn.never rfl (pi_list (pv 1)) (pg_name (i := 4) nd rfl (.inr rfl))
        (pss_one (ps_expr (pe_bm PySem.F.plainAttrs_list PySem.F.slot_list_extend PySem.F.type_list_extend mt_extend (pv 3) (pa_cons (pe_lc (own := [("_law_number", 5)]) (g := (gName 5)) rfl nd (pi_range1 rfl mb_range (pa_cons (pv 0) pa_nil)) (blkOk_by (own := [("_law_number", 5)]) (N := ["_law_many", "_law_found", "_law_turn", "_law_longer", "_law_order", "_law_number"]) (sc := defScope s_l_orders) (by decide +kernel)) (fun _ _ _ _ _ => (pg_name (i := 5) nd rfl (.inl rfl))) (fun _ _ _ _ _ => (pts_one (pt_cmpR (r := rIn K true) op_notIn_seq (pv 5) (pv 4) (by rfl)))) (fun _ _ _ _ _ => (pe_op op_cat (pv 4) (pe_lst (pa_cons (pv 5) pa_nil))))) pa_nil)))))
      (pss_one (ps_set (i := 1) nd rfl (.inl rfl) (pv 3))))))
      (pss_one (ps_ret (pv 1))))), ?_⟩
    refine ⟨Nat.zero_le _, fun o0 ho0 => ⟨(by show 1 ≤ sizeLine; decide), fun L0 hL0 => ?_⟩⟩
    have s1 := same_new (o := .lst []) ho0
    have s2 := same_new (o := HO.lst [.ref o0]) hL0
    have s12 := s1.trans s2
    refine ⟨_, rfl, _, rfl, by omega, by omega, ?_⟩
    refine for_range (lo := 0) (n := n) (fun k σ H' => Same H H' ∧ ∃ (Lv : Addr) (vs : List V) (v2 v3 v4 v5 : Option V), σ = [some (.int (n : Int)), some (.ref Lv), v2, v3, v4, v5] ∧ H Lv = none ∧ H' Lv = some (.lst vs) ∧ All2 (OrdAt (nw H H')) vs (ordersK n k))
      ⟨s12, L0, [.ref o0], none, none, none, none, rfl, s1.free hL0, upd_same, ⟨o0, rfl, ?_⟩, trivial⟩ ?_ ?_
    · rw [nw_none ho0]
      exact s2 _ _ upd_same
    · rintro k σ H1 hk ⟨sH, Lv, vs, v2, v3, v4, v5, rfl, hLv, eLv, hall⟩
      refine ⟨Nat.zero_le _, fun Lg hLg => ?_⟩
      have hLgH := sH.free hLg
      have sg := same_new (o := .lst []) hLg
      have hvl : vs.length = (ordersK n k).length := all2_len hall
      refine ⟨_, rfl, Lv, rfl, ⟨_, SqL.of (sg _ _ eLv)⟩, for_list (K := K) (a := Lv) (xs := vs)
        (fun j σ H' => Same H H' ∧ Same H1 H' ∧ ∃ (us : List V) (v2 v4 v5 : Option V), σ = [some (.int (n : Int)), some (.ref Lv), v2, some (.ref Lg), v4, v5] ∧ H' Lg = some (.lst us) ∧ All2 (OrdAt (fr H H' Lg)) us (((ordersK n k).take j).flatMap (moreOf n)))
        ⟨sH.trans sg, sg, [], _, _, _, rfl, upd_same, trivial⟩ (fun j σ H' _ ⟨_, s, _⟩ => SqL.of (s _ _ eLv)) ?_ ?_⟩
      · rintro j y σ H2 hj ⟨sH2, s12, us, v2, v4, v5, rfl, eLg, hus⟩
        obtain ⟨os, hos, o, rfl, eO⟩ := all2_at hall hj
        have hio := ordersK_is (List.mem_of_getElem? hos)
        have eO2 := s12 _ _ (nw_sub _ _ eO)
        refine ⟨_, rfl, .inl ⟨rfl, _, SqL.of eLg⟩, _, rfl, n, rfl, by omega, by omega, fun D hD => ?_⟩
        have nGD : Lg ≠ D := ne_of_none eLg hD
        have hDH : H D = none := sH2.free hD
        have sD := same_new (o := .lst []) hD
        refine lc_range (lo := 0) (n := n) (fun i H' => Same H2 H' ∧ ∃ ws : List V, H' D = some (.lst ws) ∧ ws.length ≤ i ∧ All2 (OrdAt (fr2 H H' D Lg)) ws (moreTo i os)) ⟨sD, [], upd_same, Nat.le_refl _, trivial⟩ ?_ ?_
        · rintro i H3 hi ⟨s23, ws, eD, hwl, hws⟩
          have eO3 := s23 _ _ eO2
          refine ⟨rfl, _, rfl, _, rfl, o, _, rfl, .inl (SqL.of eO3), rfl, flat_nints os, _, rfl, ?_⟩
          refine ite_eqb (c := decide (i ∉ os)) ?_ ?_
          · show (!inV (.int (0 + (i : Int))) ((nints os).map V.int)) = decide (i ∉ os)
            rw [Int.zero_add, inV_nints]
            simp
          refine if2d (fun hni => ?_) (fun hin => ?_)
          · refine ⟨_, rfl, _, rfl, (by show 1 ≤ sizeLine; decide), fun q1 hq1 => ?_⟩
            have nOq : o ≠ q1 := ne_of_none eO3 hq1
            have t1 := same_new (o := HO.lst [V.int (0 + (i : Int))]) hq1
            refine ⟨o, q1, _, _, rfl, rfl, by rw [upd_ne nOq]; exact eO3, upd_same, by rw [List.length_map, nints_len, hio.len]; show k + 1 ≤ sizeLine; exact Nat.le_trans (by omega) (by decide : 7 ≤ sizeLine), fun o2 ho2 => ?_⟩
            have t2 := same_new (o := HO.lst ((nints os).map V.int ++ [V.int (0 + (i : Int))])) ho2
            have t12 := t1.trans t2
            have nDo : o2 ≠ D := (ne_of_none (t1 _ _ eD) ho2).symm
            have fo : H o2 = none := sH2.free (s23.free (t1.free ho2))
            refine ⟨ws, t12 _ _ eD, Nat.lt_of_le_of_lt hwl (Nat.lt_of_lt_of_le (by omega : i < 6) (by decide)), same_upd (s23.trans t12) hD, ws ++ [.ref o2], upd_same, by rw [List.length_append]; show ws.length + 1 ≤ i + 1; omega, ?_⟩
            rw [moreTo_out hni]
            have nGo : o2 ≠ Lg := (ne_of_none (t1 _ _ (s23 _ _ eLg)) ho2).symm
            refine all2_snoc ⟨o2, rfl, fr2_at nDo nGo fo ?_⟩ (all2_mono (fun v os => ordAt_same (fr2_step fun b o n1 n2 e => by rw [upd_ne n1]; exact t12 _ _ e)) hws)
            rw [upd_ne nDo, upd_same, ← nints_snoc, Int.zero_add]
          · refine ⟨s23, ws, eD, by omega, ?_⟩
            rw [moreTo_in (by simpa using hin)]
            exact hws
        · rintro H3 ⟨s23, ws, eD, hwl, hws⟩
          have eLg3 := s23 _ _ eLg
          have hul : us.length + ws.length ≤ 1000000 := by
            rw [all2_len hus]
            have h1 := flat_len (moreOf n) n ((ordersK n k).take j) fun x _ => moreOf_len n x
            have h2 : ((ordersK n k).take j).length ≤ 46656 := by
              rw [List.length_take]
              have := ordersK_len6 hn (show k ≤ 6 by omega)
              omega
            have h4 : ((ordersK n k).take j).length * n ≤ 46656 * 6 := Nat.mul_le_mul h2 hn
            omega
          refine ⟨Lg, D, us, ws, rfl, rfl, eLg3, eD, Nat.le_trans hul (by decide), ?_⟩
          refine ⟨same_upd (sH2.trans s23) hLgH, same_upd (s12.trans s23) hLg, us ++ ws, _, _, _, rfl, upd_same, ?_⟩
          rw [take_flat hos]
          exact all2_app (all2_mono (fun v os => ordAt_same ((wo_mono (wo_sub (r := D))).trans (fr_step (sb_upd sb_refl)))) hws) (all2_mono (fun v os => ordAt_same (fr_step (sb_upd (sb_of s23)))) hus)
      · rintro σ H2 ⟨sH2, s12, us, v2, v4, v5, rfl, eLg, hus⟩
        rw [show (ordersK n k).take vs.length = ordersK n k from List.take_of_length_le (by omega)] at hus
        exact ⟨_, rfl, sH2, Lg, us, _, _, _, _, rfl, hLgH, eLg, all2_mono (fun v os => ordAt_same fr_nw) hus⟩
    · rintro σ H1 ⟨sH, Lv, vs, v2, v3, v4, v5, rfl, hLv, eLv, hall⟩
      exact ⟨_, rfl, q H1 Lv vs sH hLv eLv hall⟩
end
end Ag

namespace Ag
open PySem PySem.Spec PyProof.Rows L2
/-! ### the law's look at two answers: the same data is alike -/
abbrev s_l_alike : Stmt := top 22
def okD : Nat → PyData → Prop
  | 0, _ => False
  | n + 1, .list ds => ds.length ≤ 1000000 ∧ ∀ d ∈ ds, okD n d
  | n + 1, .tuple ds => ds.length ≤ 1000000 ∧ ∀ d ∈ ds, okD n d
  | _ + 1, .dict _ => False
  | _ + 1, _ => True
theorem okD_int (n : Nat) (i : Int) : okD (n + 1) (.int i) := by simp [okD]
theorem okD_str (n : Nat) (i : Str) : okD (n + 1) (.str i) := by simp [okD]
theorem okD_list {n : Nat} {ds : List PyData} (h : ds.length ≤ 1000000) (h2 : ∀ d ∈ ds, okD n d) : okD (n + 1) (.list ds) := by
  unfold okD
  exact ⟨h, h2⟩
theorem okD_tuple {n : Nat} {ds : List PyData} (h : ds.length ≤ 1000000) (h2 : ∀ d ∈ ds, okD n d) : okD (n + 1) (.tuple ds) := by
  unfold okD
  exact ⟨h, h2⟩
theorem okD_ints (n : Nat) (ns : List Int) : ∀ d ∈ ns.map PyData.int, okD (n + 1) d := fun d hd => by
  obtain ⟨i, _, rfl⟩ := List.mem_map.mp hd
  exact okD_int n i
def tyN : PyData → String
  | .none => "NoneType"
  | .bool _ => "bool"
  | .int _ => "int"
  | .str _ => "str"
  | .list _ => "list"
  | .tuple _ => "tuple"
  | .dict _ => "dict"
theorem dp_ty {K : PySem.W.Frag} {H : Hp} {x : V} : ∀ {d : PyData}, Dp K H x d → TyX K H x (.type (tyN d))
  | .none, h => by cases h; exact .base .non
  | .bool _, h => by cases h; exact .base (.bl _)
  | .int _, h => by cases h; exact .base (.int _)
  | .str _, h => by cases h; exact .base (.str _)
  | .list _, h => by
    cases h with
    | lst hs ha =>
      rcases hs with (h | ⟨o, h⟩) | ⟨o, its, n, h, c, _⟩
      · exact .base (.lst h)
      · exact .base (.frz h)
      · exact .kList h c
  | .tuple _, h => by
    cases h with
    | tup hs ha =>
      rcases hs with (h | ⟨o, h⟩) | ⟨o, its, n, h, c, _⟩
      · exact .base (.tup h)
      · exact .fTuple h
      · exact .kTuple h c
  | .dict _, h => by cases h
def sp_l_alike (n : Nat) (K : PySem.W.Frag) : Sp := fun vs H Q _ => ∃ (x y : V) (d : PyData), vs = [x, y] ∧ Dp K H x d ∧ Dp K H y d ∧ okD n d ∧ ∀ H' : Hp, Same H H' → Q (.bl true) H'
theorem sc_l_alike : FnScope ["_law_found", "_law_due", "_law_k"] ["_law_found", "_law_due"] (defScope s_l_alike) := ⟨rfl, rfl, rfl, by decide +kernel, rfl, by decide +kernel, by decide +kernel⟩
/-- length and items of a list or tuple that is read -/
theorem dp_seq {K : PySem.W.Frag} {H : Hp} {x : V} {ds : List PyData} (h : Dp K H x (.list ds) ∨ Dp K H x (.tuple ds)) : ∃ a xs, x = .ref a ∧ (SqL K H a xs ∨ SqT K H a xs) ∧ DpAll K H xs ds := by
  rcases h with h | h
  · obtain ⟨a, xs, e, h1, h2⟩ := dp_list h
    exact ⟨a, xs, e, .inl h1, h2⟩
  · obtain ⟨a, xs, e, h1, h2⟩ := dp_tuple h
    exact ⟨a, xs, e, .inr h1, h2⟩
theorem lenv_seq {K : PySem.W.Frag} {H : Hp} {a : Addr} {xs : List V} {n : Nat} (h : SqL K H a xs ∨ SqT K H a xs) (e : n = xs.length) : LenV K (.ref a) H n := by
  rcases h with h | h
  · exact .inl ⟨xs, h, e⟩
  · exact .inr ⟨xs, h, e⟩
theorem rix_seq {K : PySem.W.Frag} {H : Hp} {a : Addr} {xs : List V} {i : Int} {v : V} {Q : VK} (h : SqL K H a xs ∨ SqT K H a xs) (e : atI xs i = some v) (q : Q v H) : rIx K (.ref a) (.int i) H Q := by
  rcases h with h | h
  · exact .inl ⟨a, xs, i, v, rfl, rfl, h, e, q⟩
  · exact .inr (.inl ⟨a, xs, i, v, rfl, rfl, h, e, q⟩)
section
variable {P : Program} {w : World} {K : PySem.W.Frag} {mg : Str → Option Value} {base : Heap}
theorem kit_not {a b : String} {r : Bool} (h : kitB a b = some r) : PySem.W.kitOne K (.type a) (.type b) = some r := kit_ty h
set_option maxHeartbeats 16000000 in
theorem ok_l_alike {f : Addr} {fd : FuncData} (F : Fun K "_law_alike" "_law_alike" s_l_alike f fd) (bA : Binds K fd ["_law_found", "_law_due"] []) (gA : mg "_law_alike" = some (.ref f)) (mi : mg "isinstance" = none) (mt : mg "tuple" = none) (ml : mg "list" = none) (mb : mg "bool" = none) (ms : mg "str" = none) (mn : mg "int" = none)
    (me : mg "len" = none) (mr : mg "range" = none) : ∀ n : Nat, FnOk P w K mg base CX0 (n + 1) f fd ["_law_found", "_law_due"] (sp_l_alike n K)
  | 0 => by
    refine F.ok sc_l_alike (fun vs H Q E h => ?_) (fun cdv A outer s H vs Q E hr h => ?_)
    · obtain ⟨x, y, d, rfl, _⟩ := h
      rfl
    · obtain ⟨x, y, d, _, _, _, h, _⟩ := h
      unfold okD at h
      exact h.elim
  | n + 1 => by
    have G := ok_l_alike F bA gA mi mt ml mb ms mn me mr n
    refine F.ok sc_l_alike (fun vs H Q E h => ?_) (fun cdv A outer s H vs Q E hr h => ?_)
    · obtain ⟨x, y, d, rfl, _⟩ := h
      rfl
    · obtain ⟨x, y, d, rfl, hx, hy, hok, q⟩ := h
      have nd := sc_l_alike.nd
      refine ⟨_, pss_cons (ps_if (PW.pt (pw_or (pt_val (pe_callB call_isi (by rfl) mi (by decide +kernel) (pa_cons (pv 1) (pa_cons (pe_bltn (v := .ty "tuple") rfl mt (by decide +kernel) rfl) pa_nil))))
          (pw_or1 (pt_val (pe_callB call_isi (by rfl) mi (by decide +kernel) (pa_cons (pv 1) (pa_cons (pe_bltn (v := .ty "list") rfl ml (by decide +kernel) rfl) pa_nil)))))))
          (pss_cons (ps_if (PW.pt (pw_or (pt_cmpR op_ne (pe_callB call_isi (by rfl) mi (by decide +kernel) (pa_cons (pv 0) (pa_cons (pe_bltn (v := .ty "tuple") rfl mt (by decide +kernel) rfl) pa_nil))) (pe_callB call_isi (by rfl) mi (by decide +kernel) (pa_cons (pv 1) (pa_cons (pe_bltn (v := .ty "tuple") rfl mt (by decide +kernel) rfl) pa_nil))) (nomark _))
            (pw_or1 (pt_not (pt_val (pe_callB call_isiT (by rfl) mi (by decide +kernel) (pa_cons (pv 0) (pa_cons (pe_tup (pa_cons (pe_bltn (v := .ty "tuple") rfl mt (by decide +kernel) rfl) (pa_cons (pe_bltn (v := .ty "list") rfl ml (by decide +kernel) rfl) pa_nil))) pa_nil))))))))
            (pss_one ps_never) pss_nil)
          (pss_cons (ps_if (pt_cmpR op_ne (pe_callB call_len (by rfl) me PySem.boot_len (pa_cons (pv 0) pa_nil)) (pe_callB call_len (by rfl) me PySem.boot_len (pa_cons (pv 1) pa_nil)) (nomark _)) (pss_one ps_never) pss_nil)
          (pss_one (ps_ret (pe_cmpR (op_eqD hr.units) (pe_lc (own := [("_law_k", 2)]) (g := gName 2) rfl nd (pi_range1 rfl mr (pa_cons (pe_callB call_len (by rfl) me PySem.boot_len (pa_cons (pv 1) pa_nil)) pa_nil)) (blkOk_by (own := [("_law_k", 2)]) (N := ["_law_found", "_law_due", "_law_k"]) (sc := defScope s_l_alike) (by decide +kernel))
            (fun _ _ _ _ _ => pg_name (i := 2) nd rfl (Or.inl rfl))
            (fun _ _ _ _ _ => pts_one (pt_not (pt_val (pe_call G hr rfl gA F.kp bA .nil pass0 (pa_cons (pe_ix (r := rIx K) ix_seq (pv 0) (pv 2) (fun _ _ => rfl)) (pa_cons (pe_ix (r := rIx K) ix_seq (pv 1) (pv 2) (fun _ _ => rfl)) pa_nil))))))
            (fun _ _ _ _ _ => pv 2)) (pe_lst pa_nil) (nomark _)))))) pss_nil)
        (pss_cons (ps_if (PW.pt (pw_or (pt_cmpR op_isN (pv 1) pe_non (nomark _)) (pw_or1 (pt_cmpR op_isN (pv 0) pe_non (nomark _))))) (pss_one (ps_ret (pe_and (pe_cmpR op_isN (pv 1) pe_non (nomark _)) (pe_one (pe_cmpR op_isN (pv 0) pe_non (nomark _)))))) pss_nil)
        (pss_cons (ps_if (PW.pt (pw_or (pt_val (pe_callB call_isi (by rfl) mi (by decide +kernel) (pa_cons (pv 1) (pa_cons (pe_bltn (v := .ty "bool") rfl mb (by decide +kernel) rfl) pa_nil)))) (pw_or1 (pt_val (pe_callB call_isi (by rfl) mi (by decide +kernel) (pa_cons (pv 0) (pa_cons (pe_bltn (v := .ty "bool") rfl mb (by decide +kernel) rfl) pa_nil)))))))
          (pss_one (ps_ret (pe_and (pe_callB call_isi (by rfl) mi (by decide +kernel) (pa_cons (pv 1) (pa_cons (pe_bltn (v := .ty "bool") rfl mb (by decide +kernel) rfl) pa_nil))) (pe_and (pe_callB call_isi (by rfl) mi (by decide +kernel) (pa_cons (pv 0) (pa_cons (pe_bltn (v := .ty "bool") rfl mb (by decide +kernel) rfl) pa_nil))) (pe_one (pe_cmpR op_eq (pv 0) (pv 1) (nomark _))))))) pss_nil)
        (pss_cons (ps_if (pt_val (pe_callB call_isi (by rfl) mi (by decide +kernel) (pa_cons (pv 1) (pa_cons (pe_bltn (v := .ty "str") rfl ms (by decide +kernel) rfl) pa_nil))))
          (pss_one (ps_ret (pe_and (pe_callB call_isi (by rfl) mi (by decide +kernel) (pa_cons (pv 0) (pa_cons (pe_bltn (v := .ty "str") rfl ms (by decide +kernel) rfl) pa_nil))) (pe_one (pe_cmpR op_eq (pv 0) (pv 1) (nomark _)))))) pss_nil)
        (pss_one (ps_ret (pe_and (pe_callB call_isi (by rfl) mi (by decide +kernel) (pa_cons (pv 0) (pa_cons (pe_bltn (v := .ty "int") rfl mn (by decide +kernel) rfl) pa_nil))) (pe_one (pe_cmpR op_eq (pv 0) (pv 1) (nomark _))))))))), ?_⟩
      have cls : (∃ (ds : List PyData) (tn : String) (bt : Bool), (∀ H', Same H H' → TyX K H' x (.type tn)) ∧ (∀ H', Same H H' → TyX K H' y (.type tn)) ∧ kitB tn "tuple" = some bt ∧ kitB tn "list" = some (!bt) ∧ (Dp K H x (.list ds) ∨ Dp K H x (.tuple ds)) ∧ (Dp K H y (.list ds) ∨ Dp K H y (.tuple ds)) ∧ ds.length ≤ 1000000 ∧ ∀ e ∈ ds, okD n e) ∨
          (TyX K H x (.type (tyN d)) ∧ TyX K H y (.type (tyN d)) ∧ x = y ∧ ((∃ i, d = .int i ∧ x = .int i) ∨ (∃ i, d = .str i ∧ x = .str i) ∨ (∃ i, d = .bool i ∧ x = .bl i) ∨ (d = .none ∧ x = .non))) := by
        have tx := dp_ty hx
        have ty := dp_ty hy
        cases d with
        | none =>
          cases hx
          cases hy
          exact .inr ⟨tx, ty, rfl, .inr (.inr (.inr ⟨rfl, rfl⟩))⟩
        | bool b =>
          cases hx
          cases hy
          exact .inr ⟨tx, ty, rfl, .inr (.inr (.inl ⟨b, rfl, rfl⟩))⟩
        | int i =>
          cases hx
          cases hy
          exact .inr ⟨tx, ty, rfl, .inl ⟨i, rfl, rfl⟩⟩
        | str i =>
          cases hx
          cases hy
          exact .inr ⟨tx, ty, rfl, .inr (.inl ⟨i, rfl, rfl⟩)⟩
        | list ds =>
          unfold okD at hok
          exact .inl ⟨ds, "list", false, fun H' s => dp_ty (dp_same s hx), fun H' s => dp_ty (dp_same s hy), by decide +kernel, by decide +kernel, .inl hx, .inl hy, hok.1, hok.2⟩
        | tuple ds =>
          unfold okD at hok
          exact .inl ⟨ds, "tuple", true, fun H' s => dp_ty (dp_same s hx), fun H' s => dp_ty (dp_same s hy), by decide +kernel, by decide +kernel, .inr hx, .inr hy, hok.1, hok.2⟩
        | dict kvs => cases hx
      rcases cls with ⟨ds, tn, bt, tx, ty, kt, kl, hx', hy', hlen, hall⟩ | ⟨tx, ty, rfl, hsc⟩
      · obtain ⟨a, xs, rfl, hxs, hxa⟩ := dp_seq hx'
        obtain ⟨b, ys, rfl, hys, hya⟩ := dp_seq hy'
        have exl : xs.length = ds.length := dpa_len hxa
        have eyl : ys.length = ds.length := dpa_len hya
        have kA : PySem.W.kitAny K (.type tn) [.type "tuple", .type "list"] = some true := by
          cases bt with
          | true => exact kitAny_cons (kit_ty kt) (fun z => by cases z) (fun _ => rfl)
          | false => exact kitAny_cons (kit_ty kt) (fun _ => kitAny_cons (kit_ty kl) (fun z => by cases z) (fun _ => rfl)) (fun z => by cases z)
        have ty0 := ty H (Same.refl H)
        have tx0 := tx H (Same.refl H)
        refine ⟨_, rfl, .ref b, .ty "tuple", _, _, bt, rfl, ClsV.ty _, ty0, kit_ty kt, _, rfl, ?_⟩
        have step : ∀ {A B D : Prop}, (bt = false → (if true = true then A else B) → D) → A → (if bt = true then (if true = true then A else B) else D) := fun h1 h2 => by
          cases bt with
          | true => exact iteT (iteT h2)
          | false => exact iteF (h1 rfl (iteT h2))
        refine step (fun _ hh => ⟨_, rfl, .ref b, .ty "list", _, _, true, rfl, ClsV.ty _, ty0, kit_ty (by rw [kl]; cases bt <;> first | rfl | contradiction), _, rfl, hh⟩) ?_
        refine ⟨_, rfl, .ref a, .ty "tuple", _, _, bt, rfl, ClsV.ty _, tx0, kit_ty kt, _, rfl, .ref b, .ty "tuple", _, _, bt, rfl, ClsV.ty _, ty0, kit_ty kt, rfl, _, rfl, ifnd_t rfl ?_⟩
        refine ⟨_, rfl, (by show 2 ≤ sizeLine; decide), fun tp htp => ?_⟩
        have s1 : Same H (upd H tp (.tup [.ty "tuple", .ty "list"])) := same_new htp
        refine ⟨.ref a, tp, _, _, _, true, rfl, upd_same, .cons (ClsV.ty _) (.cons (ClsV.ty _) .nil), tx _ s1, kA, _, rfl, iteF ?_⟩
        have m1 : ∀ {H' : Hp}, Same H H' → (SqL K H' a xs ∨ SqT K H' a xs) := fun s => hxs.elim (fun h => .inl (s.seq h)) (fun h => .inr (same_sqt s h))
        have m2 : ∀ {H' : Hp}, Same H H' → (SqL K H' b ys ∨ SqT K H' b ys) := fun s => hys.elim (fun h => .inl (s.seq h)) (fun h => .inr (same_sqt s h))
        refine ⟨_, rfl, _, ds.length, rfl, lenv_seq (m1 s1) exl.symm, _, rfl, _, ds.length, rfl, lenv_seq (m2 s1) eyl.symm, rfl, _, rfl, ifnd_t rfl ?_⟩
        refine ⟨_, rfl, _, ds.length, rfl, lenv_seq (m2 s1) eyl.symm, _, rfl, by omega, by omega, fun D hD => ?_⟩
        have s2 : Same H (upd (upd H tp (.tup [.ty "tuple", .ty "list"])) D (.lst [])) := s1.trans (same_new hD)
        refine lc_range (lo := 0) (n := ds.length) (fun i H' => Same H H' ∧ H' D = some (.lst [])) ⟨s2, upd_same⟩ ?_ ?_
        · rintro i H' hi ⟨s3, eD⟩
          obtain ⟨e, he⟩ : ∃ e, ds[i]? = some e := ⟨_, List.getElem?_eq_getElem hi⟩
          obtain ⟨u, hu, hud⟩ := dpa_get hxa he
          obtain ⟨v, hv, hvd⟩ := dpa_get hya he
          refine ⟨rfl, _, rfl, _, rfl, rix_seq (m1 s3) (at_of (j := i) (by omega) hu) ?_⟩
          refine ⟨_, rfl, _, rfl, rix_seq (m2 s3) (at_of (j := i) (by omega) hv) ?_⟩
          refine ⟨u, v, e, rfl, dp_same s3 hud, dp_same s3 hvd, hall e (List.mem_of_getElem? he), fun H4 s4 => ⟨_, rfl, iteF ⟨s3.trans s4, s4 _ _ eD⟩⟩⟩
        · rintro H' ⟨s3, eD⟩
          refine ⟨Nat.zero_le _, fun z hz => ?_⟩
          have s4 := same_new (o := .lst []) hz
          exact ⟨.list [], .list [], .lst (SqL.of (s4 _ _ eD)) .nil, .lst (SqL.of upd_same) .nil, rfl, rfl, q _ (s3.trans s4)⟩
      · have step0 : ∀ {A : Prop}, A → A := fun h => h
        rcases hsc with ⟨i, rfl, rfl⟩ | ⟨i, rfl, rfl⟩ | ⟨i, rfl, rfl⟩ | ⟨rfl, rfl⟩
        · have tx : TyX K H _ (.type "int") := tx
          have ty : TyX K H _ (.type "int") := ty
          refine ⟨_, rfl, _, .ty "tuple", _, _, false, rfl, ClsV.ty _, ty, kit_ty (by decide +kernel), _, rfl, iteF ⟨_, rfl, _, .ty "list", _, _, false, rfl, ClsV.ty _, ty, kit_ty (by decide +kernel), _, rfl, iteF ?_⟩⟩
          refine ⟨_, rfl, rfl, _, rfl, ifd_f (by intro z; cases z) ⟨_, rfl, rfl, _, rfl, ifd_f (by intro z; cases z) ?_⟩⟩
          refine ⟨_, rfl, _, .ty "bool", _, _, false, rfl, ClsV.ty _, ty, kit_ty (by decide +kernel), _, rfl, iteF ⟨_, rfl, _, .ty "bool", _, _, false, rfl, ClsV.ty _, tx, kit_ty (by decide +kernel), _, rfl, iteF ?_⟩⟩
          refine ⟨_, rfl, _, .ty "str", _, _, false, rfl, ClsV.ty _, ty, kit_ty (by decide +kernel), _, rfl, iteF ?_⟩
          refine ⟨_, rfl, _, .ty "int", _, _, true, rfl, ClsV.ty _, tx, kit_ty (by decide +kernel), _, rfl, iteT ⟨_, rfl, _, rfl, rfl, ?_⟩⟩
          rw [decide_eq_true rfl]
          exact q _ (Same.refl _)
        · have tx : TyX K H _ (.type "str") := tx
          have ty : TyX K H _ (.type "str") := ty
          refine ⟨_, rfl, _, .ty "tuple", _, _, false, rfl, ClsV.ty _, ty, kit_ty (by decide +kernel), _, rfl, iteF ⟨_, rfl, _, .ty "list", _, _, false, rfl, ClsV.ty _, ty, kit_ty (by decide +kernel), _, rfl, iteF ?_⟩⟩
          refine ⟨_, rfl, rfl, _, rfl, ifd_f (by intro z; cases z) ⟨_, rfl, rfl, _, rfl, ifd_f (by intro z; cases z) ?_⟩⟩
          refine ⟨_, rfl, _, .ty "bool", _, _, false, rfl, ClsV.ty _, ty, kit_ty (by decide +kernel), _, rfl, iteF ⟨_, rfl, _, .ty "bool", _, _, false, rfl, ClsV.ty _, tx, kit_ty (by decide +kernel), _, rfl, iteF ?_⟩⟩
          refine ⟨_, rfl, _, .ty "str", _, _, true, rfl, ClsV.ty _, ty, kit_ty (by decide +kernel), _, rfl, iteT ?_⟩
          refine ⟨_, rfl, _, .ty "str", _, _, true, rfl, ClsV.ty _, tx, kit_ty (by decide +kernel), _, rfl, iteT ⟨_, rfl, _, rfl, rfl, ?_⟩⟩
          rw [decide_eq_true rfl]
          exact q _ (Same.refl _)
        · have tx : TyX K H _ (.type "bool") := tx
          have ty : TyX K H _ (.type "bool") := ty
          refine ⟨_, rfl, _, .ty "tuple", _, _, false, rfl, ClsV.ty _, ty, kit_ty (by decide +kernel), _, rfl, iteF ⟨_, rfl, _, .ty "list", _, _, false, rfl, ClsV.ty _, ty, kit_ty (by decide +kernel), _, rfl, iteF ?_⟩⟩
          refine ⟨_, rfl, rfl, _, rfl, ifd_f (by intro z; cases z) ⟨_, rfl, rfl, _, rfl, ifd_f (by intro z; cases z) ?_⟩⟩
          refine ⟨_, rfl, _, .ty "bool", _, _, true, rfl, ClsV.ty _, ty, kit_ty (by decide +kernel), _, rfl, iteT (iteT ?_)⟩
          refine ⟨_, rfl, _, .ty "bool", _, _, true, rfl, ClsV.ty _, ty, kit_ty (by decide +kernel), _, rfl, iteT ⟨_, rfl, _, .ty "bool", _, _, true, rfl, ClsV.ty _, tx, kit_ty (by decide +kernel), _, rfl, iteT ⟨_, rfl, _, rfl, rfl, ?_⟩⟩⟩
          rw [decide_eq_true rfl]
          exact q _ (Same.refl _)
        · have tx : TyX K H _ (.type "NoneType") := tx
          have ty : TyX K H _ (.type "NoneType") := ty
          refine ⟨_, rfl, _, .ty "tuple", _, _, false, rfl, ClsV.ty _, ty, kit_ty (by decide +kernel), _, rfl, iteF ⟨_, rfl, _, .ty "list", _, _, false, rfl, ClsV.ty _, ty, kit_ty (by decide +kernel), _, rfl, iteF ?_⟩⟩
          refine ⟨_, rfl, rfl, _, rfl, ifd_t rfl (iteT ?_)⟩
          refine ⟨_, rfl, rfl, _, rfl, ifd_t rfl ⟨_, rfl, rfl, ?_⟩⟩
          exact q _ (Same.refl _)
end
/-! ### the law's own reckoning of a moment, step by step -/
abbrev s_l_served : Stmt := top 25
def sp_l_served (K : PySem.W.Frag) : Sp := fun vs H Q _ => ∃ (v u : V) (d : Disk) (now here : Int) (a : Ask), vs = [v, .int now, .int here, u] ∧ Dp K H v (dDisk d) ∧ Dp K H u (dAsk a) ∧ GoodDisk d ∧ GoodAsk d a ∧ ∀ H' : Hp, Same H H' → Q (.int (serve d now here a)) H'
theorem sc_l_served : FnScope ["_law_disk_here", "_law_now", "_law_here", "_law_ask", "_law_come", "_law_track", "_law_sector"] ["_law_disk_here", "_law_now", "_law_here", "_law_ask"] (defScope s_l_served) := ⟨rfl, rfl, rfl, by decide +kernel, rfl, by decide +kernel, by decide +kernel⟩
section
variable {P : Program} {w : World} {K : PySem.W.Frag} {mg : Str → Option Value} {base : Heap}
theorem ok_l_served {f : Addr} {fd : FuncData} (F : Fun K "_law_served" "_law_served" s_l_served f fd) (mm : mg "max" = none) (mn : mg "int" = none) : FnOk P w K mg base CX0 1 f fd ["_law_disk_here", "_law_now", "_law_here", "_law_ask"] (sp_l_served K) := by
  refine F.ok sc_l_served (fun vs H Q E h => ?_) (fun cdv A outer s H vs Q E hr h => ?_)
  · obtain ⟨v, u, d, now, here, a, rfl, _⟩ := h
    rfl
  · obtain ⟨v, u, d, now, here, ask, rfl, hd, hk, g, ga, q⟩ := h
    obtain ⟨a, rfl, hT⟩ := dp_disk hd
    obtain ⟨b, rfl, hA⟩ := dp_tints hk
    have nd := sc_l_served.nd
    refine ⟨_, pss_cons (ps_asg (pv 3) (pg_tup rfl (pgs_cons (pg_name (i := 4) nd rfl (.inl rfl)) (pgs_cons (pg_name (i := 5) nd rfl (.inl rfl)) (pgs_cons (pg_name (i := 6) nd rfl (.inl rfl)) pgs_nil)))))
      (pss_cons (ps_set (i := 1) nd rfl (.inl rfl) (pe_callB (call_max2 rfl) (by rfl) mm (by decide +kernel) (pa_cons (pv 1) (pa_cons (pv 4) pa_nil))))
      (pss_cons (ps_while PassesOwn.never (pt_cmpR op_ne (pv 2) (pv 5) (nomark _))
        (pss_cons (ps_set (i := 2) nd rfl (.inl rfl) (pe_op op_add (pv 2) (pe_ix ix_list (pe_lst (pa_cons pe_int (pa_cons (pe_op op_sub pe_int pe_int) pa_nil))) (pe_callTy call_int1 (by rfl) mn (by decide +kernel) (pa_cons (pe_cmpR op_lt (pv 5) (pv 2) (nomark _)) pa_nil)) (fun _ _ => rfl))))
        (pss_one (ps_set (i := 1) nd rfl (.inl rfl) (pe_op op_add (pv 1) (pe_ix ix_tup (pv 0) pe_int (fun _ _ => rfl)))))))
      (pss_cons (ps_while PassesOwn.never (pt_cmpR op_ne (pe_op op_mod (pv 1) (pe_ix ix_tup (pv 0) pe_int (fun _ _ => rfl))) (pv 6) (nomark _))
        (pss_one (ps_set (i := 1) nd rfl (.inl rfl) (pe_op op_add (pv 1) pe_int))))
      (pss_one (ps_ret (pe_op op_add (pv 1) pe_int)))))), ?_⟩
    refine ⟨_, rfl, b, _, rfl, hA, rfl, _, _, rfl, _, _, rfl, _, _, rfl, rfl, ?_⟩
    refine ⟨_, rfl, _, rfl, _, _, rfl, ?_⟩
    refine ⟨fun m σ H' => Same H H' ∧ ∃ n h : Int, σ = [some (.ref a), some (.int n), some (.int h), some (.ref b), some (.int ask.1), some (.int ask.2.1), some (.int ask.2.2)] ∧ n + iabs (ask.2.1 - h) * d.pa = imax now ask.1 + iabs (ask.2.1 - here) * d.pa ∧ m = (iabs (ask.2.1 - h)).toNat,
      ⟨_, Same.refl _, _, _, rfl, rfl, rfl⟩, ?_⟩
    rintro m σ H1 ⟨s1, n, h, rfl, e, rfl⟩
    refine ⟨_, rfl, _, rfl, rfl, _, rfl, ?_⟩
    by_cases hne : h = ask.2.1
    · subst hne
      rw [decide_eq_true rfl]
      refine iteF ?_
      have e0 : n = imax now ask.1 + iabs (ask.2.1 - here) * d.pa := by
        rw [← e]
        unfold iabs
        rw [Int.sub_self]
        simp
      refine ⟨fun m σ H' => Same H H' ∧ ∃ n' : Int, σ = [some (.ref a), some (.int n'), some (.int ask.2.1), some (.ref b), some (.int ask.1), some (.int ask.2.1), some (.int ask.2.2)] ∧ n' + (ask.2.2 - n') % d.sc = n + (ask.2.2 - n) % d.sc ∧ m = ((ask.2.2 - n') % d.sc).toNat,
        ⟨_, s1, _, rfl, rfl, rfl⟩, ?_⟩
      rintro m σ H2 ⟨s2, n', rfl, e', rfl⟩
      refine ⟨_, rfl, _, rfl, a, _, 1, _, rfl, rfl, same_sqt s2 hT, atI_nat (j := 1) rfl, _, _, rfl, rfl, (by have := g.s1; show (0 : Int) < d.sc; omega), _, rfl, rfl, _, rfl, ?_⟩
      by_cases hz : n' % d.sc = ask.2.2
      · have e1 : decide (V.int (n' % d.sc) = V.int ask.2.2) = true := decide_eq_true (by rw [hz])
        rw [e1]
        refine iteF ⟨_, rfl, _, _, rfl, rfl, ?_⟩
        have e2 := emod_end hz
        have e3 : n' + 1 = serve d now here ask := by
          unfold serve
          rw [← e0, ← e', e2]
          omega
        show Q (.int (n' + 1)) H2
        rw [e3]
        exact q _ s2
      · have e1 : decide (V.int (n' % d.sc) = V.int ask.2.2) = false := decide_eq_false (fun z => hz (V.int.inj z))
        rw [e1]
        obtain ⟨f1, f2⟩ := emod_step (s := ask.2.2) (n := n') (c := d.sc) (by have := g.s1; omega) ga.s1 ga.s2 hz
        refine iteT ⟨fun σ' H' => Same H H' ∧ σ' = [some (.ref a), some (.int (n' + 1)), some (.int ask.2.1), some (.ref b), some (.int ask.1), some (.int ask.2.1), some (.int ask.2.2)], ?_, ?_⟩
        · rintro σ' H' ⟨s3, rfl⟩
          exact ⟨_, by omega, s3, n' + 1, rfl, by omega, rfl⟩
        · exact ⟨_, rfl, _, _, rfl, rfl, s2, rfl⟩
    · have e1 : decide (V.int h = V.int ask.2.1) = false := decide_eq_false (fun z => hne (V.int.inj z))
      rw [e1]
      have f1 := iabs_step hne
      have f2 : 1 ≤ iabs (ask.2.1 - h) := by
        have := iabs_nn (ask.2.1 - (h + (if ask.2.1 < h then -1 else 1)))
        omega
      refine iteT ⟨fun σ' H' => Same H H' ∧ σ' = [some (.ref a), some (.int (n + d.pa)), some (.int (h + (if ask.2.1 < h then -1 else 1))), some (.ref b), some (.int ask.1), some (.int ask.2.1), some (.int ask.2.2)], ?_, ?_⟩
      · rintro σ' H' ⟨s3, rfl⟩
        refine ⟨_, by omega, s3, _, _, rfl, ?_, rfl⟩
        rw [f1, Int.sub_mul, Int.one_mul]
        omega
      · refine ⟨_, rfl, _, _, rfl, rfl, (by show 2 ≤ sizeLine; decide), fun L hL => ?_⟩
        have s2 := s1.trans (same_new (o := .lst [V.int 1, V.int (0 - 1)]) hL)
        refine ⟨_, rfl, _, rfl, _, _, rfl, rfl, .inr ⟨_, rfl, L, _, _, .int (if ask.2.1 < h then -1 else 1), rfl, rfl, SqL.of upd_same, ?_, _, _, rfl, rfl, ?_⟩⟩
        · by_cases c : ask.2.1 < h
          · rw [decide_eq_true c, if_pos c]
            rfl
          · rw [decide_eq_false c, if_neg c]
            rfl
        · exact ⟨_, rfl, _, rfl, a, _, 2, _, rfl, rfl, same_sqt s2 hT, atI_nat (j := 2) rfl, _, _, rfl, rfl, s2, rfl⟩
end
/-! ### the law's own reckoning of an order -/
abbrev s_l_ordered : Stmt := top 26
def sp_l_ordered (K : PySem.W.Frag) : Sp := fun vs H Q _ => ∃ (v u o : V) (d : Disk) (l : List Ask) (os : List Nat), vs = [v, u, o] ∧ Dp K H v (dDisk d) ∧ Dp K H u (dAsks l) ∧ Dp K H o (.list ((nints os).map PyData.int)) ∧ GoodDisk d ∧ GoodAsks d l ∧ (∀ i ∈ os, i < l.length) ∧ os.length ≤ 1000 ∧
  ∀ (H' : Hp) (p c t : Addr) (xs : List V), ResAt K H H' p c t xs (rowsOf d l 0 d.he os) (costsOf d l (rowsOf d l 0 d.he os)) → Q (.ref p) H'
theorem sc_l_ordered : FnScope ["_law_disk_here", "_law_asks_here", "_law_order", "_law_now", "_law_here", "_law_rows", "_law_way", "_law_waits", "_law_number"] ["_law_disk_here", "_law_asks_here", "_law_order"] (defScope s_l_ordered) := ⟨rfl, rfl, rfl, by decide +kernel, rfl, by decide +kernel, by decide +kernel⟩
theorem max_cat (l : List Int) (m : Int) (h : m ∈ (0 :: l)) (hm : ∀ y ∈ (0 :: l), y ≤ m) (hp : ∀ x ∈ l, 1 ≤ x) : m = maxl l := by
  have h1 : maxl (0 :: l) = maxl l := maxl_zero l fun x hx => by
    have := hp x hx
    omega
  rw [← h1]
  show m = l.foldl max 0
  have up : ∀ (l : List Int) (n : Int), (∀ y ∈ l, y ≤ m) → n ≤ m → l.foldl max n ≤ m := by
    intro l
    induction l with
    | nil => intro n _ h; exact h
    | cons x r ih =>
      intro n h1 h2
      refine ih _ (fun y hy => h1 y (List.mem_cons_of_mem _ hy)) ?_
      have := h1 x List.mem_cons_self
      omega
  have lo : ∀ (l : List Int) (n : Int), (m = n ∨ m ∈ l) → m ≤ l.foldl max n := by
    intro l
    induction l with
    | nil =>
      intro n h
      rcases h with h | h
      · show m ≤ n
        omega
      · cases h
    | cons x r ih =>
      intro n h
      show m ≤ r.foldl max (max n x)
      rcases h with h | h
      · exact foldl_max_le m r _ (by omega)
      · rcases List.mem_cons.mp h with h | h
        · exact foldl_max_le m r _ (by omega)
        · exact ih _ (.inr h)
  have a := up l 0 (fun y hy => hm y (List.mem_cons_of_mem _ hy)) (hm 0 List.mem_cons_self)
  have b := lo l 0 (List.mem_cons.mp h)
  omega
theorem max_two (t h : Int) : (if h - t > t - h then h - t else t - h) = iabs (t - h) := by
  unfold iabs
  split <;> split <;> omega
section
variable {P : Program} {w : World} {K : PySem.W.Frag} {mg : Str → Option Value} {base : Heap}
set_option maxHeartbeats 16000000 in
theorem ok_l_ordered {f fS : Addr} {fd fdS : FuncData} (F : Fun K "_law_ordered" "_law_ordered" s_l_ordered f fd) (GS : FnOk P w K mg base CX0 1 fS fdS ["_law_disk_here", "_law_now", "_law_here", "_law_ask"] (sp_l_served K)) (gS : mg "_law_served" = some (.ref fS)) (kS : PySem.W.keepIn K (.ref fS) = true) (bS : Binds K fdS ["_law_disk_here", "_law_now", "_law_here", "_law_ask"] [])
    (mm : mg "max" = none) (ms : mg "sum" = none) : FnOk P w K mg base CX0 2 f fd ["_law_disk_here", "_law_asks_here", "_law_order"] (sp_l_ordered K) := by
  refine F.ok sc_l_ordered (fun vs H Q E h => ?_) (fun cdv A outer s H vs Q E hr h => ?_)
  · obtain ⟨v, u, o, d, l, os, rfl, _⟩ := h
    rfl
  · obtain ⟨v, u, o, d, l, os, rfl, hd, ha, ho, g, ga, hin, hlen, q⟩ := h
    obtain ⟨a, rfl, hT⟩ := dp_disk hd
    obtain ⟨b, xs, rfl, hL, hxl, hat⟩ := dp_asks ha
    obtain ⟨c, rfl, hO⟩ := dp_ints ho
    have nd := sc_l_ordered.nd
    have hr1 : Room 1 _ := hr
    refine ⟨_, pss_cons (ps_set (i := 3) nd rfl (.inl rfl) pe_int)
      (pss_cons (ps_set (i := 4) nd rfl (.inl rfl) (pe_ix ix_tup (pv 0) pe_int (fun _ _ => rfl)))
      (pss_cons (ps_set (i := 5) nd rfl (.inl rfl) (pe_lst pa_nil))
      (pss_cons (ps_set (i := 6) nd rfl (.inl rfl) pe_int)
      (pss_cons (ps_set (i := 7) nd rfl (.inl rfl) (pe_lst pa_nil))
      (pss_cons (ps_for PassesOwn.never rfl (pi_list (pv 2)) (pg_name (i := 8) nd rfl (.inl rfl))
        (pss_cons (ps_set (i := 3) nd rfl (.inl rfl) (pe_call GS hr1 rfl gS kS bS .nil pass0 (pa_cons (pv 0) (pa_cons (pv 3) (pa_cons (pv 4) (pa_cons (pe_ix ix_list (pv 1) (pv 8) (fun _ _ => rfl)) pa_nil))))))
        (pss_cons (ps_set (i := 6) nd rfl (.inl rfl) (pe_op op_add (pv 6) (pe_callB (call_max2 rfl) (by rfl) mm (by decide +kernel) (pa_cons (pe_op op_sub (pe_ix ix_tup (pe_ix ix_list (pv 1) (pv 8) (fun _ _ => rfl)) pe_int (fun _ _ => rfl)) (pv 4)) (pa_cons (pe_op op_sub (pv 4) (pe_ix ix_tup (pe_ix ix_list (pv 1) (pv 8) (fun _ _ => rfl)) pe_int (fun _ _ => rfl))) pa_nil)))))
        (pss_cons (ps_set (i := 4) nd rfl (.inl rfl) (pe_ix ix_tup (pe_ix ix_list (pv 1) (pv 8) (fun _ _ => rfl)) pe_int (fun _ _ => rfl)))
        (pss_cons (ps_expr (pe_bm PySem.F.plainAttrs_list PySem.F.slot_list_append PySem.F.type_list_append mt_append (pv 5) (pa_cons (pe_tup (pa_cons (pv 8) (pa_cons (pv 3) pa_nil))) pa_nil)))
        (pss_one (ps_expr (pe_bm PySem.F.plainAttrs_list PySem.F.slot_list_append PySem.F.type_list_append mt_append (pv 7) (pa_cons (pe_op op_sub (pv 3) (pe_ix ix_tup (pe_ix ix_list (pv 1) (pv 8) (fun _ _ => rfl)) pe_int (fun _ _ => rfl))) pa_nil)))))))))
      (pss_one (ps_ret (pe_tup (pa_cons (pv 5) (pa_cons (pe_tup (pa_cons (pv 6) (pa_cons (pe_callB (cr_max rfl) (by rfl) mm (by decide +kernel) (pa_cons (pe_op op_cat (pe_lst (pa_cons pe_int pa_nil)) (pv 7)) pa_nil)) (pa_cons (pe_callB (cr_sum rfl) (by rfl) ms (by decide +kernel) (pa_cons (pv 7) pa_nil)) pa_nil)))) pa_nil)))))))))), ?_⟩
    refine ⟨_, rfl, a, _, 3, _, rfl, rfl, hT, atI_nat (j := 3) rfl, Nat.zero_le _, fun F hF => ?_⟩
    have s0 : Same H (upd H F (.lst [])) := same_new hF
    refine ⟨Nat.zero_le _, fun W hW => ?_⟩
    have nFW : F ≠ W := ne_of_none upd_same hW
    have hW0 : H W = none := s0.free hW
    have s00 : Same H (upd (upd H F (.lst [])) W (.lst [])) := s0.trans (same_new hW)
    refine ⟨_, rfl, c, rfl, ⟨_, s00.seq hO⟩, for_list (K := K) (a := c) (xs := (nints os).map V.int)
      (fun i σ H' => Same H H' ∧ ∃ ys v8, σ = [some (.ref a), some (.ref b), some (.ref c), some (.int (endOf d l 0 d.he (os.take i)).1), some (.int (endOf d l 0 d.he (os.take i)).2), some (.ref F), some (.int (wayOf l d.he (rowsOf d l 0 d.he (os.take i)))), some (.ref W), v8] ∧
        H' F = some (.lst ys) ∧ ys.length = i ∧ DpAll K (fr2 H H' F W) ys ((rowsOf d l 0 d.he (os.take i)).map dRow) ∧ H' W = some (.lst ((waitsOf l (rowsOf d l 0 d.he (os.take i))).map V.int)))
      ⟨s00, [], none, rfl, by rw [upd_ne nFW, upd_same], rfl, .nil, upd_same⟩ (fun i σ H' _ ⟨s1, _⟩ => s1.seq hO) ?_ ?_⟩
    · rintro i y σ H' hi ⟨s1, ys, v8, rfl, eF, hyl, hda, eW⟩
      obtain ⟨n, hn, rfl⟩ := nints_at hi
      obtain ⟨k, hk⟩ : ∃ k, l[n]? = some k := ⟨_, List.getElem?_eq_getElem (hin n (List.mem_of_getElem? hn))⟩
      obtain ⟨p, hp, hpT, hpd⟩ := hat n k hk
      have ek : l.getD n (0, 0, 0) = k := getD_of hk
      have hlt : i < os.length := (List.getElem?_eq_some_iff.mp hn).1
      have gk := ga.at hk
      refine ⟨_, rfl, _, rfl, _, rfl, _, rfl, _, rfl, b, xs, (n : Int), .ref p, rfl, rfl, s1.seq hL, atI_nat hp, ?_⟩
      refine ⟨.ref a, .ref p, d, _, _, k, rfl, dp_same s1 hd, dp_same s1 hpd, g, gk, fun H1 s2 => ?_⟩
      have s12 := s1.trans s2
      have hLb : ∀ {H' : Hp}, Same H H' → SqL K H' b xs := fun s => s.seq hL
      have hPp : ∀ {H' : Hp}, Same H H' → SqT K H' p [.int k.1, .int k.2.1, .int k.2.2] := fun s => same_sqt s hpT
      refine ⟨_, rfl, _, rfl, _, rfl, b, xs, (n : Int), .ref p, rfl, rfl, hLb s12, atI_nat hp, p, _, 1, _, rfl, rfl, hPp s12, atI_nat (j := 1) rfl, _, rfl, _, _, rfl, rfl, _, rfl, _, rfl, _, rfl, b, xs, (n : Int), .ref p, rfl, rfl, hLb s12, atI_nat hp, p, _, 1, _, rfl, rfl, hPp s12, atI_nat (j := 1) rfl, _, _, rfl, rfl, _, _, rfl, _, _, rfl, rfl, ?_⟩
      refine ⟨_, rfl, _, rfl, b, xs, (n : Int), .ref p, rfl, rfl, hLb s12, atI_nat hp, p, _, 1, _, rfl, rfl, hPp s12, atI_nat (j := 1) rfl, ?_⟩
      have eF1 := s2 _ _ eF
      have eW1 := s2 _ _ eW
      refine ⟨_, rfl, .inl ⟨rfl, _, SqL.of eF1⟩, _, rfl, _, rfl, (by show 2 ≤ sizeLine; decide), fun t ht => ?_⟩
      have nFt : F ≠ t := ne_of_none eF1 ht
      have nWt : W ≠ t := ne_of_none eW1 ht
      have hHt : H t = none := s12.free ht
      refine ⟨F, ys, .ref t, rfl, rfl, by rw [upd_ne nFt]; exact eF1, small1000 (by omega), ?_⟩
      have s3 : Same H (upd (upd H1 t (.tup [.int (n : Int), .int (serve d (endOf d l 0 d.he (os.take i)).1 (endOf d l 0 d.he (os.take i)).2 k)])) F (.lst (ys ++ [.ref t]))) := same_upd (same_upd s12 hHt) hF
      have eW3 : (upd (upd H1 t (.tup [.int (n : Int), .int (serve d (endOf d l 0 d.he (os.take i)).1 (endOf d l 0 d.he (os.take i)).2 k)])) F (.lst (ys ++ [.ref t]))) W = some (.lst ((waitsOf l (rowsOf d l 0 d.he (os.take i))).map V.int)) := by
        rw [upd_ne nFW.symm, upd_ne nWt]
        exact eW1
      refine ⟨_, rfl, .inl ⟨rfl, _, SqL.of eW3⟩, _, rfl, _, rfl, _, rfl, b, xs, (n : Int), .ref p, rfl, rfl, hLb s3, atI_nat hp, p, _, 0, _, rfl, rfl, hPp s3, atI_nat (j := 0) rfl, _, _, rfl, rfl, W, _, _, rfl, rfl, eW3, small1000 (by rw [List.length_map]; unfold waitsOf; rw [List.length_map, rowsOf_len, List.length_take]; omega), ?_⟩
      refine ⟨same_upd s3 hW0, ys ++ [.ref t], some (.int (n : Int)), ?_, by rw [upd_ne nFW, upd_same], by rw [List.length_append, hyl]; rfl, ?_, ?_⟩
      · rw [take_more hn, endOf_snoc, rowsOf_snoc, wayOf_snoc, ek]
        rw [← end_here, ← max_two]
        rfl
      · rw [take_more hn, rowsOf_snoc, ek, List.map_append]
        refine dpa_snoc (dpa_same (fr2_step fun b o n1 n2 e => ?_) hda) ?_
        · rw [upd_ne n2, upd_ne n1, upd_ne (ne_of_none (s2 _ _ e) ht)]
          exact s2 _ _ e
        · exact dp_tints_of (ns := [(n : Int), serve d (endOf d l 0 d.he (os.take i)).1 (endOf d l 0 d.he (os.take i)).2 k]) (.inl (.inl (fr2_at nFt.symm nWt.symm hHt (by rw [upd_ne nWt.symm, upd_ne nFt.symm, upd_same]; rfl))))
      · rw [upd_same, take_more hn, rowsOf_snoc, ek]
        unfold waitsOf
        rw [List.map_append, List.map_append]
        show _ = some (HO.lst (_ ++ [V.int (_ - (l.getD n (0, 0, 0)).1)]))
        rw [ek]
    · rintro σ H' ⟨s1, ys, v8, rfl, eF, hyl, hda, eW⟩
      have e : os.take ((nints os).map V.int).length = os := List.take_of_length_le (by rw [List.length_map, nints_len]; exact Nat.le_refl _)
      rw [e] at hda eW
      rw [e]
      refine ⟨_, rfl, _, rfl, (by show 1 ≤ sizeLine; decide), fun z hz => ?_⟩
      have nWz : W ≠ z := ne_of_none eW hz
      have s2 := s1.trans (same_new (o := .lst [V.int 0]) hz)
      refine ⟨_, rfl, z, W, _, _, rfl, rfl, upd_same, by rw [upd_ne nWz]; exact eW, by rw [List.length_map]; unfold waitsOf; rw [List.length_map, rowsOf_len]; show 1 + os.length ≤ sizeLine; exact Nat.le_trans (by omega) (by decide : 1001 ≤ sizeLine), fun z2 hz2 => ?_⟩
      have s3 := same_new (o := .lst ([V.int 0] ++ (waitsOf l (rowsOf d l 0 d.he os)).map V.int)) hz2
      refine ⟨z2, 0 :: waitsOf l (rowsOf d l 0 d.he os), rfl, SqL.of upd_same, by simp, fun m hm hle => ?_⟩
      have em := max_cat _ m hm hle (rows_waits g l os 0 d.he)
      subst em
      have s4 : Same H' (upd (upd H' z (.lst [V.int 0])) z2 (.lst ([V.int 0] ++ (waitsOf l (rowsOf d l 0 d.he os)).map V.int))) := (same_new hz).trans s3
      refine ⟨_, rfl, W, _, rfl, SqL.of (s4 _ _ eW), (by show 3 ≤ sizeLine; decide), fun t ht => ?_⟩
      refine ⟨(by show 2 ≤ sizeLine; decide), fun p hp => ?_⟩
      have s5 := s4.trans (same_new (o := HO.tup [.int (wayOf l d.he (rowsOf d l 0 d.he os)), .int (maxl (waitsOf l (rowsOf d l 0 d.he os))), .int (waitsOf l (rowsOf d l 0 d.he os)).sum]) ht)
      have s6 := same_new (o := HO.tup [.ref F, .ref t]) hp
      have s7 := s5.trans s6
      refine q _ p F t ys ⟨s1.trans s7, s1.free (s5.free hp), hF, s1.free (s4.free ht), upd_same, s7 _ _ eF, s6 _ _ upd_same, ?_⟩
      exact dpa_same ((wo_sub (r := W)).trans (fr_step (sb_of s7))) hda
end
end Ag

namespace Ag
open PySem PySem.Spec PyProof.Rows L2
/-! ### the law -/
abbrev s_law : Stmt := top 28
def sp_law (K : PySem.W.Frag) : Sp := fun vs H Q _ => ∃ (a : Addr) (ns : List Int), vs = [.ref a] ∧ ScrAt K H a ns ∧ ∀ H', Q (.bl true) H'
theorem sc_law : FnScope ["_law_script", "_law_row", "_law_disk_here", "_law_asks_here", "_law_known", "_law_order", "_law_due", "_law_cost", "_law_again", "_law_found", "_law_way", "_law_longest", "_law_one"] ["_law_script"] (defScope s_law) := ⟨rfl, rfl, rfl, by decide +kernel, rfl, by decide +kernel, by decide +kernel⟩
theorem okD_frs (m : Nat) (F : List (Cost × List Nat)) (h : F.length ≤ 1000000) (h2 : ∀ e ∈ F, e.2.length ≤ 1000000) : okD (m + 4) (.list (F.map dFr)) := by
  refine okD_list (by rw [List.length_map]; exact h) fun e he => ?_
  obtain ⟨x, hx, rfl⟩ := List.mem_map.mp he
  refine okD_tuple (by show 3 ≤ 1000000; decide) fun e he => ?_
  rcases List.mem_cons.mp he with rfl | he
  · exact okD_int _ _
  · rcases List.mem_cons.mp he with rfl | he
    · exact okD_int _ _
    · rcases List.mem_cons.mp he with rfl | he
      · exact okD_list (by rw [List.length_map, nints_len]; exact h2 x hx) (okD_ints _ _)
      · cases he
theorem isFront_ord {d : Disk} {l : List Ask} {F : List (Cost × List Nat)} (h : IsFront d l F) : ∀ e ∈ F, IsOrd l.length l.length e.2 := fun e he => ordersK_is (firstOf_some (h.2.2 e he)).1
theorem eqv_pr (a b : Cost) : PyData.eqv (dPr a) (dPr b) = decide (a = b) := by
  unfold dPr
  by_cases h : a = b
  · subst h
    simp [PyData.eqv, PyData.eqvAll]
  · have : ¬ (a.1 = b.1 ∧ a.2 = b.2) := fun z => h (Prod.ext z.1 z.2)
    simp [PyData.eqv, PyData.eqvAll, h]
    intro x y
    exact this ⟨x, y⟩
theorem filter_none {α : Type} (p : α → Bool) : ∀ l : List α, (l.filter p).isEmpty = l.all fun b => !p b
  | [] => rfl
  | x :: r => by
    rw [List.all_cons, ← filter_none p r]
    cases h : p x with
    | true => rw [List.filter_cons_of_pos h]; rfl
    | false => rw [List.filter_cons_of_neg (by rw [h]; exact Bool.false_ne_true)]; rfl
theorem lone_filter {B : Best} {c : Cost} : (B.filter fun e => !decide (e.1 = c) && (decide (e.1.1 ≤ c.1) && decide (e.1.2 ≤ c.2))).isEmpty = loneB B c := filter_none _ B
section
variable {P : Program} {w : World} {K : PySem.W.Frag} {mg : Str → Option Value} {base : Heap}
set_option maxHeartbeats 32000000 in
theorem ok_law {f fT fD fA fB fO fL fR : Addr} {fd fdT fdD fdA fdB fdO fdL fdR : FuncData} (F : Fun K "law" "law" s_law f fd)
    (G__law_taken : FnOk P w K mg base CX0 1 fT fdT ["_law_row", "_law_many"] (sp_l_taken K)) (C__law_taken : Cal K mg "_law_taken" fT fdT ["_law_row", "_law_many"])
    (G__law_disk : FnOk P w K mg base CX0 2 fD fdD ["_law_row"] (sp_l_disk K)) (C__law_disk : Cal K mg "_law_disk" fD fdD ["_law_row"])
    (G__law_asks : FnOk P w K mg base CX0 2 fA fdA ["_law_row", "_law_disk_here", "_law_most"] (sp_l_asks K)) (C__law_asks : Cal K mg "_law_asks" fA fdA ["_law_row", "_law_disk_here", "_law_most"])
    (G_front : FnOk P w K mg base CX0 10 fB fdB ["disk", "asks"] (sp_front K)) (C_front : Cal K mg "front" fB fdB ["disk", "asks"])
    (G__law_ordered : FnOk P w K mg base CX0 2 fO fdO ["_law_disk_here", "_law_asks_here", "_law_order"] (sp_l_ordered K)) (C__law_ordered : Cal K mg "_law_ordered" fO fdO ["_law_disk_here", "_law_asks_here", "_law_order"])
    (G__law_orders : FnOk P w K mg base CX0 1 fR fdR ["_law_many"] (sp_l_orders K)) (C__law_orders : Cal K mg "_law_orders" fR fdR ["_law_many"])
    (G__law_alike : FnOk P w K mg base CX0 5 fL fdL ["_law_found", "_law_due"] (sp_l_alike 4 K)) (C__law_alike : Cal K mg "_law_alike" fL fdL ["_law_found", "_law_due"])
    (mb_range : mg "range" = none) (mb_len : mg "len" = none) (mb_sorted : mg "sorted" = none) : FnOk P w K mg base CX0 11 f fd ["_law_script"] (sp_law K) := by
  refine F.ok sc_law (fun vs H Q E h => ?_) (fun cdv A outer s H vs Q E hr h => ?_)
  · obtain ⟨a, ns, rfl, _⟩ := h
    rfl
  · obtain ⟨a, ns, rfl, hS, q⟩ := h
    have nd := sc_law.nd
    have hr__law_taken : Room 1 _ := hr.mono (by decide)
    have hr__law_orders : Room 1 _ := hr.mono (by decide)
    have hr__law_disk : Room 2 _ := hr.mono (by decide)
    have hr__law_asks : Room 2 _ := hr.mono (by decide)
    have hr_front : Room 10 _ := hr.mono (by decide)
    have hr__law_ordered : Room 2 _ := hr.mono (by decide)
    have hr__law_alike : Room 5 _ := hr.mono (by decide)
    refine ⟨_, (pss_cons (ps_set (i := 1) nd rfl (.inl rfl) (pe_lst (pa_cons (pv 0) (pa_cons pe_int (pa_cons pe_int pa_nil)))))
      (pss_cons (ps_set (i := 2) nd rfl (.inl rfl) (pe_call G__law_disk hr__law_disk rfl C__law_disk.m C__law_disk.k C__law_disk.b .nil pass0 (pa_cons (pv 1) pa_nil)))
      (pss_cons (ps_set (i := 3) nd rfl (.inl rfl) (pe_call G__law_asks hr__law_asks rfl C__law_asks.m C__law_asks.k C__law_asks.b .nil pass0 (pa_cons (pv 1) (pa_cons (pv 2) (pa_cons (pe_ix (r := rIxL K) ix_list (pe_lst (pa_cons pe_int (pa_cons pe_int pa_nil))) (pe_call G__law_taken hr__law_taken rfl C__law_taken.m C__law_taken.k C__law_taken.b .nil pass0 (pa_cons (pv 1) (pa_cons pe_int pa_nil))) (fun _ _ => rfl)) pa_nil)))))
      (pss_cons (ps_set (i := 4) nd rfl (.inl rfl) pe_dnewT)
      (pss_cons (ps_for PassesOwn.never rfl (pi_list (pe_call G__law_orders hr__law_orders rfl C__law_orders.m C__law_orders.k C__law_orders.b .nil pass0 (pa_cons (pe_callB call_len_seq (by rfl) mb_len PySem.boot_len (pa_cons (pv 3) pa_nil)) pa_nil))) (pg_name (i := 5) nd rfl (.inl rfl))
        (pss_cons (ps_set (i := 7) nd rfl (.inr rfl) (pe_slice (r := rSlT K) sl_tup (pe_ix (r := rIxT K) ix_tup (pe_call G__law_ordered hr__law_ordered rfl C__law_ordered.m C__law_ordered.k C__law_ordered.b .nil pass0 (pa_cons (pv 2) (pa_cons (pv 3) (pa_cons (pv 5) pa_nil)))) pe_int (fun _ _ => rfl)) po_none (po_some pe_int)))
      (pss_one (ps_if (pt_cmp (pc_dnotin (hu_of hr) (pv 7) (pv 4))) (pss_one (ps_dput (hu_of hr) (pv 4) (pv 7) (pv 5) rfl)) pss_nil))))
      (pss_cons (ps_set (i := 6) nd rfl (.inl rfl) (pe_lst pa_nil))
      (pss_cons (ps_for PassesOwn.never rfl (pi_list (pe_callB (cr_sortedDT rfl) (by rfl) mb_sorted (by decide +kernel) (pa_cons (pv 4) pa_nil))) (pg_name (i := 7) nd rfl (.inr rfl))
        (pss_one (ps_if (pt_cmpR (op_eqD hr.units) (pe_lock (pe_lc (own := [("_law_one", 12)]) (g := (gName 12)) rfl nd (pi_keys (pv 4)) (blkOk_by (own := [("_law_one", 12)]) (N := ["_law_script", "_law_row", "_law_disk_here", "_law_asks_here", "_law_known", "_law_order", "_law_due", "_law_cost", "_law_again", "_law_found", "_law_way", "_law_longest", "_law_one"]) (sc := defScope s_law) (by decide +kernel)) (fun _ _ _ _ _ => (pg_name (i := 12) nd rfl (.inl rfl))) (fun _ _ _ _ _ => (pts_one (PW.pt (pw_and (pt_cmpR (r := rNeD K) (op_neD hr.units) (pv 12) (pv 7) (nomark _)) (pw_and (pt_cmpR op_le (pe_ix (r := rIxT K) ix_tup (pv 12) pe_int (fun _ _ => rfl)) (pe_ix (r := rIxT K) ix_tup (pv 7) pe_int (fun _ _ => rfl)) (nomark _)) (pw_and1 (pt_cmpR op_le (pe_ix (r := rIxT K) ix_tup (pv 12) pe_int (fun _ _ => rfl)) (pe_ix (r := rIxT K) ix_tup (pv 7) pe_int (fun _ _ => rfl)) (nomark _)))))))) (fun _ _ _ _ _ => (pv 12)))) (pe_lst pa_nil) (nomark _)) (pss_one (ps_expr (pe_bm PySem.F.plainAttrs_list PySem.F.slot_list_append PySem.F.type_list_append mt_append (pv 6) (pa_cons (pe_op op_catT (pv 7) (pe_tup (pa_cons (pe_dget (hu_of hr) (pv 4) (pv 7) (fun _ _ => rfl)) pa_nil))) pa_nil)))) pss_nil)))
      (pss_cons (ps_for PassesOwn.never rfl (pi_range1 rfl mb_range (pa_cons pe_int pa_nil)) (pg_name (i := 8) nd rfl (.inl rfl))
        (pss_cons (ps_set (i := 9) nd rfl (.inl rfl) (pe_call G_front hr_front rfl C_front.m C_front.k C_front.b .nil pass0 (pa_cons (pv 2) (pa_cons (pv 3) pa_nil))))
      (pss_cons (ps_if (pt_not (pt_val (pe_call G__law_alike hr__law_alike rfl C__law_alike.m C__law_alike.k C__law_alike.b .nil pass0 (pa_cons (pv 9) (pa_cons (pv 6) pa_nil))))) (pss_one (ps_ret pe_bl)) pss_nil)
      (pss_cons (ps_for PassesOwn.never rfl (pi_list (pv 9)) (pg_tup rfl (pgs_cons (pg_name (i := 10) nd rfl (.inl rfl)) (pgs_cons (pg_name (i := 11) nd rfl (.inl rfl)) (pgs_cons (pg_name (i := 5) nd rfl (.inl rfl)) pgs_nil))))
        (pss_one (ps_expr (pe_bm PySem.F.plainAttrs_list PySem.F.slot_list_append PySem.F.type_list_append mt_append (pv 5) (pa_cons pe_int pa_nil)))))
      (pss_one (ps_expr (pe_bm PySem.F.plainAttrs_list PySem.F.slot_list_append PySem.F.type_list_append mt_append (pv 9) (pa_cons (pe_tup pa_nil) pa_nil))))))))
      (pss_one (ps_ret pe_bl)))))))))), ?_⟩
    refine ⟨_, rfl, (by show 3 ≤ sizeLine; decide), fun r hr0 => ?_⟩
    have hR := row_start hS hr0
    refine ⟨_, rfl, r, rfl, hR, fun H1 pd d g hR1 sb1 npd ed => ?_⟩
    refine ⟨_, rfl, _, rfl, (by show 2 ≤ sizeLine; decide), fun L hL => ?_⟩
    have nL := hR1.ne hL
    refine ⟨_, rfl, r, 2, rfl, hR1.but (same_new hL), by decide, fun H2 z z0 z1 hR2 sb2 => ?_⟩
    have eL : H2 L = some (.lst [.int 5, .int 6]) := sb2 _ _ nL upd_same
    have ed2 : H2 pd = some (.tup ([d.tr, d.sc, d.pa, d.he].map V.int)) := sb2 _ _ npd (same_new hL _ _ ed)
    obtain ⟨k, hk, k0, k6⟩ : ∃ k : Int, atI [V.int 5, .int 6] z = some (.int k) ∧ 0 ≤ k ∧ k ≤ 6 := by
      rcases (by omega : z = 0 ∨ z = 1) with rfl | rfl
      · exact ⟨5, rfl, by decide⟩
      · exact ⟨6, rfl, by decide⟩
    have dpd2 : Dp K (wo H2 r) (.ref pd) (dDisk d) := dp_tints_of (.inl (.inl (by rw [wo_ne npd]; exact ed2)))
    refine ⟨L, _, z, _, rfl, rfl, SqL.of eL, hk, r, .ref pd, d, k, rfl, hR2, dpd2, g, k0, by omega, fun H3 pa l xs ga hl hR3 sb3 npa hpa0 epa hda => ?_⟩
    have hl6 : l.length ≤ 6 := by omega
    have dpd3 : Dp K H3 (.ref pd) (dDisk d) := dp_same wo_sub (dp_same (sb_wo sb3) dpd2)
    have dpa3 : Dp K H3 (.ref pa) (dAsks l) := .lst (SqL.of epa) (dpa_same (wo_sub.trans wo_sub) hda)
    have hxl : xs.length = l.length := by rw [dpa_len hda, List.length_map]
    -- the costs known, by all orders
    intro b hb
    have sb0 := same_new (o := .dT []) hb
    refine ⟨_, rfl, pa, xs, rfl, .inl (SqL.of (sb0 _ _ epa)), l.length, by rw [hxl]; rfl, hl6, fun H4 po os s34 hpo epo hos => ?_⟩
    have hol := all2_len hos
    have h6 := ordersK_len6 hl6 hl6
    have hb4 := s34 _ _ (upd_same (H := H3) (a := b) (o := .dT []))
    have npb : po ≠ b := fun z => by rw [z, upd_same] at hpo; cases hpo
    have s3H4 : Same H3 H4 := sb0.trans s34
    refine ⟨po, rfl, ⟨_, SqL.of epo⟩, for_list (K := K) (a := po) (xs := os) (fun j σ H' => SameBut b H4 H' ∧ ∃ (kvs : List (List Key × V)) (v5 v7 : Option V), σ = [some (.ref a), some (.ref r), some (.ref pd), some (.ref pa), some (.ref b), v5, none, v7, none, none, none, none, none] ∧ H' b = some (.dT kvs) ∧
        All2 (KvAt (wo H' b)) kvs (knownOf d l ((ordersK l.length l.length).take j))) ⟨sb_refl, [], none, none, rfl, hb4, trivial⟩ (fun j σ H' _ ⟨s, _⟩ => SqL.of (s _ _ npb epo)) ?_ ?_⟩
    · rintro j y σ H5 hj ⟨s5, kvs, v5, v7, rfl, hb5, hB⟩
      obtain ⟨od, hod, o, rfl, eo⟩ := all2_at hos hj
      have hlt : j < os.length := (List.getElem?_eq_some_iff.mp hj).1
      have ho4 := nw_sub _ _ eo
      have hio := ordersK_is (List.mem_of_getElem? hod)
      have s35 : Same H3 H5 := same_sb s3H4 hb s5
      have nob : o ≠ b := ne_of ho4 hb4 (by intro z; cases z)
      have ho5 := s5 _ _ nob ho4
      refine ⟨_, rfl, _, rfl, _, rfl, .ref pd, .ref pa, .ref o, d, l, od, rfl, dp_same s35 dpd3, dp_same s35 dpa3, dp_ints_of (SqL.of ho5), g, ga, hio.lt, by rw [hio.len]; omega, fun H6 p c t ys res => ?_⟩
      refine ⟨p, _, 1, _, rfl, rfl, SqT.of res.hp, atI_nat (j := 1) rfl, 2, rfl, t, _, rfl, SqT.of res.ht, fun z => absurd z.2 (by show ¬ ((2 : Nat) = 3); decide), fun ct hct => ?_⟩
      have ecut : HO.tup (cutV ([(costsOf d l (rowsOf d l 0 d.he od)).1, (costsOf d l (rowsOf d l 0 d.he od)).2.1, (costsOf d l (rowsOf d l 0 d.he od)).2.2].map V.int) none (some 2)) = HO.tup [.int (costW d l od).1, .int (costW d l od).2] := by
        rw [costW_costs g]
        rfl
      have hgo : ∀ {A : Hp → Prop}, A (upd H6 ct (HO.tup [.int (costW d l od).1, .int (costW d l od).2])) → A (upd H6 ct (HO.tup (cutV ([(costsOf d l (rowsOf d l 0 d.he od)).1, (costsOf d l (rowsOf d l 0 d.he od)).2.1, (costsOf d l (rowsOf d l 0 d.he od)).2.2].map V.int) none (some 2)))) := fun h => by
        rw [ecut]
        exact h
      refine hgo ?_
      have sc := same_new (o := HO.tup [.int (costW d l od).1, .int (costW d l od).2]) hct
      have s57 := res.same.trans sc
      have hb7 := s57 _ _ hb5
      have hc7 : upd H6 ct (HO.tup [.int (costW d l od).1, .int (costW d l od).2]) ct = some (HO.tup [.int (costW d l od).1, .int (costW d l od).2]) := upd_same
      have ho7 := s57 _ _ ho5
      have hB7 := all2_mono (fun e b' => kvAt_same (wo_mono (r := b) s57)) hB
      have sb7 := sb_trans s5 (sb_of (r := b) s57)
      revert hb7 hc7 ho7 hB7 sb7
      generalize upd H6 ct (HO.tup [.int (costW d l od).1, .int (costW d l od).2]) = H7
      intro hb7 hc7 ho7 hB7 sb7
      refine ⟨_, rfl, _, rfl, b, _, rfl, DGet.t (k := keyOf (costW d l od)) hb7 hc7, _, rfl, ?_⟩
      rw [kv_none hB7]
      by_cases hn : (look (knownOf d l ((ordersK l.length l.length).take j)) (costW d l od)).isSome = true
      · rw [hn]
        refine iteF ⟨sb7, kvs, _, _, rfl, hb7, ?_⟩
        rw [take_more hod, known_snoc]
        unfold putB
        rw [if_neg (by rw [Option.isNone_iff_eq_none]; intro z; rw [z] at hn; cases hn)]
        exact hB7
      · have hn' : (look (knownOf d l ((ordersK l.length l.length).take j)) (costW d l od)).isSome = false := by simpa using hn
        have hnone : look (knownOf d l ((ordersK l.length l.length).take j)) (costW d l od) = none := by simpa using hn'
        rw [hn']
        have hlen : kvs.length < sizeLine := by
          rw [all2_len hB7]
          refine Nat.lt_of_le_of_lt (Nat.le_trans (known_len d l _) ?_) (by decide : 46656 < sizeLine)
          rw [List.length_take]
          omega
        refine iteT ⟨_, rfl, _, rfl, _, rfl, b, _, rfl, DPut.t (k := keyOf (costW d l od)) hb7 hc7 hlen, ?_⟩
        rw [kv_putN hB7 hnone]
        refine ⟨sb_upd sb7, _, _, _, rfl, upd_same, ?_⟩
        rw [take_more hod, known_snoc]
        unfold putB
        rw [if_pos (by rw [hnone]; rfl)]
        exact all2_snoc ⟨rfl, o, rfl, by rw [wo_ne nob, upd_ne nob]; exact ho7⟩ (all2_mono (fun e b' => kvAt_same (sb_wo (sb_upd sb_refl))) hB7)
    · rintro σ H5 ⟨s5, kvs, v5, v7, rfl, hb5, hB⟩
      rw [List.take_of_length_le (by omega)] at hB
      have s35 : Same H3 H5 := same_sb s3H4 hb s5
      have hKl : (knownOf d l (ordersK l.length l.length)).length ≤ 46656 := Nat.le_trans (known_len d l _) h6
      -- what is due
      refine ⟨Nat.zero_le _, fun Du hDu => ?_⟩
      have sD := same_new (o := .lst []) hDu
      have nbD : b ≠ Du := ne_of_none hb5 hDu
      refine ⟨_, rfl, b, kvs, (knownOf d l (ordersK l.length l.length)).map (·.1), rfl, .inl (sD _ _ hb5), kv_keys hB, fun ps as hps hperm hsort has => ?_⟩
      have hDF := due_front hperm hsort
      have sP := same_new (o := .lst (as.map V.ref)) hps
      have nDp : Du ≠ ps := ne_of_none upd_same hps
      have hasl : as.length ≤ 46656 := by
        have := hperm.length_eq
        rw [List.length_map, List.length_map] at this
        omega
      have s5P : Same H5 (upd (upd H5 Du (.lst [])) ps (.lst (as.map V.ref))) := sD.trans sP
      refine ⟨ps, rfl, ⟨_, SqL.of upd_same⟩, for_list (K := K) (a := ps) (xs := as.map V.ref) (fun i σ H' => SameBut Du (upd (upd H5 Du (.lst [])) ps (.lst (as.map V.ref))) H' ∧ ∃ (us : List V) (v7 v12 : Option V), σ = [some (.ref a), some (.ref r), some (.ref pd), some (.ref pa), some (.ref b), v5, some (.ref Du), v7, none, none, none, none, v12] ∧ H' Du = some (.lst us) ∧ us.length ≤ i ∧
          All2 (FrAt (wo H' Du)) us ((((as.map (pairAt (upd H5 Du (.lst [])))).take i).filter (loneB (knownOf d l (ordersK l.length l.length)))).map fun c => (c, (look (knownOf d l (ordersK l.length l.length)) c).getD [])))
        ⟨sb_refl, [], _, none, rfl, sP _ _ upd_same, Nat.le_refl _, trivial⟩ (fun i σ H' _ ⟨s, _⟩ => SqL.of (s _ _ nDp.symm upd_same)) ?_ ?_⟩
      · rintro i y σ H6 hi ⟨sb6, us, v7, v12, rfl, eD, hul, hus⟩
        obtain ⟨qa, hqa, rfl⟩ : ∃ qa, as[i]? = some qa ∧ y = .ref qa := by
          rw [List.getElem?_map] at hi
          cases e : as[i]? with
          | none => rw [e] at hi; cases hi
          | some qa => rw [e] at hi; exact ⟨qa, rfl, (Option.some.inj hi).symm⟩
        have hq0 := has qa (List.mem_of_getElem? hqa)
        have hlt : i < as.length := (List.getElem?_eq_some_iff.mp hqa).1
        have nqD : qa ≠ Du := ne_of hq0 (upd_same (H := H5) (o := .lst [])) (by intro z; cases z)
        have hq6 : H6 qa = _ := sb6 _ _ nqD (sP _ _ hq0)
        have hb6 : H6 b = some (.dT kvs) := sb6 _ _ nbD (s5P _ _ hb5)
        have hcB : pairAt (upd H5 Du (.lst [])) qa ∈ (knownOf d l (ordersK l.length l.length)).map (·.1) := hperm.mem_iff.mp (List.mem_map.mpr ⟨qa, List.mem_of_getElem? hqa, rfl⟩)
        obtain ⟨od, hod⟩ : ∃ os, look (knownOf d l (ordersK l.length l.length)) (pairAt (upd H5 Du (.lst [])) qa) = some os := by
          cases e : look (knownOf d l (ordersK l.length l.length)) (pairAt (upd H5 Du (.lst [])) qa) with
          | none => exact absurd hcB (look_none.mp e)
          | some os => exact ⟨os, rfl⟩
        obtain ⟨vo, hvo, o, rfl, ho⟩ := kv_some hB hod
        have ho5 := wo_sub _ _ ho
        have noD : o ≠ Du := ne_of_none ho5 hDu
        have ho6 : H6 o = _ := sb6 _ _ noD (s5P _ _ ho5)
        have htk : (as.map (pairAt (upd H5 Du (.lst [])))).take (i + 1) = (as.map (pairAt (upd H5 Du (.lst [])))).take i ++ [pairAt (upd H5 Du (.lst [])) qa] := take_more (by rw [List.getElem?_map, hqa]; rfl)
        revert hq6 hvo hod hcB htk
        generalize pairAt (upd H5 Du (.lst [])) qa = c
        intro hq6 hcB hod hvo htk
        -- is another as good?
        refine ⟨b, .dT kvs, hb6, trivial, fun oo => ⟨_, rfl, b, oo, rfl, .inr ⟨kvs, upd_same, fun D hD => ?_⟩⟩⟩
        have nDb : D ≠ b := fun z => by rw [z, upd_same] at hD; cases hD
        have hD2 : H6 D = none := by rw [upd_ne nDb] at hD; exact hD
        have sD2 := same_new (o := .lst []) hD
        have nqb : qa ≠ b := ne_of hq6 hb6 (by intro z; cases z)
        refine lc_keysT (fun i H' => Same (upd H6 b (.frz oo (.dT kvs))) H' ∧ ∃ ws : List V, H' D = some (.lst ws) ∧ ws.length ≤ i ∧
            All2 (PrAt (wo H' D)) ws ((((knownOf d l (ordersK l.length l.length)).take i).filter fun e => !decide (e.1 = c) && (decide (e.1.1 ≤ c.1) && decide (e.1.2 ≤ c.2))).map (·.1)))
          ⟨sD2, [], upd_same, Nat.le_refl _, trivial⟩ (fun i H' _ ⟨s, _⟩ => s _ _ upd_same) ?_ ?_
        · rintro m ky vv qb H7 hm hq ⟨s7, ws, eW, hwl, hws⟩
          obtain ⟨e, he, hke⟩ := all2_at hB hm
          have hky : ky = keyOf e.1 := hke.1
          subst hky
          have hmlt : m < kvs.length := (List.getElem?_eq_some_iff.mp hm).1
          have hkl : kvs.length ≤ 46656 := by rw [all2_len hB]; exact hKl
          have hqb : H7 qb = some (.tup [.int e.1.1, .int e.1.2]) := hq
          have hq7 : H7 qa = some (.tup [.int c.1, .int c.2]) := s7 _ _ (by rw [upd_ne nqb]; exact hq6)
          have dq : Dp K H7 (.ref qb) (dPr e.1) := prAt_dp ⟨qb, rfl, hqb⟩
          have dc : Dp K H7 (.ref qa) (dPr c) := prAt_dp ⟨qa, rfl, hq7⟩
          rw [take_more he, List.filter_append, List.map_append]
          refine ⟨rfl, _, rfl, _, rfl, dPr e.1, dPr c, dq, dc, shaped_tints _, shaped_tints _, _, rfl, ?_⟩
          rw [eqv_pr]
          have skip : (!decide (e.1 = c) && (decide (e.1.1 ≤ c.1) && decide (e.1.2 ≤ c.2))) = false → All2 (PrAt (wo H7 D)) ws ((((knownOf d l (ordersK l.length l.length)).take m).filter fun e => !decide (e.1 = c) && (decide (e.1.1 ≤ c.1) && decide (e.1.2 ≤ c.2))).map (·.1) ++ ([e].filter fun e => !decide (e.1 = c) && (decide (e.1.1 ≤ c.1) && decide (e.1.2 ≤ c.2))).map (·.1)) := fun h => by
            rw [List.filter_cons_of_neg (by rw [h]; exact Bool.false_ne_true)]
            simpa using hws
          by_cases h0 : e.1 = c
          · refine ifnd_t h0 (iteF ⟨s7, ws, eW, by omega, skip (by rw [decide_eq_true h0]; rfl)⟩)
          · refine ifnd_f h0 ⟨_, rfl, qb, _, 0, _, rfl, rfl, SqT.of hqb, atI_nat (j := 0) rfl, _, rfl, qa, _, 0, _, rfl, rfl, SqT.of hq7, atI_nat (j := 0) rfl, _, _, rfl, rfl, _, rfl, ?_⟩
            by_cases h1 : e.1.1 ≤ c.1
            · refine ifd_t h1 ⟨_, rfl, qb, _, 1, _, rfl, rfl, SqT.of hqb, atI_nat (j := 1) rfl, _, rfl, qa, _, 1, _, rfl, rfl, SqT.of hq7, atI_nat (j := 1) rfl, _, _, rfl, rfl, _, rfl, ?_⟩
              by_cases h2 : e.1.2 ≤ c.2
              · have nqW : qb ≠ D := ne_of hqb eW (by intro z; cases z)
                refine ifd_t h2 ⟨_, rfl, ws, eW, Nat.lt_of_le_of_lt hwl (Nat.lt_of_lt_of_le hmlt (Nat.le_trans hkl (by decide))), same_upd s7 hD, ws ++ [.ref qb], upd_same, by rw [List.length_append]; show ws.length + 1 ≤ m + 1; omega, ?_⟩
                have e1 : ([e].filter fun e => !decide (e.1 = c) && (decide (e.1.1 ≤ c.1) && decide (e.1.2 ≤ c.2))) = [e] := by
                  simp [h0, h1, h2]
                rw [e1]
                exact all2_snoc ⟨qb, rfl, by rw [wo_ne nqW, upd_ne nqW]; exact hqb⟩ (all2_mono (fun v c => prAt_same (sb_wo (sb_upd sb_refl))) hws)
              · exact ifd_f h2 ⟨s7, ws, eW, by omega, skip (by rw [decide_eq_false h2]; simp)⟩
            · exact ifd_f h1 (iteF ⟨s7, ws, eW, by omega, skip (by rw [decide_eq_false h1]; simp)⟩)
        · rintro H7 ⟨s7, ws, eW, hwl, hws⟩
          rw [List.take_of_length_le (by rw [all2_len hB]; exact Nat.le_refl _)] at hws
          refine ⟨s7 _ _ upd_same, Nat.zero_le _, fun e0 he0 => ?_⟩
          have nbe : b ≠ e0 := fun z => by rw [← z, upd_same] at he0; cases he0
          have se := same_new (o := .lst []) he0
          have sN : Same H6 (upd (upd H7 b (.dT kvs)) e0 (.lst [])) := fun x o e => by
            by_cases hx : x = b
            · rw [hx] at e ⊢
              rw [hb6] at e
              cases e
              exact se _ _ upd_same
            · refine se _ _ ?_
              rw [upd_ne hx]
              exact s7 _ _ (by rw [upd_ne hx]; exact e)
          have eWn : upd (upd H7 b (.dT kvs)) e0 (.lst []) D = some (.lst ws) := se _ _ (by rw [upd_ne nDb]; exact eW)
          have hwsn : All2 (PrAt (upd (upd H7 b (.dT kvs)) e0 (.lst []))) ws (((knownOf d l (ordersK l.length l.length)).filter fun e => !decide (e.1 = c) && (decide (e.1.1 ≤ c.1) && decide (e.1.2 ≤ c.2))).map (·.1)) := all2_mono (fun v c h => by
            obtain ⟨qx, e, h⟩ := prAt_same wo_sub h
            have nx : qx ≠ b := ne_of h (s7 _ _ upd_same) (by intro z; cases z)
            exact ⟨qx, e, se _ _ (by rw [upd_ne nx]; exact h)⟩) hws
          refine ⟨.list ((((knownOf d l (ordersK l.length l.length)).filter fun e => !decide (e.1 = c) && (decide (e.1.1 ≤ c.1) && decide (e.1.2 ≤ c.2))).map (·.1)).map dPr), .list [], .lst (SqL.of eWn) (all2_dpa (f := dPr) (fun v c h => prAt_dp h) hwsn), .lst (SqL.of upd_same) .nil, shaped_prs _, rfl, _, rfl, ?_⟩
          rw [eqv_nilA, List.isEmpty_map, List.isEmpty_map, lone_filter]
          revert sN
          generalize upd (upd H7 b (.dT kvs)) e0 (.lst []) = H8
          intro sN
          have eD8 := sN _ _ eD
          have hb8 := sN _ _ hb6
          have hq8 := sN _ _ hq6
          have ho8 := sN _ _ ho6
          rw [htk, List.filter_append, List.map_append]
          by_cases hlone : loneB (knownOf d l (ordersK l.length l.length)) c = true
          · rw [hlone]
            refine iteT ⟨_, rfl, .inl ⟨rfl, _, SqL.of eD8⟩, _, rfl, _, rfl, _, rfl, b, .ref o, rfl, by rw [← hvo]; exact DGet.t (k := keyOf c) hb8 hq8, (by show 1 ≤ sizeLine; decide), fun t1 ht1 => ?_⟩
            have st1 := same_new (o := HO.tup [.ref o]) ht1
            have hq9 := st1 _ _ hq8
            refine ⟨qa, t1, [.int c.1, .int c.2], [.ref o], rfl, rfl, SqT.of hq9, SqT.of upd_same, by simp, (by show 3 ≤ sizeLine; decide), fun z => by simp at z, fun _ t2 ht2 => ?_⟩
            have st2 := same_new (o := HO.tup [.int c.1, .int c.2, .ref o]) ht2
            have st := st1.trans st2
            have nDt : t2 ≠ Du := (ne_of_none (st1 _ _ eD8) ht2).symm
            have sBD : SameBut Du H6 (upd (upd (upd H8 t1 (HO.tup [.ref o])) t2 (HO.tup [.int c.1, .int c.2, .ref o])) Du (.lst (us ++ [.ref t2]))) := sb_upd (sb_of (sN.trans st))
            refine ⟨Du, us, .ref t2, rfl, rfl, st _ _ eD8, Nat.lt_of_le_of_lt hul (Nat.lt_of_lt_of_le hlt (Nat.le_trans hasl (by decide))), ?_⟩
            refine ⟨sb_trans sb6 sBD, us ++ [.ref t2], _, _, rfl, upd_same, by rw [List.length_append]; show us.length + 1 ≤ i + 1; omega, ?_⟩
            rw [List.filter_cons_of_pos hlone]
            refine all2_snoc ⟨t2, o, rfl, by rw [wo_ne nDt, upd_ne nDt, upd_same]; rfl, ?_⟩ (all2_mono (fun v e => frAt_same (sb_wo sBD)) hus)
            have eod : (look (knownOf d l (ordersK l.length l.length)) c).getD [] = od := by rw [hod]; rfl
            show _ = some (HO.lst ((nints ((look (knownOf d l (ordersK l.length l.length)) c).getD [])).map V.int))
            rw [eod, wo_ne noD, upd_ne noD]
            exact st _ _ ho8
          · have hl' : loneB (knownOf d l (ordersK l.length l.length)) c = false := by simpa using hlone
            rw [hl']
            refine iteF ⟨sb_trans sb6 (sb_of sN), us, _, _, rfl, eD8, by omega, ?_⟩
            rw [List.filter_cons_of_neg hlone, List.filter_nil, List.map_nil, List.append_nil]
            exact all2_mono (fun v e => frAt_same (sb_wo (sb_of sN))) hus
      · rintro σ H6 ⟨sb6, us, v7, v12, rfl, eD, hul, hus⟩
        rw [show (as.map (pairAt (upd H5 Du (.lst [])))).take (as.map V.ref).length = as.map (pairAt (upd H5 Du (.lst []))) from List.take_of_length_le (by rw [List.length_map, List.length_map]; exact Nat.le_refl _)] at hus
        have s36 : Same H3 H6 := s35.trans (same_sb (s5P) hDu sb6)
        have hlenF := all2_len hus
        revert hus hDF hlenF
        generalize (((as.map (pairAt (upd H5 Du (.lst [])))).filter (loneB (knownOf d l (ordersK l.length l.length)))).map fun c => (c, (look (knownOf d l (ordersK l.length l.length)) c).getD [])) = F2
        intro hDF hus hlenF
        have hdue : Dp K H6 (.ref Du) (.list (F2.map dFr)) := .lst (SqL.of eD) (all2_dpa (f := dFr) (fun v e h => frAt_dp (frAt_same wo_sub h)) hus)
        have hord := isFront_ord hDF
        -- told twice
        refine ⟨2, rfl, by decide, by decide, ?_⟩
        refine for_range (lo := 0) (n := 2) (fun j σ H' => Same H6 H' ∧ ∃ v5 v7 v8 v9 v10 v11 v12, σ = [some (.ref a), some (.ref r), some (.ref pd), some (.ref pa), some (.ref b), v5, some (.ref Du), v7, v8, v9, v10, v11, v12]) ⟨Same.refl _, _, _, none, none, none, none, _, rfl⟩ ?_ ?_
        · rintro j σ H7 hj ⟨s67, v5, v7, v8, v9, v10, v11, v12, rfl⟩
          have s37 := s36.trans s67
          refine ⟨_, rfl, _, rfl, .ref pd, .ref pa, d, l, rfl, dp_same s37 dpd3, dp_same s37 dpa3, g, ga, hl6, fun H8 p ws F1 s8 hp ep hws hF1 hF1l => ?_⟩
          have eF : F1 = F2 := front_unique hF1 hDF
          subst eF
          have dfound : Dp K H8 (.ref p) (.list (F1.map dFr)) := .lst (SqL.of ep) (all2_dpa (f := dFr) (fun v e h => frAt_dp (frAt_same fr_sub h)) hws)
          refine ⟨_, rfl, _, rfl, .ref p, .ref Du, .list (F1.map dFr), rfl, dfound, dp_same (s67.trans s8) hdue, okD_frs 0 F1 hF1l (fun e he => by have := (hord e he).len; omega), fun H9 s9 => ⟨_, rfl, iteF ?_⟩⟩
          have s79 := s8.trans s9
          have hwl : ws.length = F1.length := all2_len hws
          -- the orders told are changed
          refine ⟨_, rfl, p, rfl, ⟨_, SqL.of (s9 _ _ ep)⟩, for_list (K := K) (a := p) (xs := ws) (fun m σ H' => Same H7 H' ∧ H' p = some (.lst ws) ∧ (∃ v5 v10 v11, σ = [some (.ref a), some (.ref r), some (.ref pd), some (.ref pa), some (.ref b), v5, some (.ref Du), v7, some (.int (0 + (j : Int))), some (.ref p), v10, v11, v12]) ∧
              ∀ (n : Nat) (v : V), ws[n]? = some v → ∃ (t o : Addr) (c1 c2 : Int) (ys : List V), v = .ref t ∧ H' t = some (.tup [.int c1, .int c2, .ref o]) ∧ H' o = some (.lst ys) ∧ ys.length ≤ 6 + m ∧ H7 o = none ∧ o ≠ p)
            ⟨s79, s9 _ _ ep, ⟨_, _, _, rfl⟩, fun n v hv => ?_⟩ (fun m σ H' _ ⟨_, e, _⟩ => SqL.of e) ?_ ?_⟩
          · obtain ⟨e, he, t, o, rfl, ht, ho⟩ := all2_at hws hv
            have nop : o ≠ p := fun z => by
              unfold fr at ho
              rw [z, wo_at] at ho
              cases ho
            refine ⟨t, o, _, _, _, rfl, s9 _ _ (fr_sub _ _ ht), s9 _ _ (fr_sub _ _ ho), ?_, (nw_of (fr_nw _ _ ho)).1, nop⟩
            rw [List.length_map, nints_len, (hord e (List.mem_of_getElem? he)).len]
            omega
          · rintro m y σ H10 hm ⟨s10, ep10, ⟨v5, v10, v11, rfl⟩, hall⟩
            obtain ⟨t, o, c1, c2, ys, rfl, ht, ho, hyl, ho7, nop⟩ := hall m y hm
            have hmlt : m < ws.length := (List.getElem?_eq_some_iff.mp hm).1
            refine ⟨t, _, rfl, SqT.of ht, rfl, _, _, rfl, _, _, rfl, _, _, rfl, rfl, ?_⟩
            refine ⟨_, rfl, .inl ⟨rfl, _, SqL.of ho⟩, o, ys, _, rfl, rfl, ho, Nat.lt_of_le_of_lt hyl (Nat.lt_of_le_of_lt (by omega : 6 + m ≤ 1000006) (by decide)), ?_⟩
            refine ⟨same_upd s10 ho7, by rw [upd_ne nop.symm]; exact ep10, ⟨_, _, _, rfl⟩, fun n v hv => ?_⟩
            obtain ⟨t', o', c1', c2', ys', rfl, ht', ho', hyl', ho7', nop'⟩ := hall n v hv
            have nto : t' ≠ o := ne_of ht' ho (by intro z; cases z)
            by_cases e : o' = o
            · subst e
              exact ⟨t', o', c1', c2', _, rfl, by rw [upd_ne nto]; exact ht', upd_same, by rw [List.length_append]; show ys.length + 1 ≤ _; omega, ho7', nop'⟩
            · exact ⟨t', o', c1', c2', ys', rfl, by rw [upd_ne nto]; exact ht', by rw [upd_ne e]; exact ho', by omega, ho7', nop'⟩
          · rintro σ H10 ⟨s10, ep10, ⟨v5, v10, v11, rfl⟩, _⟩
            refine ⟨_, rfl, .inl ⟨rfl, _, SqL.of ep10⟩, Nat.zero_le _, fun t ht => ?_⟩
            have npt : p ≠ t := ne_of_none ep10 ht
            refine ⟨p, ws, .ref t, rfl, rfl, by rw [upd_ne npt]; exact ep10, Nat.lt_of_le_of_lt (by omega : ws.length ≤ 1000000) (by decide), ?_⟩
            exact ⟨s67.trans (same_upd (same_upd s10 (s10.free ht)) hp), _, _, _, _, _, _, _, rfl⟩
        · rintro σ H7 _
          exact q _
end
end Ag

namespace Ag
open PySem PySem.Spec PyProof.Rows L2
/-! ### the end: what the top has written -/
set_option maxHeartbeats 16000000 in
theorem all_mk {l : PySem.W.OpenLaw} {w : World} {K : PySem.W.Frag} {h : Heap} {mg : Str → Option Value} {fa f_need_disk f_need_asks f_need_few f_served f_orders_from f_all_costs f_front f__law_taken f__law_alike f__law_disk f__law_asks f__law_served f__law_ordered f__law_orders f_law : Addr} (X : K.In h) (G : h.Ns mainGlobals mg) (hfa : mg "law" = some (.ref fa))
    {od_need_disk an_need_disk od_need_asks an_need_asks od_need_few an_need_few od_served an_served od_orders_from an_orders_from od_all_costs an_all_costs od_front an_front od__law_taken an__law_taken od__law_alike an__law_alike od__law_disk an__law_disk od__law_asks an__law_asks od__law_served an__law_served od__law_ordered an__law_ordered od__law_orders an__law_orders od_law an_law : Option Addr} {sl_need_disk sl_need_asks sl_need_few sl_served sl_orders_from sl_all_costs sl_front sl__law_taken sl__law_alike sl__law_disk sl__law_asks sl__law_served sl__law_ordered sl__law_orders sl_law : Array (Option Value)} {oc_need_disk kV_need_disk dc_need_disk pm_need_disk cd_need_disk ct_need_disk oc_need_asks kV_need_asks dc_need_asks pm_need_asks cd_need_asks ct_need_asks oc_need_few kV_need_few dc_need_few pm_need_few cd_need_few ct_need_few oc_served kV_served dc_served pm_served cd_served ct_served oc_orders_from kV_orders_from dc_orders_from pm_orders_from cd_orders_from ct_orders_from oc_all_costs kV_all_costs dc_all_costs pm_all_costs cd_all_costs ct_all_costs oc_front kV_front dc_front pm_front cd_front ct_front oc__law_taken kV__law_taken dc__law_taken pm__law_taken cd__law_taken ct__law_taken oc__law_alike kV__law_alike dc__law_alike pm__law_alike cd__law_alike ct__law_alike oc__law_disk kV__law_disk dc__law_disk pm__law_disk cd__law_disk ct__law_disk oc__law_asks kV__law_asks dc__law_asks pm__law_asks cd__law_asks ct__law_asks oc__law_served kV__law_served dc__law_served pm__law_served cd__law_served ct__law_served oc__law_ordered kV__law_ordered dc__law_ordered pm__law_ordered cd__law_ordered ct__law_ordered oc__law_orders kV__law_orders dc__law_orders pm__law_orders cd__law_orders ct__law_orders oc_law kV_law dc_law pm_law cd_law ct_law : Value} {t_MOST_ASKS t_MOST_COME t_MOST_OF_ALL t_MOST_PACE t_MOST_SECTORS t_MOST_TRACKS : Tok}
    (a_need_disk : PySem.W.nsIn K mainGlobals "need_disk" = some (some (.ref f_need_disk))) (l_need_disk : K.lookup f_need_disk = some ⟨oc_need_disk, od_need_disk, .func (PySem.W.fnOf "need_disk" "need_disk" (defArgs s_need_disk) (defBody s_need_disk) (defScope s_need_disk) .none kV_need_disk dc_need_disk pm_need_disk an_need_disk cd_need_disk ct_need_disk), sl_need_disk⟩) (c_need_disk : PySem.W.codeIn K cd_need_disk "need_disk" = true) (k_need_disk : PySem.W.keepIn K (.ref f_need_disk) = true)
    (a_need_asks : PySem.W.nsIn K mainGlobals "need_asks" = some (some (.ref f_need_asks))) (l_need_asks : K.lookup f_need_asks = some ⟨oc_need_asks, od_need_asks, .func (PySem.W.fnOf "need_asks" "need_asks" (defArgs s_need_asks) (defBody s_need_asks) (defScope s_need_asks) .none kV_need_asks dc_need_asks pm_need_asks an_need_asks cd_need_asks ct_need_asks), sl_need_asks⟩) (c_need_asks : PySem.W.codeIn K cd_need_asks "need_asks" = true) (k_need_asks : PySem.W.keepIn K (.ref f_need_asks) = true)
    (a_need_few : PySem.W.nsIn K mainGlobals "need_few" = some (some (.ref f_need_few))) (l_need_few : K.lookup f_need_few = some ⟨oc_need_few, od_need_few, .func (PySem.W.fnOf "need_few" "need_few" (defArgs s_need_few) (defBody s_need_few) (defScope s_need_few) .none kV_need_few dc_need_few pm_need_few an_need_few cd_need_few ct_need_few), sl_need_few⟩) (c_need_few : PySem.W.codeIn K cd_need_few "need_few" = true) (k_need_few : PySem.W.keepIn K (.ref f_need_few) = true)
    (a_served : PySem.W.nsIn K mainGlobals "served" = some (some (.ref f_served))) (l_served : K.lookup f_served = some ⟨oc_served, od_served, .func (PySem.W.fnOf "served" "served" (defArgs s_served) (defBody s_served) (defScope s_served) .none kV_served dc_served pm_served an_served cd_served ct_served), sl_served⟩) (c_served : PySem.W.codeIn K cd_served "served" = true) (k_served : PySem.W.keepIn K (.ref f_served) = true)
    (a_orders_from : PySem.W.nsIn K mainGlobals "orders_from" = some (some (.ref f_orders_from))) (l_orders_from : K.lookup f_orders_from = some ⟨oc_orders_from, od_orders_from, .func (PySem.W.fnOf "orders_from" "orders_from" (defArgs s_orders_from) (defBody s_orders_from) (defScope s_orders_from) .none kV_orders_from dc_orders_from pm_orders_from an_orders_from cd_orders_from ct_orders_from), sl_orders_from⟩) (c_orders_from : PySem.W.codeIn K cd_orders_from "orders_from" = true) (k_orders_from : PySem.W.keepIn K (.ref f_orders_from) = true)
    (a_all_costs : PySem.W.nsIn K mainGlobals "all_costs" = some (some (.ref f_all_costs))) (l_all_costs : K.lookup f_all_costs = some ⟨oc_all_costs, od_all_costs, .func (PySem.W.fnOf "all_costs" "all_costs" (defArgs s_all_costs) (defBody s_all_costs) (defScope s_all_costs) .none kV_all_costs dc_all_costs pm_all_costs an_all_costs cd_all_costs ct_all_costs), sl_all_costs⟩) (c_all_costs : PySem.W.codeIn K cd_all_costs "all_costs" = true) (k_all_costs : PySem.W.keepIn K (.ref f_all_costs) = true)
    (a_front : PySem.W.nsIn K mainGlobals "front" = some (some (.ref f_front))) (l_front : K.lookup f_front = some ⟨oc_front, od_front, .func (PySem.W.fnOf "front" "front" (defArgs s_front) (defBody s_front) (defScope s_front) .none kV_front dc_front pm_front an_front cd_front ct_front), sl_front⟩) (c_front : PySem.W.codeIn K cd_front "front" = true) (k_front : PySem.W.keepIn K (.ref f_front) = true)
    (a__law_taken : PySem.W.nsIn K mainGlobals "_law_taken" = some (some (.ref f__law_taken))) (l__law_taken : K.lookup f__law_taken = some ⟨oc__law_taken, od__law_taken, .func (PySem.W.fnOf "_law_taken" "_law_taken" (defArgs s_l_taken) (defBody s_l_taken) (defScope s_l_taken) .none kV__law_taken dc__law_taken pm__law_taken an__law_taken cd__law_taken ct__law_taken), sl__law_taken⟩) (c__law_taken : PySem.W.codeIn K cd__law_taken "_law_taken" = true) (k__law_taken : PySem.W.keepIn K (.ref f__law_taken) = true)
    (a__law_alike : PySem.W.nsIn K mainGlobals "_law_alike" = some (some (.ref f__law_alike))) (l__law_alike : K.lookup f__law_alike = some ⟨oc__law_alike, od__law_alike, .func (PySem.W.fnOf "_law_alike" "_law_alike" (defArgs s_l_alike) (defBody s_l_alike) (defScope s_l_alike) .none kV__law_alike dc__law_alike pm__law_alike an__law_alike cd__law_alike ct__law_alike), sl__law_alike⟩) (c__law_alike : PySem.W.codeIn K cd__law_alike "_law_alike" = true) (k__law_alike : PySem.W.keepIn K (.ref f__law_alike) = true)
    (a__law_disk : PySem.W.nsIn K mainGlobals "_law_disk" = some (some (.ref f__law_disk))) (l__law_disk : K.lookup f__law_disk = some ⟨oc__law_disk, od__law_disk, .func (PySem.W.fnOf "_law_disk" "_law_disk" (defArgs s_l_disk) (defBody s_l_disk) (defScope s_l_disk) .none kV__law_disk dc__law_disk pm__law_disk an__law_disk cd__law_disk ct__law_disk), sl__law_disk⟩) (c__law_disk : PySem.W.codeIn K cd__law_disk "_law_disk" = true) (k__law_disk : PySem.W.keepIn K (.ref f__law_disk) = true)
    (a__law_asks : PySem.W.nsIn K mainGlobals "_law_asks" = some (some (.ref f__law_asks))) (l__law_asks : K.lookup f__law_asks = some ⟨oc__law_asks, od__law_asks, .func (PySem.W.fnOf "_law_asks" "_law_asks" (defArgs s_l_asks) (defBody s_l_asks) (defScope s_l_asks) .none kV__law_asks dc__law_asks pm__law_asks an__law_asks cd__law_asks ct__law_asks), sl__law_asks⟩) (c__law_asks : PySem.W.codeIn K cd__law_asks "_law_asks" = true) (k__law_asks : PySem.W.keepIn K (.ref f__law_asks) = true)
    (a__law_served : PySem.W.nsIn K mainGlobals "_law_served" = some (some (.ref f__law_served))) (l__law_served : K.lookup f__law_served = some ⟨oc__law_served, od__law_served, .func (PySem.W.fnOf "_law_served" "_law_served" (defArgs s_l_served) (defBody s_l_served) (defScope s_l_served) .none kV__law_served dc__law_served pm__law_served an__law_served cd__law_served ct__law_served), sl__law_served⟩) (c__law_served : PySem.W.codeIn K cd__law_served "_law_served" = true) (k__law_served : PySem.W.keepIn K (.ref f__law_served) = true)
    (a__law_ordered : PySem.W.nsIn K mainGlobals "_law_ordered" = some (some (.ref f__law_ordered))) (l__law_ordered : K.lookup f__law_ordered = some ⟨oc__law_ordered, od__law_ordered, .func (PySem.W.fnOf "_law_ordered" "_law_ordered" (defArgs s_l_ordered) (defBody s_l_ordered) (defScope s_l_ordered) .none kV__law_ordered dc__law_ordered pm__law_ordered an__law_ordered cd__law_ordered ct__law_ordered), sl__law_ordered⟩) (c__law_ordered : PySem.W.codeIn K cd__law_ordered "_law_ordered" = true) (k__law_ordered : PySem.W.keepIn K (.ref f__law_ordered) = true)
    (a__law_orders : PySem.W.nsIn K mainGlobals "_law_orders" = some (some (.ref f__law_orders))) (l__law_orders : K.lookup f__law_orders = some ⟨oc__law_orders, od__law_orders, .func (PySem.W.fnOf "_law_orders" "_law_orders" (defArgs s_l_orders) (defBody s_l_orders) (defScope s_l_orders) .none kV__law_orders dc__law_orders pm__law_orders an__law_orders cd__law_orders ct__law_orders), sl__law_orders⟩) (c__law_orders : PySem.W.codeIn K cd__law_orders "_law_orders" = true) (k__law_orders : PySem.W.keepIn K (.ref f__law_orders) = true)
    (a_law : PySem.W.nsIn K mainGlobals "law" = some (some (.ref f_law))) (l_law : K.lookup f_law = some ⟨oc_law, od_law, .func (PySem.W.fnOf "law" "law" (defArgs s_law) (defBody s_law) (defScope s_law) .none kV_law dc_law pm_law an_law cd_law ct_law), sl_law⟩) (c_law : PySem.W.codeIn K cd_law "law" = true) (k_law : PySem.W.keepIn K (.ref f_law) = true)
    (y_abs : PySem.W.nsIn K mainGlobals "abs" = some none)
    (y_bool : PySem.W.nsIn K mainGlobals "bool" = some none)
    (y_int : PySem.W.nsIn K mainGlobals "int" = some none)
    (y_isinstance : PySem.W.nsIn K mainGlobals "isinstance" = some none)
    (y_len : PySem.W.nsIn K mainGlobals "len" = some none)
    (y_list : PySem.W.nsIn K mainGlobals "list" = some none)
    (y_max : PySem.W.nsIn K mainGlobals "max" = some none)
    (y_min : PySem.W.nsIn K mainGlobals "min" = some none)
    (y_range : PySem.W.nsIn K mainGlobals "range" = some none)
    (y_sorted : PySem.W.nsIn K mainGlobals "sorted" = some none)
    (y_str : PySem.W.nsIn K mainGlobals "str" = some none)
    (y_sum : PySem.W.nsIn K mainGlobals "sum" = some none)
    (y_tuple : PySem.W.nsIn K mainGlobals "tuple" = some none)
    (y_MOST_ASKS : PySem.W.nsIn K mainGlobals "MOST_ASKS" = some (some (.int 40 t_MOST_ASKS)))
    (y_MOST_COME : PySem.W.nsIn K mainGlobals "MOST_COME" = some (some (.int 999 t_MOST_COME)))
    (y_MOST_OF_ALL : PySem.W.nsIn K mainGlobals "MOST_OF_ALL" = some (some (.int 6 t_MOST_OF_ALL)))
    (y_MOST_PACE : PySem.W.nsIn K mainGlobals "MOST_PACE" = some (some (.int 4 t_MOST_PACE)))
    (y_MOST_SECTORS : PySem.W.nsIn K mainGlobals "MOST_SECTORS" = some (some (.int 16 t_MOST_SECTORS)))
    (y_MOST_TRACKS : PySem.W.nsIn K mainGlobals "MOST_TRACKS" = some (some (.int 64 t_MOST_TRACKS)))
    : ∃ fd : FuncData, (∀ (s : Shared) (v : Value), BindsTo s fd ⟨[v], []⟩ [("_law_script", v)]) ∧ ∀ base : Heap, K.In base → base.Ns mainGlobals mg → FnOk l.prog w K mg base CX0 11 fa fd ["_law_script"] (sp_law K) := by
  have e := hfa.symm.trans (PySem.W.mg_of X G a_law)
  cases e
  have z_abs := PySem.W.mg_none_of X G y_abs
  have z_bool := PySem.W.mg_none_of X G y_bool
  have z_int := PySem.W.mg_none_of X G y_int
  have z_isinstance := PySem.W.mg_none_of X G y_isinstance
  have z_len := PySem.W.mg_none_of X G y_len
  have z_list := PySem.W.mg_none_of X G y_list
  have z_max := PySem.W.mg_none_of X G y_max
  have z_min := PySem.W.mg_none_of X G y_min
  have z_range := PySem.W.mg_none_of X G y_range
  have z_sorted := PySem.W.mg_none_of X G y_sorted
  have z_str := PySem.W.mg_none_of X G y_str
  have z_sum := PySem.W.mg_none_of X G y_sum
  have z_tuple := PySem.W.mg_none_of X G y_tuple
  have c_MOST_ASKS := PySem.W.mg_of X G y_MOST_ASKS
  have c_MOST_COME := PySem.W.mg_of X G y_MOST_COME
  have c_MOST_OF_ALL := PySem.W.mg_of X G y_MOST_OF_ALL
  have c_MOST_PACE := PySem.W.mg_of X G y_MOST_PACE
  have c_MOST_SECTORS := PySem.W.mg_of X G y_MOST_SECTORS
  have c_MOST_TRACKS := PySem.W.mg_of X G y_MOST_TRACKS
  have F_need_disk := fun_mk (st := s_need_disk) l_need_disk c_need_disk k_need_disk
  have b_need_disk := F_need_disk.binds (ps := ["disk"]) fun _ _ _ _ _ _ us hl => match us, hl with | [_], _ => rfl
  have C_need_disk : Cal K mg "need_disk" f_need_disk _ ["disk"] := ⟨PySem.W.mg_of X G a_need_disk, k_need_disk, b_need_disk⟩
  have F_need_asks := fun_mk (st := s_need_asks) l_need_asks c_need_asks k_need_asks
  have b_need_asks := F_need_asks.binds (ps := ["disk", "asks"]) fun _ _ _ _ _ _ us hl => match us, hl with | [_, _], _ => rfl
  have C_need_asks : Cal K mg "need_asks" f_need_asks _ ["disk", "asks"] := ⟨PySem.W.mg_of X G a_need_asks, k_need_asks, b_need_asks⟩
  have F_need_few := fun_mk (st := s_need_few) l_need_few c_need_few k_need_few
  have b_need_few := F_need_few.binds (ps := ["asks"]) fun _ _ _ _ _ _ us hl => match us, hl with | [_], _ => rfl
  have C_need_few : Cal K mg "need_few" f_need_few _ ["asks"] := ⟨PySem.W.mg_of X G a_need_few, k_need_few, b_need_few⟩
  have F_served := fun_mk (st := s_served) l_served c_served k_served
  have b_served := F_served.binds (ps := ["disk", "now", "here", "ask"]) fun _ _ _ _ _ _ us hl => match us, hl with | [_, _, _, _], _ => rfl
  have C_served : Cal K mg "served" f_served _ ["disk", "now", "here", "ask"] := ⟨PySem.W.mg_of X G a_served, k_served, b_served⟩
  have F_orders_from := fun_mk (st := s_orders_from) l_orders_from c_orders_from k_orders_from
  have b_orders_from := F_orders_from.binds (ps := ["disk", "asks", "order", "now", "here", "cost", "best"]) fun _ _ _ _ _ _ us hl => match us, hl with | [_, _, _, _, _, _, _], _ => rfl
  have C_orders_from : Cal K mg "orders_from" f_orders_from _ ["disk", "asks", "order", "now", "here", "cost", "best"] := ⟨PySem.W.mg_of X G a_orders_from, k_orders_from, b_orders_from⟩
  have F_all_costs := fun_mk (st := s_all_costs) l_all_costs c_all_costs k_all_costs
  have b_all_costs := F_all_costs.binds (ps := ["disk", "asks"]) fun _ _ _ _ _ _ us hl => match us, hl with | [_, _], _ => rfl
  have C_all_costs : Cal K mg "all_costs" f_all_costs _ ["disk", "asks"] := ⟨PySem.W.mg_of X G a_all_costs, k_all_costs, b_all_costs⟩
  have F_front := fun_mk (st := s_front) l_front c_front k_front
  have b_front := F_front.binds (ps := ["disk", "asks"]) fun _ _ _ _ _ _ us hl => match us, hl with | [_, _], _ => rfl
  have C_front : Cal K mg "front" f_front _ ["disk", "asks"] := ⟨PySem.W.mg_of X G a_front, k_front, b_front⟩
  have F__law_taken := fun_mk (st := s_l_taken) l__law_taken c__law_taken k__law_taken
  have b__law_taken := F__law_taken.binds (ps := ["_law_row", "_law_many"]) fun _ _ _ _ _ _ us hl => match us, hl with | [_, _], _ => rfl
  have C__law_taken : Cal K mg "_law_taken" f__law_taken _ ["_law_row", "_law_many"] := ⟨PySem.W.mg_of X G a__law_taken, k__law_taken, b__law_taken⟩
  have F__law_alike := fun_mk (st := s_l_alike) l__law_alike c__law_alike k__law_alike
  have b__law_alike := F__law_alike.binds (ps := ["_law_found", "_law_due"]) fun _ _ _ _ _ _ us hl => match us, hl with | [_, _], _ => rfl
  have C__law_alike : Cal K mg "_law_alike" f__law_alike _ ["_law_found", "_law_due"] := ⟨PySem.W.mg_of X G a__law_alike, k__law_alike, b__law_alike⟩
  have F__law_disk := fun_mk (st := s_l_disk) l__law_disk c__law_disk k__law_disk
  have b__law_disk := F__law_disk.binds (ps := ["_law_row"]) fun _ _ _ _ _ _ us hl => match us, hl with | [_], _ => rfl
  have C__law_disk : Cal K mg "_law_disk" f__law_disk _ ["_law_row"] := ⟨PySem.W.mg_of X G a__law_disk, k__law_disk, b__law_disk⟩
  have F__law_asks := fun_mk (st := s_l_asks) l__law_asks c__law_asks k__law_asks
  have b__law_asks := F__law_asks.binds (ps := ["_law_row", "_law_disk_here", "_law_most"]) fun _ _ _ _ _ _ us hl => match us, hl with | [_, _, _], _ => rfl
  have C__law_asks : Cal K mg "_law_asks" f__law_asks _ ["_law_row", "_law_disk_here", "_law_most"] := ⟨PySem.W.mg_of X G a__law_asks, k__law_asks, b__law_asks⟩
  have F__law_served := fun_mk (st := s_l_served) l__law_served c__law_served k__law_served
  have b__law_served := F__law_served.binds (ps := ["_law_disk_here", "_law_now", "_law_here", "_law_ask"]) fun _ _ _ _ _ _ us hl => match us, hl with | [_, _, _, _], _ => rfl
  have C__law_served : Cal K mg "_law_served" f__law_served _ ["_law_disk_here", "_law_now", "_law_here", "_law_ask"] := ⟨PySem.W.mg_of X G a__law_served, k__law_served, b__law_served⟩
  have F__law_ordered := fun_mk (st := s_l_ordered) l__law_ordered c__law_ordered k__law_ordered
  have b__law_ordered := F__law_ordered.binds (ps := ["_law_disk_here", "_law_asks_here", "_law_order"]) fun _ _ _ _ _ _ us hl => match us, hl with | [_, _, _], _ => rfl
  have C__law_ordered : Cal K mg "_law_ordered" f__law_ordered _ ["_law_disk_here", "_law_asks_here", "_law_order"] := ⟨PySem.W.mg_of X G a__law_ordered, k__law_ordered, b__law_ordered⟩
  have F__law_orders := fun_mk (st := s_l_orders) l__law_orders c__law_orders k__law_orders
  have b__law_orders := F__law_orders.binds (ps := ["_law_many"]) fun _ _ _ _ _ _ us hl => match us, hl with | [_], _ => rfl
  have C__law_orders : Cal K mg "_law_orders" f__law_orders _ ["_law_many"] := ⟨PySem.W.mg_of X G a__law_orders, k__law_orders, b__law_orders⟩
  have F_law := fun_mk (st := s_law) l_law c_law k_law
  refine ⟨PySem.W.fnOf "law" "law" (defArgs s_law) (defBody s_law) (defScope s_law) .none kV_law dc_law pm_law an_law cd_law ct_law, fun s v => .of_eq rfl, fun base _ _ => ?_⟩
  have G_need_disk := ok_need_disk (P := l.prog) (w := w) (base := base) F_need_disk c_MOST_TRACKS c_MOST_SECTORS c_MOST_PACE
  have G_need_asks := ok_need_asks (P := l.prog) (w := w) (base := base) F_need_asks z_range z_len c_MOST_ASKS c_MOST_COME
  have G_need_few := ok_need_few (P := l.prog) (w := w) (base := base) F_need_few z_len c_MOST_OF_ALL
  have G_served := ok_served (P := l.prog) (w := w) (base := base) F_served z_max z_abs
  have G_orders_from := (ok_orders_from (P := l.prog) (w := w) (base := base) F_orders_from C_orders_from G_served C_served z_len z_range z_abs z_max)
  have G_all_costs := ok_all_costs (P := l.prog) (w := w) (base := base) F_all_costs G_orders_from C_orders_from
  have G_front := ok_front (P := l.prog) (w := w) (base := base) F_front G_need_disk C_need_disk G_need_asks C_need_asks G_need_few C_need_few G_all_costs C_all_costs z_sorted z_list
  have G__law_taken := ok_l_taken (P := l.prog) (w := w) (base := base) F__law_taken z_len
  have G__law_alike := ok_l_alike (P := l.prog) (w := w) (base := base) F__law_alike C__law_alike.b C__law_alike.m z_isinstance z_tuple z_list z_bool z_str z_int z_len z_range 4
  have G__law_disk := ok_l_disk (P := l.prog) (w := w) (base := base) F__law_disk G__law_taken C__law_taken.m C__law_taken.k C__law_taken.b
  have G__law_asks := ok_l_asks (P := l.prog) (w := w) (base := base) F__law_asks G__law_taken C__law_taken.m C__law_taken.k C__law_taken.b z_min z_range
  have G__law_served := ok_l_served (P := l.prog) (w := w) (base := base) F__law_served z_max z_int
  have G__law_ordered := ok_l_ordered (P := l.prog) (w := w) (base := base) F__law_ordered G__law_served C__law_served.m C__law_served.k C__law_served.b z_max z_sum
  have G__law_orders := ok_l_orders (P := l.prog) (w := w) (base := base) F__law_orders z_range
  exact ok_law F_law G__law_taken C__law_taken G__law_disk C__law_disk G__law_asks C__law_asks G_front C_front G__law_ordered C__law_ordered G__law_orders C__law_orders G__law_alike C__law_alike z_range z_len z_sorted
end Ag

open PySem PySem.W PyProof.Rows in
set_option maxRecDepth 100000 in
set_option maxHeartbeats 0 in
theorem PySem.Challenge.cw_armorder_k05_whole_what_is_worth_choosin_holds : PySem.Challenge.rw_armorder_k05_whole_what_is_worth_choosin.Holds := by
  w_on; o_law; k_head; (case hw => w_witness2)
  k_fill
  refine L2.walk_of (l := PySem.Challenge.rw_armorder_k05_whole_what_is_worth_choosin) (n := 63) (k := 11) (x := "_law_script") (CX := fun _ => L2.CX0) (sp := fun w => Ag.sp_law _) rfl (by decide) rfl ⟨rfl, by decide, by decide⟩ (fun w h Y => PySem.W.kIn_of Y) ?F (fun _ _ a ns hl hO hS => ⟨a, ns, rfl, Ag.scr_of hO hS, fun _ => rfl⟩) (fun _ _ _ _ _ z => z)
  case F =>
    intro w mg fa h KX G hmg
    refine' Ag.all_mk KX G hmg ?a_need_disk ?l_need_disk ?c_need_disk ?k_need_disk ?a_need_asks ?l_need_asks ?c_need_asks ?k_need_asks ?a_need_few ?l_need_few ?c_need_few ?k_need_few ?a_served ?l_served ?c_served ?k_served ?a_orders_from ?l_orders_from ?c_orders_from ?k_orders_from ?a_all_costs ?l_all_costs ?c_all_costs ?k_all_costs ?a_front ?l_front ?c_front ?k_front ?a__law_taken ?l__law_taken ?c__law_taken ?k__law_taken ?a__law_alike ?l__law_alike ?c__law_alike ?k__law_alike ?a__law_disk ?l__law_disk ?c__law_disk ?k__law_disk ?a__law_asks ?l__law_asks ?c__law_asks ?k__law_asks ?a__law_served ?l__law_served ?c__law_served ?k__law_served ?a__law_ordered ?l__law_ordered ?c__law_ordered ?k__law_ordered ?a__law_orders ?l__law_orders ?c__law_orders ?k__law_orders ?a_law ?l_law ?c_law ?k_law ?y_abs ?y_bool ?y_int ?y_isinstance ?y_len ?y_list ?y_max ?y_min ?y_range ?y_sorted ?y_str ?y_sum ?y_tuple ?y_MOST_ASKS ?y_MOST_COME ?y_MOST_OF_ALL ?y_MOST_PACE ?y_MOST_SECTORS ?y_MOST_TRACKS
    (case a_need_disk => k_is)
    (case l_need_disk => k_is)
    (case c_need_disk => k_is)
    (case k_need_disk => k_is)
    (case a_need_asks => k_is)
    (case l_need_asks => k_is)
    (case c_need_asks => k_is)
    (case k_need_asks => k_is)
    (case a_need_few => k_is)
    (case l_need_few => k_is)
    (case c_need_few => k_is)
    (case k_need_few => k_is)
    (case a_served => k_is)
    (case l_served => k_is)
    (case c_served => k_is)
    (case k_served => k_is)
    (case a_orders_from => k_is)
    (case l_orders_from => k_is)
    (case c_orders_from => k_is)
    (case k_orders_from => k_is)
    (case a_all_costs => k_is)
    (case l_all_costs => k_is)
    (case c_all_costs => k_is)
    (case k_all_costs => k_is)
    (case a_front => k_is)
    (case l_front => k_is)
    (case c_front => k_is)
    (case k_front => k_is)
    (case a__law_taken => k_is)
    (case l__law_taken => k_is)
    (case c__law_taken => k_is)
    (case k__law_taken => k_is)
    (case a__law_alike => k_is)
    (case l__law_alike => k_is)
    (case c__law_alike => k_is)
    (case k__law_alike => k_is)
    (case a__law_disk => k_is)
    (case l__law_disk => k_is)
    (case c__law_disk => k_is)
    (case k__law_disk => k_is)
    (case a__law_asks => k_is)
    (case l__law_asks => k_is)
    (case c__law_asks => k_is)
    (case k__law_asks => k_is)
    (case a__law_served => k_is)
    (case l__law_served => k_is)
    (case c__law_served => k_is)
    (case k__law_served => k_is)
    (case a__law_ordered => k_is)
    (case l__law_ordered => k_is)
    (case c__law_ordered => k_is)
    (case k__law_ordered => k_is)
    (case a__law_orders => k_is)
    (case l__law_orders => k_is)
    (case c__law_orders => k_is)
    (case k__law_orders => k_is)
    (case a_law => k_is)
    (case l_law => k_is)
    (case c_law => k_is)
    (case k_law => k_is)
    (case y_abs => k_is)
    (case y_bool => k_is)
    (case y_int => k_is)
    (case y_isinstance => k_is)
    (case y_len => k_is)
    (case y_list => k_is)
    (case y_max => k_is)
    (case y_min => k_is)
    (case y_range => k_is)
    (case y_sorted => k_is)
    (case y_str => k_is)
    (case y_sum => k_is)
    (case y_tuple => k_is)
    (case y_MOST_ASKS => k_is)
    (case y_MOST_COME => k_is)
    (case y_MOST_OF_ALL => k_is)
    (case y_MOST_PACE => k_is)
    (case y_MOST_SECTORS => k_is)
    (case y_MOST_TRACKS => k_is)

