/- Plain laws of those functions. -/
import Derived.Test.YtliimhlefbnamaaLRingP3
namespace Go.AE.F
open Go.AE
theorem some_len (N : Nat) (s : SrcT) (hs : srcOk s) (hN : 100001 < N) : Tot (fun r : List Int × SrcT => srcOk r.2 ∧ r.1.length ≤ 1000) (spec_l01Src_some N s) := by
  unfold spec_l01Src_some
  have hz := hs.2.2.2
  have e : pAdd .i64 12 s.2.2.2.1 = 12 + s.2.2.2.1 := pAdd_i (by omega) (by omega)
  rw [e]
  refine Tot.bind (nT N s _ hs (by omega)) fun r h => ?_
  have hr := h.2.2.2 (by omega)
  refine Tot.bind (dpoints_tot N _ _ h.1 h.2.1 (by omega) hN) fun p hp => ?_
  have hpl := hp.2
  refine Tot.bind (oneT N _ 50 hp.1 (by omega)) fun o ho => ?_
  refine Tot.both ?_ ?_
  · refine Tot.bind (nT N _ 3 ho (by omega)) fun v hv => ?_
    have hv3 := hv.2.2.2 (by omega)
    have hv0 := hv.2.1
    have e2 : pAdd .i64 299 v.1 = 299 + v.1 := pAdd_i (by omega) (by omega)
    rw [e2]
    refine Tot.bind (dpoints_tot N _ _ hv.1 (by omega) (by omega) hN) fun q hq => ?_
    have hql := hq.2
    refine Tot.bind (oneT N _ 20 hq.1 (by omega)) fun o2 ho2 => ?_
    refine Tot.both ?_ (Tot.ret ⟨ho2, by show q.1.length ≤ 1000; omega⟩)
    refine Tot.bind (nT N _ 5 ho2 (by omega)) fun u hu => ?_
    have := hu.2.2.2 (by omega)
    refine Tot.bind (idxT _ _ hu.2.1 (by simp; omega)) fun _ _ => Tot.bind (idxT _ _ hu.2.1 (by simp; omega)) fun _ _ => ?_
    exact Tot.fit (by simp; omega) (Tot.ret ⟨hu.1, by simp [pApp]; omega⟩)
  · refine Tot.bind (oneT N _ 20 ho (by omega)) fun o2 ho2 => ?_
    refine Tot.both ?_ (Tot.ret ⟨ho2, by show p.1.length ≤ 1000; omega⟩)
    refine Tot.bind (nT N _ 5 ho2 (by omega)) fun u hu => ?_
    have := hu.2.2.2 (by omega)
    refine Tot.bind (idxT _ _ hu.2.1 (by simp; omega)) fun _ _ => Tot.bind (idxT _ _ hu.2.1 (by simp; omega)) fun _ _ => ?_
    exact Tot.fit (by simp; omega) (Tot.ret ⟨hu.1, by simp [pApp]; omega⟩)
theorem dpush_tot (N : Nat) (hN : 100200 < N) (a : List Int) (ha : a.length ≤ 1048576) : Tot (fun r : RingT × List Int => r.1.1.length ≤ 60 ∧ (∀ x ∈ r.1.1, x.length ≤ 400) ∧ r.2.length ≤ 1000) (spec_DrawRingPush N a) := by
  unfold spec_DrawRingPush
  obtain ⟨s, h1, hs⟩ := source_ok N a ha (by omega)
  rw [h1, bindO_s]
  refine Tot.bind (dring_tot N (by omega) s hs) fun r hr => ?_
  refine Tot.bind (some_len N r.2 hr.1 (by omega)) fun p hp => ?_
  exact Tot.ret ⟨hr.2.1, hr.2.2, hp.2⟩
theorem lwLists_loop {N : Nat} {R : Type} (l : List (List Int)) (hl : l.length ≤ 1000) (hx : ∀ x ∈ l, x.length ≤ 1000) (hN : 2000 < N) (k : Unit ⊕ (Bool × Unit) → Option R) : ∀ (m i n : Nat), l.length - i = m → i ≤ l.length → m < n →
    loopP (laws_lwLists.l4 N) n (l, l, (i : Int), ()) k = k (.inl ()) := by
  intro m
  induction m with
  | zero =>
    intro i n hm hi hn
    obtain ⟨n, rfl⟩ := succ_of hn
    rw [loopP_s]; unfold laws_lwLists.l4; simp only [pLen_d]
    rw [pLt_f (by omega), ifB_f]
  | succ m ih =>
    intro i n hm hi hn
    obtain ⟨n, rfl⟩ := succ_of hn
    have hlt : i < l.length := by omega
    rw [loopP_s]; unfold laws_lwLists.l4; simp only [pLen_d]
    rw [pLt_t (by omega), ifB_t, idx_lt hlt, bindO_s, bindO_s, lwSame_self N _ (hx _ (List.getElem_mem hlt)) hN, bindO_s, show pNot true = false from rfl, ifB_f, pAdd_i (by omega) (by omega)]
    exact ih (i + 1) n (by omega) (by omega) (by omega)
theorem lwRing_self (N : Nat) (r : RingT) (hl : r.1.length ≤ 1000) (hx : ∀ x ∈ r.1, x.length ≤ 1000) (hN : 2000 < N) : laws_lwRing N r r = some true := by
  unfold laws_lwRing laws_lwLists
  rw [pNe_f rfl, ifB_f]
  have := lwLists_loop (N := N) r.1 hl hx hN (onSum (fun d => some true) (fun d => let x22 := d.1; some x22)) _ 0 N rfl (by omega) (by omega)
  have e : loopP (laws_lwLists.l4 N) N (r.1, r.1, 0, ()) (onSum (fun d => some true) (fun d => let x22 := d.1; some x22)) = some true := this
  rw [e, bindO_s, ifB_t, pEq_t rfl, bindO_s]
theorem turn_loop {N : Nat} {R : Type} (hN : 2000 < N) (x : RingT) (hx : ringG x = true) (h0 : x.2.1 = 0) (hn0 : x.1.length ≠ 0) (k : RingT × RingT × Unit → Option R) : ∀ (m i n : Nat), x.1.length - i = m → i ≤ x.1.length → m < n →
    loopP (laws_FnRing.l14 N) n ((i : Int), x, x, (x.1, ((if i = x.1.length then (0 : Int) else (i : Int)), ())), ()) k = k (x, x, ()) := by
  obtain ⟨g1, g2, g3, g4⟩ := ringG_iff.1 hx
  have ex : x = (x.1, ((0 : Int), ())) := by obtain ⟨a, b, c⟩ := x; simp only at h0; subst h0; rfl
  intro m
  induction m with
  | zero =>
    intro i n hm hi hn
    obtain ⟨n, rfl⟩ := succ_of hn
    rw [loopP_s]; unfold laws_FnRing.l14; simp only [pLen_d]
    rw [pLt_f (by omega), ifB_f, if_pos (by omega), ← ex]
  | succ m ih =>
    intro i n hm hi hn
    obtain ⟨n, rfl⟩ := succ_of hn
    have hlt : i < x.1.length := by omega
    have hr : ringG (x.1, ((i : Int), ())) = true := ringG_iff.2 ⟨g1, g2, by show (0 : Int) ≤ (i : Int); omega, .inl (by show (i : Int) < (x.1.length : Int); omega)⟩
    rw [loopP_s]; unfold laws_FnRing.l14; simp only [pLen_d]
    rw [pLt_t (by omega), ifB_t, if_neg (by omega), impl_turn_eq N (by omega) _ hr hn0, bindO_s, pAdd_i (by omega) (by omega)]
    have et : turnG (x.1, ((i : Int), ())) = (if i + 1 = x.1.length then (0 : Int) else ((i + 1 : Nat) : Int)) := by
      unfold turnG
      show ((i : Int) + 1).tmod (x.1.length : Int) = _
      by_cases q : i + 1 = x.1.length
      · rw [if_pos q, ← q]
        show ((i : Int) + 1).tmod (((i + 1 : Nat)) : Int) = 0
        rw [show ((i + 1 : Nat) : Int) = (i : Int) + 1 by omega, Int.tmod_self]
      · rw [if_neg q, Int.tmod_eq_of_lt (by omega) (by omega)]; omega
    rw [et]
    exact ih (i + 1) n (by omega) (by omega) (by omega)
theorem pure_FnRing (a : List Int) (_h : a.length ≤ 9223372036854775807 ∧ ∀ x ∈ a, IntKind.u8.min ≤ x ∧ x ≤ IntKind.u8.max) : ∃ N, laws_FnRing N a = some true := by
  refine ⟨1048700, ?_⟩
  unfold laws_FnRing
  rw [pLen_d]
  by_cases ha : 1048576 < a.length
  · rw [pGt_t (by omega), ifB_t]
  rw [pGt_f (by omega), ifB_f]
  obtain ⟨⟨r, p⟩, hd, hrl, hrx, hpl⟩ := dpush_tot 1048700 (by omega) a (by omega)
  simp only at hrl hrx hpl
  have hsum : ∀ (l : List (List Int)), (∀ x ∈ l, x.length ≤ 400) → sumLen l ≤ 400 * l.length := by
    intro l
    induction l with
    | nil => intro _; simp [sumLen]
    | cons x xs ih =>
      intro h
      have := ih (fun y hy => h y (List.mem_cons_of_mem _ hy))
      have := h x (List.mem_cons_self ..)
      rw [sumLen_c, List.length_cons, Nat.mul_succ]; omega
  have hsr := hsum r.1 hrx
  have ho : ringOk 1048700 r := ⟨by omega, by omega, fun x hx => by have := hrx x hx; omega, by omega⟩
  have c1 := spec_RingPush_eq 1048700 r p (by omega) ho (by omega)
  have c2 := impl_RingPush_eq 1048700 r p (by omega) ho (by omega) (by omega)
  have hgl : (rpushG r p).1.length ≤ 1000 ∧ ∀ x ∈ (rpushG r p).1, x.length ≤ 1000 := by
    unfold rpushG
    split
    · exact ⟨by simp, fun x hx => by simp at hx⟩
    · split
      · exact ⟨by omega, fun x hx => by have := hrx x hx; omega⟩
      · refine ⟨by simp only [List.length_take]; omega, fun x hx => ?_⟩
        rcases List.mem_cons.1 (List.mem_of_mem_take hx) with rfl | hx
        · exact hpl
        · have := hrx x hx; omega
  have c3 := lwRing_self 1048700 _ hgl.1 hgl.2 (by omega)
  rw [hd, bindO_s]
  simp only [c1, bindO_s, lwCopy_eq 1048700 p (by omega), c2, c3, show pNot true = false from rfl, ifB_f]
  rw [spec_RingRight_eq _ (by omega), bindO_s, spec_PointsRight_eq _ p (by omega), bindO_s, pNot_d, pNot_d, ifB_or, bindO_s]
  have hit : itemG p = (ptsG p && !decide (p.length = 0)) := by
    unfold itemG
    by_cases h0 : p.length = 0
    · rw [decide_eq_false (show ¬ 0 < p.length by omega), decide_eq_true h0]; simp
    · rw [decide_eq_true (show 0 < p.length by omega), decide_eq_false h0]; simp
  have e0 : pEq (pLen p) 0 = decide (p.length = 0) := by rw [pLen_d, pEq_d]; congr 1; simp
  have e3 : (!ptsG p || decide (p.length = 0)) = !itemG p := by rw [hit]; cases ptsG p <;> cases decide (p.length = 0) <;> rfl
  rw [e0, ifB_or, bindO_s, Bool.or_assoc, e3]
  cases hr : ringG r with
  | false => rfl
  | true =>
    cases hpt : itemG p with
    | false => rfl
    | true =>
      simp only [Bool.not_true, Bool.or_false, ifB_f]
      obtain ⟨g1, g2, g3, g4⟩ := ringG_iff.1 hr
      obtain ⟨i1, i2⟩ := itemG_pts hpt
      have hp3 := ptsG_len i1
      have eg : rpushG r p = ((p :: r.1).take 10, (0, ())) := by
        unfold rpushG
        rw [if_neg (by omega), hr, hpt, if_neg (by simp)]
      have hlen : (rpushG r p).1.length ≠ 0 := by rw [eg]; simp
      have hG : ringG (rpushG r p) = true := by
        rw [eg]
        refine ringG_iff.2 ⟨by simp only [List.length_take]; omega, fun x hx => ?_, by show (0 : Int) ≤ 0; omega, .inl ?_⟩
        · rcases List.mem_cons.1 (List.mem_of_mem_take hx) with rfl | hx
          · exact hpt
          · exact g2 x hx
        · show (0 : Int) < (((p :: r.1).take 10).length : Int)
          rw [List.length_take, List.length_cons]; omega
      have h0 : (rpushG r p).2.1 = 0 := by rw [eg]
      have hat : atG (rpushG r p) (rpushG r p).2.1 = p := by
        rw [h0]; unfold atG; rw [eg]; rfl
      have gl := ringG_iff.1 hG
      rw [impl_RingRight_eq 1048700 (rpushG r p) (by omega) (by omega) (fun x hx => by have := hgl.2 x hx; omega), bindO_s, hG, show pNot true = false from rfl, ifB_f, impl_top_eq 1048700 (by omega) _ hG hlen, bindO_s, hat, lwSame_self _ p (by omega) (by omega), bindO_s, show pNot true = false from rfl, bindO_s, ifB_f]
      have hl := turn_loop (N := 1048700) (by omega) (rpushG r p) hG h0 hlen (fun d => let x45 := d.1; let x46 := d.2.1; bindO (laws_lwRing 1048700 x46 x45) fun y47 => some y47) _ 0 1048700 rfl (by omega) (by omega)
      have ex : rpushG r p = ((rpushG r p).1, ((0 : Int), ())) := by rw [eg]
      rw [if_neg (by omega)] at hl
      have e9 : ((rpushG r p).1, (((0 : Nat) : Int), ())) = rpushG r p := ex.symm
      rw [e9] at hl
      refine Eq.trans hl ?_
      simp only [c3, bindO_s]
end Go.AE.F
