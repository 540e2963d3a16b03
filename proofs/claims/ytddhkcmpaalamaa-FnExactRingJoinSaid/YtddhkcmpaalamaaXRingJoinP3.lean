/- Plain laws of those functions. -/
import Derived.Test.YtddhkcmpaalamaaXRingJoinP2
namespace Go.AE.F
open Go.AE
def cntSS (k : Int) : List (List Int) → List (List Int)
  | [] => []
  | x :: xs => cnt k x.length :: cntSS (k + x.length) xs
theorem sumLen_c (x : List Int) (xs : List (List Int)) : sumLen (x :: xs) = x.length + sumLen xs := rfl
theorem markSS2 {N : Nat} {R : Type} (kk : Int × List (List Int) × Unit → Option R) : ∀ (rest pre : List (List Int)) (k : Int) (n : Nat), rest.length < n → (∀ x ∈ rest, x.length < N) → 0 ≤ k → k + sumLen rest ≤ 4611686018427387904 → pre.length + rest.length ≤ 4194304 →
    loopP (laws_markInt64SS.l2 N) n (k, (pre.length : Int), pre ++ rest, ()) kk = kk (k + sumLen rest, pre ++ cntSS k rest, ())
  | [], pre, k, n, hn, _, hk, hs, hl => by
    obtain ⟨n, rfl⟩ := succ_of hn
    simp only [loopP_s, laws_markInt64SS.l2, pLen_d]
    rw [pLt_f (by simp), ifB_f]
    simp [sumLen, cntSS]
  | x :: rest, pre, k, n, hn, hx, hk, hs, hl => by
    obtain ⟨n, rfl⟩ := succ_of hn
    have hlt : pre.length < (pre ++ x :: rest).length := by simp
    have ei : (pre ++ x :: rest)[pre.length] = x := by simp
    rw [sumLen_c] at hs ⊢
    simp only [List.length_cons] at hl hn
    have ih := markSS2 kk rest (pre ++ [cnt k x.length]) (k + x.length) n (by omega) (fun y hy => hx y (List.mem_cons_of_mem _ hy)) (by omega) (by omega) (by simp; omega)
    simp only [loopP_s, laws_markInt64SS.l2, pLen_d]
    rw [pLt_t (by omega), ifB_t, idx_lt hlt, bindO_s, bindO_s, bindO_s, ei, markInt64S_eq N x k hk (by omega) (hx x (List.mem_cons_self ..)), bindO_s, bindO_s, pAdd_i (by omega) (by omega)]
    have ep : pSet (pre ++ x :: rest) (pre.length : Int) (cnt k x.length) = (pre ++ [cnt k x.length]) ++ rest := by simp [pSet]
    rw [ep]
    have e1 : ((pre ++ [cnt k x.length]).length : Int) = (pre.length : Int) + 1 := by simp
    rw [e1] at ih
    refine Eq.trans ih ?_
    congr 2
    · simp; omega
    · simp [cntSS]
theorem markSS_cnt (N : Nat) (l : List (List Int)) (k : Int) (hk : 0 ≤ k) (hk2 : k ≤ 4194304) (hN : l.length < N) (hNx : ∀ x ∈ l, x.length < N) (hS : sumLen l ≤ 4194304) (hl : l.length ≤ 4194304) : laws_markInt64SS N l k = some (k + sumLen l, cntSS k l) := by
  unfold laws_markInt64SS
  exact markSS2 (N := N) _ l [] k N hN hNx hk (by omega) (by simpa using hl)
theorem heldSS2 {N : Nat} {R : Type} (kk : (Int × Unit) ⊕ (Int × Unit) → Option R) : ∀ (rest pre : List (List Int)) (k : Int) (n : Nat), rest.length < n → (∀ x ∈ rest, x.length < N) → 0 ≤ k → k + sumLen rest ≤ 4611686018427387904 → pre.length + rest.length ≤ 4194304 →
    loopP (laws_heldInt64SS.l2 N) n (pre ++ cntSS k rest, k, (pre.length : Int), ()) kk = kk (.inl (k + sumLen rest, ()))
  | [], pre, k, n, hn, _, hk, hs, hl => by
    obtain ⟨n, rfl⟩ := succ_of hn
    simp only [loopP_s, laws_heldInt64SS.l2, pLen_d]
    rw [pLt_f (by simp [cntSS]), ifB_f]
    simp [sumLen]
  | x :: rest, pre, k, n, hn, hx, hk, hs, hl => by
    obtain ⟨n, rfl⟩ := succ_of hn
    have hlt : pre.length < (pre ++ cntSS k (x :: rest)).length := by simp [cntSS]
    have ei : (pre ++ cntSS k (x :: rest))[pre.length] = cnt k x.length := by simp [cntSS]
    rw [sumLen_c] at hs ⊢
    simp only [List.length_cons] at hl hn
    have ih := heldSS2 kk rest (pre ++ [cnt k x.length]) (k + x.length) n (by omega) (fun y hy => hx y (List.mem_cons_of_mem _ hy)) (by omega) (by omega) (by simp; omega)
    simp only [loopP_s, laws_heldInt64SS.l2, pLen_d]
    rw [pLt_t (by omega), ifB_t, idx_lt hlt, bindO_s, ei, heldInt64S_eq N x.length k hk (by omega) (hx x (List.mem_cons_self ..)), bindO_s, pLt_f (by omega), ifB_f, pAdd_i (by omega) (by omega)]
    have e1 : ((pre ++ [cnt k x.length]).length : Int) = (pre.length : Int) + 1 := by simp
    have e2 : (pre ++ [cnt k x.length]) ++ cntSS (k + x.length) rest = pre ++ cntSS k (x :: rest) := by simp [cntSS]
    rw [e1, e2] at ih
    refine Eq.trans ih ?_
    congr 3
    omega
theorem heldSS_cnt (N : Nat) (l : List (List Int)) (k : Int) (hk : 0 ≤ k) (hk2 : k ≤ 4194304) (hN : l.length < N) (hNx : ∀ x ∈ l, x.length < N) (hS : sumLen l ≤ 4194304) (hl : l.length ≤ 4194304) : laws_heldInt64SS N (cntSS k l) k = some (k + sumLen l) := by
  unfold laws_heldInt64SS
  exact heldSS2 (N := N) _ l [] k N hN hNx hk (by omega) (by simpa using hl)
def ringOk (N : Nat) (r : RingT) : Prop := r.1.length < N ∧ r.1.length ≤ 1048576 ∧ (∀ x ∈ r.1, x.length < N ∧ x.length ≤ 1048576) ∧ sumLen r.1 ≤ 4194304
theorem eqRing_self (N : Nat) (r : RingT) (h : ringOk N r) : laws_eqRing N r r = some true := by
  unfold laws_eqRing
  rw [eqInt64SS_eq N r.1 r.1 (by have := h.2.1; omega) (fun x hx => by have := h.2.2.1 x hx; omega) h.1 (fun x hx => (h.2.2.1 x hx).1), bindO_s, decide_eq_true rfl, show pNot true = false from rfl, ifB_f, pNe_f rfl, ifB_f]
theorem toRing_eq (N : Nat) (r : RingT) (h : ringOk N r) : laws_toRing N r = some r := by
  unfold laws_toRing
  rw [toInt64SS_eq N r.1 (by have := h.2.1; omega) (fun x hx => by have := h.2.2.1 x hx; omega) h.1 (fun x hx => (h.2.2.1 x hx).1), bindO_s]
theorem markRing_eq (N : Nat) (r : RingT) (h : ringOk N r) : laws_markRing N r 1 = some ((1 : Int) + sumLen r.1, (cntSS 1 r.1, r.2)) := by
  unfold laws_markRing
  rw [markSS_cnt N r.1 1 (by omega) (by omega) h.1 (fun x hx => (h.2.2.1 x hx).1) h.2.2.2 (by have := h.2.1; omega), bindO_s]
theorem heldRing_eq (N : Nat) (r : RingT) (h : ringOk N r) : laws_heldRing N (cntSS 1 r.1, r.2) 1 = some ((1 : Int) + sumLen r.1) := by
  unfold laws_heldRing
  rw [heldSS_cnt N r.1 1 (by omega) (by omega) h.1 (fun x hx => (h.2.2.1 x hx).1) h.2.2.2 (by have := h.2.1; omega), bindO_s, pLt_f (by omega), ifB_f]
def rpushG (r : RingT) (p : List Int) : RingT :=
  if 400 < p.length then ([], (0, ())) else if (ringG r && itemG p) = false then r else ((p :: r.1).take 10, (0, ()))
theorem spec_RingPush_eq (N : Nat) (r : RingT) (p : List Int) (hN : 301 < N) (h : ringOk N r) (hp : p.length ≤ 1048576) : spec_RingPush N r p = some (rpushG r p) := by
  obtain ⟨q1, q2, q3, q4⟩ := h
  unfold spec_RingPush rpushG
  rw [pLen_d]
  by_cases h1 : 400 < p.length
  · rw [pGt_t (by omega), ifB_t, if_pos h1]
  have hit : itemG p = (ptsG p && !decide (p.length = 0)) := by
    unfold itemG
    by_cases h0 : p.length = 0
    · rw [decide_eq_false (show ¬ 0 < p.length by omega), decide_eq_true h0]; simp
    · rw [decide_eq_true (show 0 < p.length by omega), decide_eq_false h0]; simp
  rw [pGt_f (by omega), ifB_f, if_neg h1, spec_RingRight_eq N hN, bindO_s, spec_PointsRight_eq N p hN, bindO_s, pNot_d, pNot_d, ifB_or, bindO_s]
  have e0 : pEq (p.length : Int) 0 = decide (p.length = 0) := by rw [pEq_d]; congr 1; simp
  rw [e0, ifB_or, bindO_s, hit]
  have ec : spec_l04Copy N r = some r := by
    unfold spec_l04Copy
    rw [copyAll_eq N r.1 (by omega) q1 (fun x hx => by have := q3 x hx; omega), bindO_s]
  have e3 : (!ptsG p || decide (p.length = 0)) = !(ptsG p && !decide (p.length = 0)) := by cases ptsG p <;> cases decide (p.length = 0) <;> rfl
  cases hr : ringG r with
  | false => simp only [Bool.not_false, Bool.true_or, ifB_t, Bool.false_and, if_true, ec, bindO_s]
  | true =>
    cases hpt : (ptsG p && !decide (p.length = 0)) with
    | false =>
      have e2 : (!ptsG p || decide (p.length = 0)) = true := by rw [e3, hpt]; rfl
      simp only [Bool.not_true, Bool.false_or, e2, ifB_t, Bool.true_and, if_true, ec, bindO_s]
    | true =>
      have e2 : (!ptsG p || decide (p.length = 0)) = false := by rw [e3, hpt]; rfl
      obtain ⟨g1, g2, g3, g4⟩ := ringG_iff.1 hr
      simp only [Bool.not_true, Bool.false_or, e2, ifB_f, Bool.true_and]
      rw [if_neg (by simp), copy_eq N p (by omega), bindO_s, copyAll_eq N r.1 (by omega) q1 (fun x hx => by have := q3 x hx; omega), bindO_s, pFit_t (by simp; omega), ifB_t, pLen_d]
      have ea : pApp [p] r.1 = p :: r.1 := rfl
      rw [ea]
      by_cases h10 : 10 < (p :: r.1).length
      · rw [pGt_t (by omega), ifB_t, pLe_t (by omega), ifB_t, pLe_t (by omega), ifB_t, pLe_t (by omega), ifB_t]
        rfl
      · rw [pGt_f (by omega), ifB_f, List.take_of_length_le (by omega)]
theorem impl_push_eq (N : Nat) (r : RingT) (p : List Int) (q1 : r.1.length < N) (q2 : r.1.length ≤ 1048576) (q3 : ∀ x ∈ r.1, x.length < N ∧ x.length ≤ 1048576) (hp : p.length ≤ 1048576) (h10 : r.1.length ≤ 1000) : impl_push N r p = some ((p :: r.1).take 10, (0, ())) := by
  unfold impl_push
  rw [ownLists_eq N r.1 (by omega) q1 (fun x hx => by have := q3 x hx; omega), bindO_s, clone_eq N p (by omega), bindO_s]
  unfold slices_Insert_S_Sint64__Sint64
  rw [pLe_t (by omega), ifB_t, pLen_d, pLe_t (by omega), ifB_t, pFit_t (by simp; omega), ifB_t, bindO_s]
  have ea : pApp (pApp (sub r.1 0 0) [p]) (sub r.1 0 (r.1.length : Int)) = p :: r.1 := by simp [pApp, sub]
  rw [ea, pLen_d]
  have hm : pMin ((p :: r.1).length : Int) 10 = ((min (p :: r.1).length 10 : Nat) : Int) := by unfold pMin; split <;> omega
  rw [hm]
  have b1 : pLe (0 : Int) ((min (p :: r.1).length 10 : Nat) : Int) = true := pLe_t (by omega)
  have b2 : pLe ((min (p :: r.1).length 10 : Nat) : Int) ((p :: r.1).length : Int) = true := pLe_t (by omega)
  rw [ifB_t, b1, ifB_t, b2, ifB_t]
  congr 2
  unfold sub
  rw [Int.toNat_natCast]
  show List.drop 0 _ = _
  rw [List.drop_zero]
  rcases Nat.le_total (p :: r.1).length 10 with z | z
  · rw [Nat.min_eq_left z, List.take_length, List.take_of_length_le z]
  · rw [Nat.min_eq_right z]
theorem impl_isItem_eq (N : Nat) (p : List Int) (hN : p.length < N) (hp : p.length ≤ 1048576) : impl_isItem N p = some (itemG p) := by
  unfold impl_isItem itemG
  rw [impl_PointsRight_eq N p hN (by omega), bindO_s, pLen_d, pGt_d, ifB_and, bindO_s]
  congr 2
  simp
theorem sumLen_take : ∀ (n : Nat) (l : List (List Int)), sumLen (l.take n) ≤ sumLen l
  | 0, l => by simp [sumLen]
  | n + 1, [] => by simp [sumLen]
  | n + 1, x :: l => by
    rw [List.take_succ_cons, sumLen_c, sumLen_c]
    have := sumLen_take n l
    omega
theorem rpushG_ok (N : Nat) (r : RingT) (p : List Int) (hN : 1048600 < N) (h : ringOk N r) (hs : sumLen r.1 ≤ 1048600) : ringOk N (rpushG r p) := by
  obtain ⟨q1, q2, q3, q4⟩ := h
  unfold rpushG
  split
  · exact ⟨by simp; omega, by simp, fun x hx => by simp at hx, by simp [sumLen]⟩
  · split
    · exact ⟨q1, q2, q3, q4⟩
    · refine ⟨by simp only [List.length_take]; omega, by simp only [List.length_take]; omega, fun x hx => ?_, ?_⟩
      · have hx := List.mem_of_mem_take hx
        rcases List.mem_cons.1 hx with rfl | hx
        · omega
        · exact q3 x hx
      · have := sumLen_take 10 (p :: r.1)
        rw [sumLen_c] at this
        show sumLen ((p :: r.1).take 10) ≤ _
        omega
end Go.AE.F
namespace Go.AE.F
open Go.AE
theorem concat2_eq (N : Nat) (x y : List Int) (h : x.length + y.length ≤ 100000) (hN : 4 ≤ N) : slices_Concat_Sint64_int64 N [x, y] = some (x ++ y) := by
  obtain ⟨M, rfl⟩ : ∃ M, N = M + 4 := ⟨N - 4, by omega⟩
  unfold slices_Concat_Sint64_int64
  have i0 : idx [x, y] 0 = some x := rfl
  have i1 : idx [x, y] (0 + 1) = some y := rfl
  have l3 : pLen [x, y] = 2 := rfl
  simp only [loopP_s, slices_Concat_Sint64_int64.l3, slices_Concat_Sint64_int64.l11, l3]
  have a1 : pAdd .i64 0 (1 : Int) = 0 + 1 := rfl
  have a2 : pAdd .i64 (0 + 1) (1 : Int) = 2 := rfl
  have b1 : pLt 0 2 = true := rfl
  have b2 : pLt (0 + 1) 2 = true := rfl
  have b4 : pLt 2 2 = false := rfl
  have s1 : pAdd .i64 0 (pLen x) = x.length := by rw [pLen_d, pAdd_i (by omega) (by omega)]; omega
  have s2 : pAdd .i64 (x.length : Int) (pLen y) = x.length + y.length := by rw [pLen_d, pAdd_i (by omega) (by omega)]
  have p1 : pLt (x.length : Int) 0 = false := pLt_f (by omega)
  have p2 : pLt ((x.length : Int) + y.length) 0 = false := pLt_f (by omega)
  have g : slices_Grow_Sint64_int64 (M + 4) [] ((x.length : Int) + y.length) = some [] := grow_eq _ _ (by omega) (by omega)
  have f1 : pFit ([] : List Int) x = true := pFit_t (by simp; omega)
  have f2 : pFit (pApp [] x) y = true := pFit_t (by simp [pApp]; omega)
  simp only [b1, ifB_t, i0, bindO_s, s1, p1, ifB_f, a1, b2, i1, s2, p2, a2, b4, g, f1, f2]
  rfl
def headG (r : RingT) : List Int := (r.1[0]?).getD []
def joinG (r : RingT) (p : List Int) (a : Bool) : RingT :=
  if 400 < p.length then ([], (0, ())) else if (ringG r && itemG p) = false then r else
  if r.1.length = 0 ∨ 300 < (headG r).length + p.length then ((p :: r.1).take 10, (0, ())) else
  (pSet r.1 0 (if a = true then p ++ headG r else headG r ++ p), (0, ()))
theorem head_idx {r : RingT} (h : r.1.length ≠ 0) : idx r.1 0 = some (headG r) ∧ headG r ∈ r.1 := by
  have hlt : 0 < r.1.length := by omega
  have e : r.1[0]? = some r.1[0] := List.getElem?_eq_getElem hlt
  have e2 : headG r = r.1[0] := by unfold headG; rw [e]; rfl
  refine ⟨?_, ?_⟩
  · unfold idx; rw [if_pos (by omega), e2]; exact e
  · rw [e2]; exact List.getElem_mem hlt
theorem full_eq (N : Nat) (r : RingT) (p : List Int) (hp : p.length ≤ 400) (hx : ∀ x ∈ r.1, x.length ≤ 300) : (bindO (
        ifB (pEq (pLen r.1) 0) (
          some true) (
          bindO (idx r.1 0) fun y23 =>
          some (pGt (pAdd Go.IntKind.i64 (pLen y23) (p.length : Int)) 300))) some) = some (decide (r.1.length = 0 ∨ 300 < (headG r).length + p.length)) := by
  rw [pLen_d]
  by_cases h : r.1.length = 0
  · rw [pEq_t (by omega), ifB_t, bindO_s, decide_eq_true (.inl h)]
  · obtain ⟨h1, h2⟩ := head_idx h
    have := hx _ h2
    rw [pEq_f (by omega), ifB_f, h1, bindO_s, bindO_s, pLen_d, pAdd_i (by omega) (by omega), pGt_d]
    congr 1
    apply decide_eq_decide.2
    omega
theorem bind_id {A R : Type} {m : Option A} {a : A} {f : A → Option R} (h : bindO m some = some a) : bindO m f = f a := by
  cases m with
  | none => cases h
  | some x => injection h with h; subst h; rfl
theorem spec_RingJoin_eq (N : Nat) (r : RingT) (p : List Int) (a : Bool) (hN : 301 < N) (h : ringOk N r) (hp : p.length ≤ 1048576) : spec_RingJoin N r p a = some (joinG r p a) := by
  have hpush := spec_RingPush_eq N r p hN h hp
  obtain ⟨q1, q2, q3, q4⟩ := h
  unfold spec_RingJoin joinG
  unfold rpushG at hpush
  rw [pLen_d]
  by_cases h1 : 400 < p.length
  · rw [pGt_t (by omega), ifB_t, if_pos h1]
  rw [if_neg h1] at hpush
  have hit : itemG p = (ptsG p && !decide (p.length = 0)) := by
    unfold itemG
    by_cases h0 : p.length = 0
    · rw [decide_eq_false (show ¬ 0 < p.length by omega), decide_eq_true h0]; simp
    · rw [decide_eq_true (show 0 < p.length by omega), decide_eq_false h0]; simp
  rw [pGt_f (by omega), ifB_f, if_neg h1, spec_RingRight_eq N hN, bindO_s, spec_PointsRight_eq N p hN, bindO_s, pNot_d, pNot_d, ifB_or, bindO_s]
  have e0 : pEq (p.length : Int) 0 = decide (p.length = 0) := by rw [pEq_d]; congr 1; simp
  have e3 : (!ptsG p || decide (p.length = 0)) = !itemG p := by rw [hit]; cases ptsG p <;> cases decide (p.length = 0) <;> rfl
  have ec : spec_l04Copy N r = some r := by
    unfold spec_l04Copy
    rw [copyAll_eq N r.1 (by omega) q1 (fun x hx => by have := q3 x hx; omega), bindO_s]
  rw [e0, ifB_or, bindO_s, Bool.or_assoc, e3, ec]
  cases hr : ringG r with
  | false => rfl
  | true =>
    cases hpt : itemG p with
    | false => rfl
    | true =>
      rw [hr, hpt] at hpush
      obtain ⟨g1, g2, g3, g4⟩ := ringG_iff.1 hr
      have hx3 : ∀ x ∈ r.1, x.length ≤ 300 := fun x hx => ptsG_len (itemG_pts (g2 x hx)).1
      simp only [Bool.not_true, Bool.or_false, Bool.and_true, ifB_f]
      rw [if_neg (by simp), bind_id (full_eq N r p (by omega) hx3)]
      by_cases h2 : r.1.length = 0 ∨ 300 < (headG r).length + p.length
      · rw [decide_eq_true h2, ifB_t, hpush, bindO_s, if_pos h2]; rfl
      · rw [decide_eq_false h2, ifB_f, if_neg h2, bindO_s]
        have h3 : r.1.length ≠ 0 := fun e => h2 (.inl e)
        obtain ⟨k1, k2⟩ := head_idx h3
        have := hx3 _ k2
        cases a with
        | true => rw [ifB_t, k1, bindO_s, copy_eq N p (by omega), bindO_s, pFit_t (by omega), ifB_t, bindO_s, bindO_s, if_pos rfl]; rfl
        | false => rw [ifB_f, k1, bindO_s, copy_eq N _ (by omega), bindO_s, pFit_t (by omega), ifB_t, bindO_s, bindO_s, if_neg (by simp)]; rfl
theorem impl_RingJoin_eq (N : Nat) (r : RingT) (p : List Int) (a : Bool) (hN : 401 < N) (h : ringOk N r) (hp : p.length ≤ 1048576) (hpN : p.length < N) : impl_RingJoin N r p a = some (joinG r p a) := by
  obtain ⟨q1, q2, q3, q4⟩ := h
  unfold impl_RingJoin joinG impl_isMany
  rw [pLen_d, bindO_s]
  by_cases h1 : 400 < p.length
  · rw [pGt_t (by omega), ifB_t, if_pos h1]
  rw [pGt_f (by omega), ifB_f, if_neg h1, impl_RingRight_eq N r q1 (by omega) (fun x hx => by have := q3 x hx; omega), bindO_s, impl_isItem_eq N p hpN (by omega), bindO_s, pNot_d, pNot_d, ifB_or, bindO_s]
  have ec : impl_ownRing N r = some r := by
    unfold impl_ownRing
    rw [ownLists_eq N r.1 (by omega) q1 (fun x hx => by have := q3 x hx; omega), bindO_s]
  rw [ec]
  cases hr : ringG r with
  | false => rfl
  | true =>
    cases hpt : itemG p with
    | false => rfl
    | true =>
      obtain ⟨g1, g2, g3, g4⟩ := ringG_iff.1 hr
      have hx3 : ∀ x ∈ r.1, x.length ≤ 300 := fun x hx => ptsG_len (itemG_pts (g2 x hx)).1
      simp only [Bool.not_true, Bool.or_false, Bool.and_true, ifB_f]
      rw [if_neg (by simp), bind_id (full_eq N r p (by omega) hx3)]
      by_cases h2 : r.1.length = 0 ∨ 300 < (headG r).length + p.length
      · rw [decide_eq_true h2, ifB_t, impl_push_eq N r p q1 q2 q3 hp (by omega), bindO_s, if_pos h2]
      · rw [decide_eq_false h2, ifB_f, if_neg h2, bindO_s]
        have h3 : r.1.length ≠ 0 := fun e => h2 (.inl e)
        obtain ⟨k1, k2⟩ := head_idx h3
        have := hx3 _ k2
        cases a with
        | true => rw [ifB_t, k1, bindO_s, concat2_eq N _ _ (by omega) (by omega), bindO_s, bindO_s, bindO_s, if_pos rfl]
        | false => rw [ifB_f, k1, bindO_s, concat2_eq N _ _ (by omega) (by omega), bindO_s, bindO_s, bindO_s, if_neg (by simp)]
theorem joinG_ok (N : Nat) (r : RingT) (p : List Int) (a : Bool) (hN : 1048600 < N) (h : ringOk N r) (hs : sumLen r.1 ≤ 1048600) (hp : p.length ≤ 1048576) : ringOk N (joinG r p a) := by
  have hg := rpushG_ok N r p hN h hs
  unfold rpushG at hg
  unfold joinG
  by_cases h1 : 400 < p.length
  · rw [if_pos h1] at hg ⊢; exact hg
  rw [if_neg h1] at hg ⊢
  by_cases h2 : (ringG r && itemG p) = false
  · rw [if_pos h2] at hg ⊢; exact hg
  rw [if_neg h2] at hg ⊢
  by_cases h3 : r.1.length = 0 ∨ 300 < (headG r).length + p.length
  · rw [if_pos h3]; exact hg
  rw [if_neg h3]
  obtain ⟨q1, q2, q3, q4⟩ := h
  have hne : r.1.length ≠ 0 := fun e => h3 (.inl e)
  have hl : (if a = true then p ++ headG r else headG r ++ p).length ≤ 300 := by
    split <;> simp only [List.length_append] <;> omega
  obtain ⟨x, xs, hx⟩ : ∃ x xs, r.1 = x :: xs := by
    cases e : r.1 with
    | nil => rw [e] at hne; exact absurd rfl hne
    | cons x xs => exact ⟨x, xs, rfl⟩
  have es : pSet r.1 0 (if a = true then p ++ headG r else headG r ++ p) = (if a = true then p ++ headG r else headG r ++ p) :: xs := by rw [hx]; rfl
  rw [es]
  rw [hx] at q1 q2 q3 hs
  rw [sumLen_c] at hs
  simp only [List.length_cons] at q1 q2
  refine ⟨by simp only [List.length_cons]; exact q1, by simp only [List.length_cons]; exact q2, fun y hy => ?_, ?_⟩
  · rcases List.mem_cons.1 hy with e | hy
    · rw [e]; omega
    · exact q3 y (List.mem_cons_of_mem _ hy)
  · rw [sumLen_c]; omega
theorem pure_FnExactRingJoin (r : RingT) (h : (r.1.length ≤ 9223372036854775807 ∧ ∀ x ∈ r.1, x.length ≤ 9223372036854775807 ∧ ∀ a ∈ x, IntKind.i64.min ≤ a ∧ a ≤ IntKind.i64.max) ∧ (IntKind.i64.min ≤ r.2.1 ∧ r.2.1 ≤ IntKind.i64.max) ∧ True) (p : List Int) (_h2 : p.length ≤ 9223372036854775807 ∧ ∀ a ∈ p, IntKind.i64.min ≤ a ∧ a ≤ IntKind.i64.max) (b : Bool) (_h3 : True) : ∃ N, laws_FnExactRingJoin N r p b = some true := by
  refine ⟨1048700, ?_⟩
  unfold laws_FnExactRingJoin
  rw [pLen_d]
  by_cases hp : p.length ≤ 1048576
  · unfold laws_szRing
    rw [pGt_f (by omega), ifB_f, szInt64SS_eq _ r.1 1048576 (by omega) (by omega) h.1.1 (fun x hx => (h.1.2 x hx).1) (by omega), bindO_s]
    by_cases hs : (1048576 : Int) - r.1.length - sumLen r.1 < 0
    · rw [if_pos hs]; rfl
    · rw [if_neg hs, pLt_f (by omega), ifB_f, bindO_s, pLt_f (by omega), ifB_f]
      have ho : ringOk 1048700 r := ⟨by omega, by omega, fun x hx => by have := mem_sum hx; omega, by omega⟩
      have hg := joinG_ok 1048700 r p b (by omega) ho (by omega) hp
      have c1 := toRing_eq _ r ho
      have c2 : laws_toInt64S 1048700 p = some p := toInt64S_eq _ p (by omega) (by omega)
      have c3 := spec_RingJoin_eq 1048700 r p b (by omega) ho (by omega)
      have c4 := impl_RingJoin_eq 1048700 r p b (by omega) ho (by omega) (by omega)
      have c5 := eqRing_self _ _ hg
      have c6 := eqRing_self _ _ ho
      have c7 : laws_eqInt64S 1048700 p p = some true := by rw [eqInt64S_eq _ _ _ (by omega) (by omega), decide_eq_true rfl]
      have c8 := markRing_eq _ _ ho
      have c9 : laws_markInt64S 1048700 p ((1 : Int) + sumLen r.1) = some ((1 : Int) + sumLen r.1 + p.length, cnt (1 + sumLen r.1) p.length) := markInt64S_eq _ p _ (by omega) (by omega) (by omega)
      have c10 := markRing_eq _ _ hg
      have c11 := heldRing_eq _ _ hg
      have e1 : pLt ((1 : Int) + sumLen (joinG r p b).1) 0 = false := pLt_f (by omega)
      have e2 : pNe ((1 : Int) + sumLen (joinG r p b).1) ((1 : Int) + sumLen (joinG r p b).1) = false := pNe_f rfl
      have e3 : pLt ((1 : Int) + sumLen r.1 + p.length) 0 = false := pLt_f (by omega)
      have e4 : pNot true = false := rfl
      simp only [c1, c2, c3, c4, c5, c6, c7, c8, c9, c10, c11, e1, e2, e3, e4, bindO_s, ifB_f]
  · rw [pGt_t (by omega), ifB_t]
end Go.AE.F
