/- Plain laws of those functions. -/
import Derived.Test.YtcgbobehdjgjpaaGreatLViBackP6
namespace Go.AE.F
open Go.AE
abbrev OutT := BufT × List Int × Int × Unit
def mvG (p a b d : Int) : Int := if p ≤ a then p else if p < b then a else p + d
def failG (c : Int) : OutT := (([], (0, (0, ()))), ([], (c, ())))
def replG (b : BufT) (i j : Int) (ps : List Int) : OutT :=
  if i < 0 ∨ j < i ∨ (b.1.length : Int) < j then failG 8 else
  if 300 < (b.1.length : Int) - (j - i) + ps.length then failG 5 else
  ((sub b.1 0 i ++ ps ++ sub b.1 j b.1.length, ((if i = j ∧ b.2.1 = i then i + ps.length else mvG b.2.1 i j (ps.length - (j - i))), (mvG b.2.2.1 i j (ps.length - (j - i)), ()))), (sub b.1 i j, (0, ())))
theorem spec_moved_eq (N : Nat) (p a b d : Int) (h1 : -4611686018427387904 ≤ p + d) (h2 : p + d ≤ 4611686018427387904) : zC4 N p a b d = some (mvG p a b d) := by
  unfold zC4 mvG
  by_cases e1 : p ≤ a
  · rw [pLe_t e1, ifB_t, if_pos e1]
  · rw [pLe_f (by omega), ifB_f, if_neg e1]
    by_cases e2 : p < b
    · rw [pLt_t e2, ifB_t, if_pos e2]
    · rw [pLt_f (by omega), ifB_f, if_neg e2, pAdd_i (by omega) (by omega)]
theorem impl_moved_eq (N : Nat) (p a b d : Int) (h1 : -4611686018427387904 ≤ p + d) (h2 : p + d ≤ 4611686018427387904) : zBS N p a b d = some (mvG p a b d) := by
  unfold zBS mvG
  by_cases e1 : p ≤ a
  · rw [pLe_t e1, ifB_t, if_pos e1]
  · rw [pLe_f (by omega), ifB_f, if_neg e1]
    by_cases e2 : p < b
    · rw [pLt_t e2, ifB_t, if_pos e2]
    · rw [pLt_f (by omega), ifB_f, if_neg e2, pAdd_i (by omega) (by omega)]
theorem sub_len {A : Type} (x : List A) (i j : Int) (h0 : 0 ≤ i) (h1 : i ≤ j) (h2 : j ≤ x.length) : ((sub x i j).length : Int) = j - i := by
  unfold sub
  simp only [List.length_drop, List.length_take]
  omega
theorem grow_eq (N : Nat) (n : Int) (h0 : 0 ≤ n) (h1 : n ≤ 68719476736) : zB0 N [] n = some [] := by
  unfold zB0
  simp only [pLen_d, List.length_nil]
  rw [pLt_f (by omega), ifB_f]
  have e : pSub .i64 n (pSub .i64 0 ((0 : Nat) : Int)) = n := by
    rw [pSub_i (a := 0) (by omega) (by omega), pSub_i (by omega) (by omega)]; omega
  rw [e]
  by_cases h : n > 0
  · rw [pGt_t h, ifB_t, pEq_t rfl, ifB_t, ifB_t, pLe_t h0, ifB_t, pLe_t h1, ifB_t, pLe_t (Int.le_refl _), ifB_t, pLe_t (by omega), ifB_t, pLe_t (by omega), ifB_t]
    rfl
  · rw [pGt_f (by omega), ifB_f]
theorem concat3_eq (N : Nat) (x y z : List Int) (h : x.length + y.length + z.length ≤ 100000) (hN : 4 ≤ N) : zA3 N [x, y, z] = some (x ++ y ++ z) := by
  obtain ⟨M, rfl⟩ : ∃ M, N = M + 4 := ⟨N - 4, by omega⟩
  unfold zA3
  have i0 : idx [x, y, z] 0 = some x := rfl
  have i1 : idx [x, y, z] (0 + 1) = some y := rfl
  have i2 : idx [x, y, z] (0 + 1 + 1) = some z := rfl
  have l3 : pLen [x, y, z] = 3 := rfl
  simp only [loopP_s, zA3.l3, zA3.l11, l3]
  have a1 : pAdd .i64 0 (1 : Int) = 0 + 1 := rfl
  have a2 : pAdd .i64 (0 + 1) (1 : Int) = 0 + 1 + 1 := rfl
  have a3 : pAdd .i64 (0 + 1 + 1) (1 : Int) = 3 := rfl
  have b1 : pLt 0 3 = true := rfl
  have b2 : pLt (0 + 1) 3 = true := rfl
  have b3 : pLt (0 + 1 + 1) 3 = true := rfl
  have b4 : pLt 3 3 = false := rfl
  have s1 : pAdd .i64 0 (pLen x) = x.length := by rw [pLen_d, pAdd_i (by omega) (by omega)]; omega
  have s2 : pAdd .i64 (x.length : Int) (pLen y) = x.length + y.length := by rw [pLen_d, pAdd_i (by omega) (by omega)]
  have s3 : pAdd .i64 ((x.length : Int) + y.length) (pLen z) = x.length + y.length + z.length := by rw [pLen_d, pAdd_i (by omega) (by omega)]
  have p1 : pLt (x.length : Int) 0 = false := pLt_f (by omega)
  have p2 : pLt ((x.length : Int) + y.length) 0 = false := pLt_f (by omega)
  have p3 : pLt ((x.length : Int) + y.length + z.length) 0 = false := pLt_f (by omega)
  have g : zB0 (M + 4) [] ((x.length : Int) + y.length + z.length) = some [] := grow_eq _ _ (by omega) (by omega)
  have f1 : pFit ([] : List Int) x = true := pFit_t (by simp; omega)
  have f2 : pFit (pApp [] x) y = true := pFit_t (by simp [pApp]; omega)
  have f3 : pFit (pApp (pApp [] x) y) z = true := pFit_t (by simp [pApp]; omega)
  simp only [b1, ifB_t, i0, bindO_s, s1, p1, ifB_f, a1, b2, i1, s2, p2, a2, b3, i2, s3, p3, a3, b4, g, f1, f2, f3]
  rfl
theorem impl_replace_eq (N : Nat) (b : BufT) (i j : Int) (ps : List Int) (hb : bufG b = true) (hp : ps.length ≤ 4000) (hi : -4611686018427387904 ≤ i ∧ i ≤ 4611686018427387904) (hj : -4611686018427387904 ≤ j ∧ j ≤ 4611686018427387904) (hN : 4 ≤ N) :
    zC0 N b i j ps = some (replG b i j ps) := by
  obtain ⟨h1, h2, h3, h4, h5⟩ := bufG_iff.1 hb
  have hl := ptsG_len h1
  unfold zC0 replG
  rw [impl_size_eq N b.1 (by omega), impl_size_eq N ps (by omega)]
  simp only [bindO_s]
  by_cases e1 : i < 0
  · rw [pLt_t e1, ifB_t, if_pos (Or.inl e1)]; rfl
  rw [pLt_f (by omega), ifB_f]
  by_cases e2 : j < i
  · rw [pGt_t e2, ifB_t, if_pos (Or.inr (Or.inl e2))]; rfl
  rw [pGt_f (by omega), ifB_f]
  by_cases e3 : (b.1.length : Int) < j
  · rw [pGt_t e3, ifB_t, if_pos (Or.inr (Or.inr e3))]; rfl
  rw [pGt_f (by omega), ifB_f, if_neg (by omega)]
  have d1 : pSub .i64 j i = j - i := pSub_i (by omega) (by omega)
  have d2 : pSub .i64 (ps.length : Int) (j - i) = ps.length - (j - i) := pSub_i (by omega) (by omega)
  have d3 : pAdd .i64 (b.1.length : Int) (ps.length - (j - i)) = b.1.length + (ps.length - (j - i)) := pAdd_i (by omega) (by omega)
  rw [d1, d2, d3]
  by_cases e4 : 300 < (b.1.length : Int) - (j - i) + ps.length
  · rw [pGt_t (by omega), ifB_t, if_pos e4]; rfl
  rw [pGt_f (by omega), ifB_f, if_neg e4]
  simp only [pLen_d]
  have l1 := sub_len b.1 0 i (by omega) (by omega) (by omega)
  have l2 := sub_len b.1 j b.1.length (by omega) (by omega) (by omega)
  have l3 := sub_len b.1 i j (by omega) (by omega) (by omega)
  have q1 : pLe 0 0 = true := rfl
  have q2 : pLe 0 i = true := pLe_t (by omega)
  have q3 : pLe i (b.1.length : Int) = true := pLe_t (by omega)
  have q4 : pLe 0 j = true := pLe_t (by omega)
  have q5 : pLe j (b.1.length : Int) = true := pLe_t (by omega)
  have q6 : pLe (b.1.length : Int) (b.1.length : Int) = true := pLe_t (Int.le_refl _)
  have q7 : pLe i j = true := pLe_t (by omega)
  have c := concat3_eq N (sub b.1 0 i) ps (sub b.1 j b.1.length) (by omega) hN
  have k := clone_eq N (sub b.1 i j) (by omega)
  have m1 := impl_moved_eq N b.2.1 i j (ps.length - (j - i)) (by omega) (by omega)
  have m2 := impl_moved_eq N b.2.2.1 i j (ps.length - (j - i)) (by omega) (by omega)
  have a1 : pAdd .i64 i (ps.length : Int) = i + ps.length := pAdd_i (by omega) (by omega)
  simp only [q1, q2, q3, q4, q5, q6, q7, ifB_t, c, k, m1, m2, bindO_s, a1]
  by_cases e5 : i = j
  · by_cases e6 : b.2.1 = i
    · rw [pEq_t e5, ifB_t, bindO_s, pEq_t e6, ifB_t, if_pos ⟨e5, e6⟩]
    · rw [pEq_t e5, ifB_t, bindO_s, pEq_f e6, ifB_f, if_neg (fun h => e6 h.2)]
  · rw [pEq_f e5, ifB_f, bindO_s, ifB_f, if_neg (fun h => e5 h.1)]
theorem spec_Replace_eq (N : Nat) (b : BufT) (i j : Int) (ps : List Int) (hb : bufG b = true) (hp : ptsG ps = true) (hi : -4611686018427387904 ≤ i ∧ i ≤ 4611686018427387904) (hj : -4611686018427387904 ≤ j ∧ j ≤ 4611686018427387904) (hN : 301 < N) :
    zBA N b i j ps = some (replG b i j ps) := by
  obtain ⟨h1, h2, h3, h4, h5⟩ := bufG_iff.1 hb
  have hl := ptsG_len h1
  have hpl := ptsG_len hp
  unfold zBA replG
  rw [spec_BufRight_eq N b hN, spec_PointsRight_eq N ps hN, hb, hp]
  have n1 : pNot true = false := rfl
  have g1 : pGt (ps.length : Int) 400 = false := pGt_f (by omega)
  simp only [pLen_d, bindO_s, n1, ifB_f, g1]
  by_cases e1 : i < 0
  · rw [pLt_t e1, ifB_t, bindO_s, ifB_t, bindO_s, ifB_t, if_pos (Or.inl e1)]; rfl
  rw [pLt_f (by omega), ifB_f, bindO_s]
  by_cases e2 : j < i
  · rw [pGt_t e2, ifB_t, bindO_s, ifB_t, if_pos (Or.inr (Or.inl e2))]; rfl
  rw [pGt_f (by omega), ifB_f, bindO_s]
  by_cases e3 : (b.1.length : Int) < j
  · rw [pGt_t e3, ifB_t, if_pos (Or.inr (Or.inr e3))]; rfl
  rw [pGt_f (a := j) (by omega), ifB_f, if_neg (by omega)]
  have d1 : pSub .i64 j i = j - i := pSub_i (by omega) (by omega)
  have d2 : pSub .i64 (ps.length : Int) (j - i) = ps.length - (j - i) := pSub_i (by omega) (by omega)
  have d3 : pSub .i64 (b.1.length : Int) (j - i) = b.1.length - (j - i) := pSub_i (by omega) (by omega)
  have d4 : pAdd .i64 ((b.1.length : Int) - (j - i)) ps.length = b.1.length - (j - i) + ps.length := pAdd_i (by omega) (by omega)
  rw [d1, d2, d3, d4]
  by_cases e4 : 300 < (b.1.length : Int) - (j - i) + ps.length
  · rw [pGt_t (by omega), ifB_t, if_pos e4]; rfl
  rw [pGt_f (by omega), ifB_f, if_neg e4]
  have l1 := sub_len b.1 0 i (by omega) (by omega) (by omega)
  have l2 := sub_len b.1 j b.1.length (by omega) (by omega) (by omega)
  have l3 := sub_len b.1 i j (by omega) (by omega) (by omega)
  have q1 : pLe 0 0 = true := rfl
  have q2 : pLe 0 i = true := pLe_t (by omega)
  have q3 : pLe i (b.1.length : Int) = true := pLe_t (by omega)
  have q4 : pLe 0 j = true := pLe_t (by omega)
  have q5 : pLe j (b.1.length : Int) = true := pLe_t (by omega)
  have q6 : pLe (b.1.length : Int) (b.1.length : Int) = true := pLe_t (Int.le_refl _)
  have q7 : pLe i j = true := pLe_t (by omega)
  have c := copy_eq N (sub b.1 0 i) (by omega)
  have k := copy_eq N (sub b.1 i j) (by omega)
  have m1 := spec_moved_eq N b.2.1 i j (ps.length - (j - i)) (by omega) (by omega)
  have m2 := spec_moved_eq N b.2.2.1 i j (ps.length - (j - i)) (by omega) (by omega)
  have a1 : pAdd .i64 i (ps.length : Int) = i + ps.length := pAdd_i (by omega) (by omega)
  have f1 : pFit (sub b.1 0 i) ps = true := pFit_t (by omega)
  have f2 : pFit (pApp (sub b.1 0 i) ps) (sub b.1 j b.1.length) = true := pFit_t (by simp only [pApp, List.length_append]; omega)
  simp only [q1, q2, q3, q4, q5, q6, q7, ifB_t, c, k, m1, m2, bindO_s, a1, f1, f2]
  by_cases e5 : i = j
  · by_cases e6 : b.2.1 = i
    · rw [pEq_t e5, ifB_t, bindO_s, pEq_t e6, ifB_t, if_pos ⟨e5, e6⟩]; rfl
    · rw [pEq_t e5, ifB_t, bindO_s, pEq_f e6, ifB_f, if_neg (fun h => e6 h.2)]; rfl
  · rw [pEq_f e5, ifB_f, bindO_s, ifB_f, if_neg (fun h => e5 h.1)]; rfl
theorem ptsG_sub {x y : List Int} (h : ptsG x = true) (hs : y.Sublist x) : ptsG y = true := by
  unfold ptsG at h ⊢
  simp only [Bool.and_eq_true, decide_eq_true_eq, List.all_eq_true] at h ⊢
  exact ⟨Nat.le_trans hs.length_le h.1, fun a ha => h.2 a (hs.subset ha)⟩
theorem sub_sublist {A : Type} (x : List A) (i j : Int) : (sub x i j).Sublist x := by
  unfold sub
  exact (List.drop_sublist _ _).trans (List.take_sublist _ _)
end Go.AE.F
namespace Go.AE.F
open Go.AE
theorem replG_ok {b : BufT} {ps : List Int} (hb : bufG b = true) (hp : ptsG ps = true) (h0 : (replG b b.2.1 b.2.1 ps).2.2.1 = 0) :
    replG b b.2.1 b.2.1 ps = ((b.1.take b.2.1.toNat ++ ps ++ b.1.drop b.2.1.toNat, (((b.2.1.toNat + ps.length : Nat) : Int), (mvG b.2.2.1 b.2.1 b.2.1 ps.length, ()))), ([], (0, ()))) ∧ b.1.length + ps.length ≤ 300 := by
  obtain ⟨h1, h2, h3, h4, h5⟩ := bufG_iff.1 hb
  have hl := ptsG_len h1
  unfold replG at h0 ⊢
  rw [if_neg (by omega)] at h0 ⊢
  by_cases h : 300 < (b.1.length : Int) - (b.2.1 - b.2.1) + ps.length
  · rw [if_pos h] at h0; exact absurd h0 (by simp [failG])
  · rw [if_neg h, if_pos ⟨rfl, rfl⟩]
    refine ⟨?_, by omega⟩
    have e1 : sub b.1 0 b.2.1 = b.1.take b.2.1.toNat := by unfold sub; rfl
    have e2 : sub b.1 b.2.1 (b.1.length : Int) = b.1.drop b.2.1.toNat := by unfold sub; simp
    have e3 : sub b.1 b.2.1 b.2.1 = [] := by unfold sub; simp
    have e4 : (b.2.1 : Int) + ps.length = ((b.2.1.toNat + ps.length : Nat) : Int) := by omega
    have e5 : (ps.length : Int) - (b.2.1 - b.2.1) = ps.length := by omega
    rw [e1, e2, e3, e4, e5]
theorem ptsG_app {x y : List Int} (hx : ptsG x = true) (hy : ptsG y = true) (hl : x.length + y.length ≤ 300) : ptsG (x ++ y) = true := by
  unfold ptsG at hx hy ⊢
  simp only [Bool.and_eq_true, decide_eq_true_eq, List.all_eq_true, List.mem_append, List.length_append] at hx hy ⊢
  exact ⟨hl, fun a ha => ha.elim (hx.2 a) (hy.2 a)⟩
theorem ins_right {b : BufT} {ps : List Int} (hb : bufG b = true) (hp : ptsG ps = true) (hl : b.1.length + ps.length ≤ 300) (c : Int) (h0 : 0 ≤ c) (h1 : c ≤ b.1.length + ps.length) :
    bufG (b.1.take b.2.1.toNat ++ ps ++ b.1.drop b.2.1.toNat, (c, (mvG b.2.2.1 b.2.1 b.2.1 ps.length, ()))) = true := by
  obtain ⟨k1, k2, k3, k4, k5⟩ := bufG_iff.1 hb
  have hln : (b.1.take b.2.1.toNat ++ ps ++ b.1.drop b.2.1.toNat).length = b.1.length + ps.length := by simp; omega
  refine bufG_iff.2 ⟨?_, h0, ?_, ?_, ?_⟩
  · refine ptsG_app (ptsG_app (ptsG_sub k1 (List.take_sublist _ _)) hp ?_) (ptsG_sub k1 (List.drop_sublist _ _)) ?_
    · simp; omega
    · simp; omega
  · show c ≤ ((b.1.take b.2.1.toNat ++ ps ++ b.1.drop b.2.1.toNat).length : Int); rw [hln]; omega
  · unfold mvG; simp only; split <;> (try split) <;> omega
  · rw [hln]; unfold mvG; simp only; split <;> (try split) <;> omega
end Go.AE.F
