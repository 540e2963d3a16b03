/- Plain laws of those functions. -/
import Derived.Test.YtjidbkkiehifaaaGreatLViP11
namespace Go.AE.F
open Go.AE
theorem do_mot (N : Nat) (hN : 2000 < N) (b : BufT) (r : RingT) (hb : bufG b = true) (q : Bool × Int × Int × Unit) (c k a u : Int) (hk : 0 ≤ k ∧ k ≤ 255) (hc : 1 ≤ c ∧ c ≤ 999) (h : kindG k ≠ 0) :
    zAA N (b, (r, q)) (c, (k, (a, (u, ())))) = some (0, ((b.1, (motG b (kindG k) c 0, b.2.2)), (r, q))) := by
  have ep : pConv .i64 k = k := wrap_i64 (by omega) (by omega)
  have hr := kindG_rng k
  unfold zAA
  rw [ep, implKind_eq, bindO_s, pGt_t (by omega), ifB_t, motion_eq N b hb _ c (by omega) (by omega) (by omega), bindO_s, bindO_s]
  rfl
theorem do_op (N : Nat) (hN : 2000 < N) (b : BufT) (r : RingT) (hb : bufG b = true) (hr : ringG r = true) (U c k a u : Int) (hk : inDyc k) (ha : 0 ≤ a ∧ a ≤ 255) (hc : 1 ≤ c ∧ c ≤ 999) (h : a = k ∨ (1 ≤ kindG a ∧ kindG a ≤ 6)) :
    zAA N (b, (r, (false, (U, (0, ()))))) (c, (k, (a, (u, ())))) = some (0, vopV b r k a c U) := by
  obtain ⟨_, h2, h3, _⟩ := bufG_iff.1 hb
  have hl := ptsG_len (bufG_iff.1 hb).1
  have hcur : b.2.1 = ((b.2.1.toNat : Nat) : Int) := by omega
  have s1 : zAJ N b b.2.1 = some (startG b.1 b.2.1.toNat : Int) := by
    have := impl_start N b b.2.1.toNat (by omega) hl (by omega); rwa [← hcur] at this
  have s2 : zAT N b b.2.1 = some (endG b.1 b.2.1.toNat : Int) := by
    have := impl_end N b b.2.1.toNat (by omega) hl (by omega); rwa [← hcur] at this
  have hk0 : kindG k = 0 ∧ k ≠ 120 ∧ k ≠ 0 ∧ 0 ≤ k ∧ k ≤ 255 := by
    rcases hk with rfl | rfl | rfl <;> exact ⟨by decide, by omega, by omega, by omega, by omega⟩
  have ha0 : a ≠ 0 := by
    rcases h with h | h
    · rw [h]; exact hk0.2.2.1
    · intro e; rw [e] at h; exact absurd h.1 (by decide)
  have ep : pConv .i64 k = k := wrap_i64 (by omega) (by omega)
  have ep2 : pConv .i64 a = a := wrap_i64 (by omega) (by omega)
  have fin : ∀ (i j : Int), 0 ≤ minG i j → minG i j ≤ maxG i j → maxG i j ≤ b.1.length → (bindO (zC4 N (b, (r, (false, (U, (0, ()))))) (pMin i j) (pMax i j) (pEq k 121)) fun y100 => some (Sum.inl (β := Int × VT × Unit) (((y100.1, (y100.2.1, ((pEq k 99), y100.2.2.2))) : VT), ()))) = some (.inl (vcutG b r k (minG i j) (maxG i j) U, ())) := fun i j q0 q1 q2 => by
    rw [pMin_eq, pMax_eq, impl_cut_eq N hN b r _ hb hr _ _ _ q0 q1 q2, bindO_s]
    unfold vcutG okVi
    rw [pEq_d, pEq_d]
    by_cases h : k = 121
    · rw [decide_eq_true h, if_pos h]; rfl
    · rw [decide_eq_false h, if_neg h]; rfl
  unfold zAA vopV
  rw [ep, implKind_eq, bindO_s, hk0.1, pGt_f (by omega), ifB_f, pEq_f hk0.2.1, ifB_f, bindO_s, pNe_t ha0, ifB_t, ifB_f]
  by_cases h1 : a = k
  · rw [pEq_t h1, ifB_t, s1, bindO_s, s2, bindO_s, bindO_s, if_pos h1]
    obtain ⟨q0, q1, q2⟩ := se_in hb
    have e1 : minG (startG b.1 b.2.1.toNat : Int) (endG b.1 b.2.1.toNat : Int) = (startG b.1 b.2.1.toNat : Int) := by unfold minG; split <;> omega
    have e2 : maxG (startG b.1 b.2.1.toNat : Int) (endG b.1 b.2.1.toNat : Int) = (endG b.1 b.2.1.toNat : Int) := by unfold maxG; split <;> omega
    have := fin (startG b.1 b.2.1.toNat : Int) (endG b.1 b.2.1.toNat : Int) (by rw [e1]; exact q0) (by rw [e1, e2]; exact q1) (by rw [e2]; exact q2)
    rw [e1, e2] at this
    simp only [] at this ⊢
    rw [this, bindO_s]
    rfl
  · have h4 : 1 ≤ kindG a ∧ kindG a ≤ 6 := h.resolve_left h1
    have hm := motG_in b hb (kindG a) c (by omega) (by omega)
    obtain ⟨q0, q1, q2⟩ := mm_in hb hm.1 hm.2
    rw [pEq_f h1, ifB_f, ep2, implKind_eq, bindO_s, motion_eq N b hb _ c (by omega) (by omega) (by omega), bindO_s, bindO_s, if_neg h1, if_pos h4]
    have := fin b.2.1 (motG b (kindG a) c 0) q0 q1 q2
    simp only [] at this ⊢
    rw [this, bindO_s]
    rfl
theorem do_x (N : Nat) (hN : 2000 < N) (b : BufT) (r : RingT) (hb : bufG b = true) (hr : ringG r = true) (U c u : Int) (hc : 1 ≤ c ∧ c ≤ 999) :
    zAA N (b, (r, (false, (U, (0, ()))))) (c, (120, (0, (u, ())))) = some (0, vopV b r 100 108 c U) := by
  have hm := motG_in b hb 2 c (by omega) (by omega)
  obtain ⟨q0, q1, q2⟩ := mm_in hb hm.1 hm.2
  have e1 : vopV b r 100 108 c U = vcutG b r 100 (minG b.2.1 (motG b 2 c 0)) (maxG b.2.1 (motG b 2 c 0)) U := by
    unfold vopV; rw [if_neg (by omega), if_pos (show 1 ≤ kindG 108 ∧ kindG 108 ≤ 6 by decide)]; rfl
  rw [e1]
  unfold zAA
  rw [implKind_eq, bindO_s]
  have e2 : pGt (kindG (pConv .i64 120)) 0 = false := rfl
  have e3 : pEq (120 : Int) 120 = true := rfl
  simp only []
  rw [e2, ifB_f, e3, ifB_t, bindO_s, ifB_t, ifB_t, motion_eq N b hb 2 c (by omega) (by omega) (by omega), bindO_s, bindO_s, pMin_eq, pMax_eq, impl_cut_eq N hN b r _ hb hr _ _ _ q0 q1 q2, bindO_s, bindO_s]
  rfl
theorem do_put (N : Nat) (hN : 2000 < N) (b : BufT) (r : RingT) (hb : bufG b = true) (hr : ringG r = true) (U c k u : Int) (hk : k = 112 ∨ k = 80) (hc : 1 ≤ c ∧ c ≤ 999) :
    ∃ v', zAA N (b, (r, (false, (U, (0, ()))))) (c, (k, (0, (u, ())))) = some ((putV b r k c U).2.2.2.2.1, v') ∧ ((putV b r k c U).2.2.2.2.1 = 0 → v' = putV b r k c U) := by
  obtain ⟨hp, h2, h3, h4, h5⟩ := bufG_iff.1 hb
  have hl := ptsG_len hp
  have ecc : c = ((c.toNat : Nat) : Int) := by omega
  have hbb : bufG (putB b k) = true := by
    unfold putB
    split
    · refine bufG_iff.2 ⟨hp, ?_, ?_, h4, h5⟩
      · show 0 ≤ minG (b.2.1 + 1) b.1.length; unfold minG; split <;> omega
      · show minG (b.2.1 + 1) b.1.length ≤ (b.1.length : Int); unfold minG; split <;> omega
    · exact hb
  obtain ⟨b', hq⟩ := impl_puts (N := N) hN r hr (false, (U, (0, ()))) c.toNat (by omega) (onSum (fun d => let x107 := d.1; some (Sum.inl (β := Int × VT × Unit) (x107, ()))) (fun d => let x108 := d.1; let x109 := d.2.1; some (.inr (x108, x109, ())))) c.toNat 0 N (putB b k) (by omega) (by omega) (by omega) hbb
  rw [← ecc] at hq
  have e0 : ((0 : Nat) : Int) = 0 := rfl
  rw [e0] at hq
  unfold zAA putV
  rw [implKind_eq, bindO_s]
  have main : ∀ (X : Option ((VT × Unit) ⊕ (Int × VT × Unit))), X = loopP (zAA.l26 N) N (c, 0, (putB b k, (r, (false, (U, (0, ()))))), ()) (onSum (fun d => let x107 := d.1; some (Sum.inl (β := Int × VT × Unit) (x107, ()))) (fun d => let x108 := d.1; let x109 := d.2.1; some (.inr (x108, x109, ())))) →
      ∃ v', (bindO X (onSum (fun d => let x132 := d.1; some ((0 : Int), x132)) (fun d => let x133 := d.1; let x134 := d.2.1; some (x133, x134)))) = some ((if (yanks r c.toNat (putB b k)).1 = 0 then okVi (yanks r c.toNat (putB b k)).2 r false U else failV (yanks r c.toNat (putB b k)).1).2.2.2.2.1, v') ∧
        ((if (yanks r c.toNat (putB b k)).1 = 0 then okVi (yanks r c.toNat (putB b k)).2 r false U else failV (yanks r c.toNat (putB b k)).1).2.2.2.2.1 = 0 → v' = (if (yanks r c.toNat (putB b k)).1 = 0 then okVi (yanks r c.toNat (putB b k)).2 r false U else failV (yanks r c.toNat (putB b k)).1)) := fun X hX => by
    rw [hX, hq]
    by_cases h : (yanks r c.toNat (putB b k)).1 = 0
    · rw [if_pos h, if_pos h]
      exact ⟨_, rfl, fun _ => rfl⟩
    · rw [if_neg h, if_neg h]
      exact ⟨_, rfl, fun e => absurd e h⟩
  rcases hk with rfl | rfl
  · have e1 : putB b 112 = (b.1, (minG (b.2.1 + 1) b.1.length, b.2.2)) := if_pos rfl
    have e2 : pGt (kindG (pConv .i64 112)) 0 = false := rfl
    have e3 : pEq (112 : Int) 120 = false := rfl
    have e4 : pNe (0 : Int) 0 = false := rfl
    have e5 : pEq (112 : Int) 112 = true := rfl
    simp only []
    rw [e2, ifB_f, e3, ifB_f, e4, bindO_s, ifB_f, e5, ifB_t, bindO_s, ifB_t, ifB_t, impl_size_eq N b.1 (by omega), bindO_s, pMin_eq, pAdd_i (by omega) (by omega)]
    exact main _ (by rw [e1])
  · have e1 : putB b 80 = b := if_neg (by omega)
    have e2 : pGt (kindG (pConv .i64 80)) 0 = false := rfl
    have e3 : pEq (80 : Int) 120 = false := rfl
    have e4 : pNe (0 : Int) 0 = false := rfl
    have e5 : pEq (80 : Int) 112 = false := rfl
    have e6 : pEq (80 : Int) 80 = true := rfl
    simp only []
    rw [e2, ifB_f, e3, ifB_f, e4, bindO_s, ifB_f, e5, ifB_f, e6, bindO_s, ifB_t, ifB_f]
    exact main _ (by rw [e1])
theorem do_tilde (N : Nat) (hN : 2000 < N) (b : BufT) (r : RingT) (hb : bufG b = true) (U c u : Int) (hc : 1 ≤ c ∧ c ≤ 999) :
    zAA N (b, (r, (false, (U, (0, ()))))) (c, (126, (0, (u, ())))) = some (0, tildeV false b r c U) := by
  obtain ⟨hp, h2, h3, h4, h5⟩ := bufG_iff.1 hb
  have hl := ptsG_len hp
  obtain ⟨e1, e2⟩ := endT_in hb hc.1
  have hlt : ((b.1.take (endT b c).toNat).drop b.2.1.toNat).length = (endT b c).toNat - b.2.1.toNat := by simp only [List.length_drop, List.length_take]; omega
  have hla : (b.1.take b.2.1.toNat).length = b.2.1.toNat := by rw [List.length_take]; omega
  have hlp := swap_loop (N := N) (b.1.take b.2.1.toNat) ((b.1.take (endT b c).toNat).drop b.2.1.toNat) (b.1.drop (endT b c).toNat) (by rw [hla, hlt, List.length_drop]; omega) b.2 (r, (false, (U, (0, ())))) (fun d => let x127 := d.1; let x128 := d.2.1; some (Sum.inl (β := Int × VT × Unit) ((((x128.1.1, (x127, x128.1.2.2)), x128.2) : VT), ()))) _ 0 N rfl (by omega) (by rw [hlt]; omega)
  have eL : b.1.take b.2.1.toNat ++ ((List.map swapG ((b.1.take (endT b c).toNat).drop b.2.1.toNat)).take 0 ++ ((b.1.take (endT b c).toNat).drop b.2.1.toNat).drop 0) ++ b.1.drop (endT b c).toNat = b.1 := by
    rw [List.take_zero, List.nil_append, List.drop_zero]
    have : b.1.take b.2.1.toNat = (b.1.take (endT b c).toNat).take b.2.1.toNat := by rw [List.take_take, Nat.min_eq_left (by omega)]
    rw [this, List.take_append_drop, List.take_append_drop]
  rw [eL, hla, hlt, show ((b.2.1.toNat + ((endT b c).toNat - b.2.1.toNat) : Nat) : Int) = endT b c by omega, show ((b.2.1.toNat + 0 : Nat) : Int) = b.2.1 by omega] at hlp
  unfold zAA
  rw [implKind_eq, bindO_s]
  have a2 : pGt (kindG (pConv .i64 126)) 0 = false := rfl
  have a3 : pEq (126 : Int) 120 = false := rfl
  have a4 : pNe (0 : Int) 0 = false := rfl
  have a5 : pEq (126 : Int) 112 = false := rfl
  have a6 : pEq (126 : Int) 80 = false := rfl
  have a7 : pEq (126 : Int) 126 = true := rfl
  have a8 : pMin (pAdd .i64 b.2.1 c) (b.1.length : Int) = endT b c := by rw [pMin_eq, pAdd_i (by omega) (by omega), minG_comm]; rfl
  simp only []
  rw [a2, ifB_f, a3, ifB_f, a4, bindO_s, ifB_f, a5, ifB_f, a6, bindO_s, ifB_f, a7, ifB_t, impl_size_eq N b.1 (by omega), bindO_s, clone_eq N b.1 (by omega), bindO_s, a8]
  have hlp : loopP (zAA.l36 N) N (endT b c, b.2.1, ((b.1, b.2), (r, (false, (U, (0, ()))))), ()) (fun d => let x127 := d.1; let x128 := d.2.1; some (Sum.inl (β := Int × VT × Unit) ((((x128.1.1, (x127, x128.1.2.2)), x128.2) : VT), ()))) = _ := hlp
  rw [hlp, bindO_s]
  rfl
end Go.AE.F
