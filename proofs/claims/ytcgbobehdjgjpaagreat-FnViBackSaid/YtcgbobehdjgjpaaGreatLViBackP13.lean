/- Plain laws of those functions. -/
import Derived.Test.YtcgbobehdjgjpaaGreatLViBackP12
namespace Go.AE.F
open Go.AE
theorem ib_eq (N : Nat) (t : ByteArray) {v : Int} (h : 0 ≤ v ∧ v ≤ 255) : zB9 N t v = some (match t.data.toList.findIdx? (fun b => b == v.toNat.toUInt8) with | some i => (i : Int) | none => -1) := by
  unfold zB9
  rfl
theorem pdyc {v : Int} (h : 0 ≤ v ∧ v ≤ 255) {R : Type} (N : Nat) (k : Int → Option R) (A B : Option R) (hk : k = fun y => ifB (pLt y 0) A B) :
    (bindO (zB9 N (ByteArray.mk #[100, 121, 99]) v) k) = if inDyc v then B else A := by
  have hd := ib_dyc v.toNat (by omega)
  rw [show ((v.toNat : Nat) : Int) = v by omega] at hd
  rw [ib_eq N _ h, bindO_s, hk]
  refine (congrArg (fun c => ifB c A B) hd).trans ?_
  by_cases hh : inDyc v
  · have : (decide (v.toNat = 100) || decide (v.toNat = 121) || decide (v.toNat = 99)) = true := by
      rcases hh with e | e | e <;> subst e <;> rfl
    rw [this, if_pos hh]; rfl
  · have : (decide (v.toNat = 100) || decide (v.toNat = 121) || decide (v.toNat = 99)) = false := by
      unfold inDyc at hh
      rw [decide_eq_false (show ¬ v.toNat = 100 by omega), decide_eq_false (show ¬ v.toNat = 121 by omega), decide_eq_false (show ¬ v.toNat = 99 by omega)]; rfl
    rw [this, if_neg hh]; rfl
def isCmd (v : Int) : Prop := v = 120 ∨ v = 112 ∨ v = 80 ∨ v = 105 ∨ v = 97 ∨ v = 65 ∨ v = 73 ∨ v = 126
instance (v : Int) : Decidable (isCmd v) := inferInstanceAs (Decidable (_ ∨ _))
theorem pcmd {v : Int} (h : 0 ≤ v ∧ v ≤ 255) (N : Nat) :
    (bindO (zB9 N (ByteArray.mk #[120, 112, 80, 105, 97, 65, 73, 126]) v) fun y => some (pLt y 0)) = some (!decide (isCmd v)) := by
  have hd := ib_cmd v.toNat (by omega)
  rw [show ((v.toNat : Nat) : Int) = v by omega] at hd
  rw [ib_eq N _ h, bindO_s]
  refine congrArg some (hd.trans (congrArg Bool.not ?_))
  by_cases hh : isCmd v
  · rw [decide_eq_true hh]
    rcases hh with e | e | e | e | e | e | e | e <;> subst e <;> rfl
  · rw [decide_eq_false hh]
    unfold isCmd at hh
    rw [decide_eq_false (show ¬ v.toNat = 120 by omega), decide_eq_false (show ¬ v.toNat = 112 by omega), decide_eq_false (show ¬ v.toNat = 80 by omega), decide_eq_false (show ¬ v.toNat = 105 by omega), decide_eq_false (show ¬ v.toNat = 97 by omega), decide_eq_false (show ¬ v.toNat = 65 by omega), decide_eq_false (show ¬ v.toNat = 73 by omega), decide_eq_false (show ¬ v.toNat = 126 by omega)]; rfl
theorem pmot {v : Int} (h : 0 ≤ v ∧ v ≤ 255) (N : Nat) :
    (bindO (zB9 N (ByteArray.mk #[104, 108, 98, 119, 48, 36]) v) fun y => some (pLt y 0)) = some (!decide (1 ≤ kindG v ∧ kindG v ≤ 6)) := by
  have hd := ib_mot v.toNat (by omega)
  rw [show ((v.toNat : Nat) : Int) = v by omega] at hd
  rw [ib_eq N _ h, bindO_s]
  refine congrArg some (hd.trans (congrArg Bool.not ?_))
  rw [Bool.decide_and]
def rdG (L : List Int) : CmdT × Int :=
  if (readG L).1 = L.length then (((readG L).2, (0, (0, ((((readG L).1 : Nat) : Int), ())))), 9)
  else if inDyc (L.getD (readG L).1 0) then
    (if (readG L).1 + 1 = L.length then (((readG L).2, (L.getD (readG L).1 0, (0, ((((readG L).1 + 1 : Nat) : Int), ())))), 9)
     else (((readG L).2, (L.getD (readG L).1 0, (L.getD ((readG L).1 + 1) 0, ((((readG L).1 + 2 : Nat) : Int), ())))),
      if L.getD ((readG L).1 + 1) 0 = L.getD (readG L).1 0 ∨ (1 ≤ kindG (L.getD ((readG L).1 + 1) 0) ∧ kindG (L.getD ((readG L).1 + 1) 0) ≤ 6) then 0 else 3))
  else (((readG L).2, (L.getD (readG L).1 0, (0, ((((readG L).1 + 1 : Nat) : Int), ())))),
    if kindG (L.getD (readG L).1 0) = 0 ∧ ¬ isCmd (L.getD (readG L).1 0) then 3 else 0)
theorem impl_readCommand_eq (N : Nat) (hN : 5 < N) (s : ByteArray) (hs : s.size ≤ 100000) : zAI N s = some (rdG (bl s)) := by
  obtain ⟨r1, r2, r3, r4⟩ := readG_ok (bl s)
  unfold zAI
  rw [impl_read N hN]
  simp only [psz]
  unfold rdG
  by_cases hd : (readG (bl s)).1 = (bl s).length
  · rw [pEq_t (by omega), ifB_t, if_pos hd]
  have ea : pAdd .i64 (((readG (bl s)).1 : Nat) : Int) 1 = (((readG (bl s)).1 + 1 : Nat) : Int) := by rw [pAdd_i (by omega) (by omega)]; omega
  have ea2 : pAdd .i64 (((readG (bl s)).1 + 1 : Nat) : Int) 1 = (((readG (bl s)).1 + 2 : Nat) : Int) := by rw [pAdd_i (by omega) (by omega)]; omega
  have hk := bl_rng s (readG (bl s)).1
  have ep : pConv .i64 ((bl s).getD (readG (bl s)).1 0) = (bl s).getD (readG (bl s)).1 0 := wrap_i64 (by omega) (by omega)
  rw [pEq_f (by omega), ifB_f, if_neg hd, bl_at (by omega), bindO_s, ea, ea2]
  refine (pdyc hk N _ _ _ rfl).trans ?_
  by_cases h1 : inDyc ((bl s).getD (readG (bl s)).1 0)
  · rw [if_pos h1, if_pos h1]
    by_cases h2 : (readG (bl s)).1 + 1 = (bl s).length
    · rw [pEq_t (by omega), ifB_t, if_pos h2]
    · rw [pEq_f (by omega), ifB_f, if_neg h2, bl_at (by omega), bindO_s, pmot (bl_rng s _)]
      by_cases h3 : (bl s).getD ((readG (bl s)).1 + 1) 0 = (bl s).getD (readG (bl s)).1 0
      · rw [pNe_f h3, ifB_f, bindO_s, ifB_f, if_pos (.inl h3)]
      · rw [pNe_t h3, ifB_t, bindO_s]
        by_cases h4 : 1 ≤ kindG ((bl s).getD ((readG (bl s)).1 + 1) 0) ∧ kindG ((bl s).getD ((readG (bl s)).1 + 1) 0) ≤ 6
        · rw [decide_eq_true h4, if_pos (.inr h4)]; rfl
        · rw [decide_eq_false h4, if_neg (fun h => h.elim h3 h4)]; rfl
  · rw [if_neg h1, if_neg h1, ep, implKind_eq, bindO_s, pcmd hk]
    by_cases h2 : kindG ((bl s).getD (readG (bl s)).1 0) = 0
    · rw [pEq_t h2, ifB_t, bindO_s]
      by_cases h3 : isCmd ((bl s).getD (readG (bl s)).1 0)
      · rw [decide_eq_true h3, if_neg (fun h => h.2 h3)]; rfl
      · rw [decide_eq_false h3, if_pos ⟨h2, h3⟩]; rfl
    · rw [pEq_f h2, ifB_f, bindO_s, ifB_f, if_neg (fun h => h2 h.1)]
theorem impl_do_eq (N : Nat) (hN : 2000 < N) (b : BufT) (r : RingT) (L : List Int) (hL : ∀ i, 0 ≤ L.getD i 0 ∧ L.getD i 0 ≤ 255) (hb : bufG b = true) (hr : ringG r = true) (U : Int) :
    ((rdG L).2 ≠ 0 → viM false b r L = failV (rdG L).2) ∧
    ((rdG L).2 = 0 → ∃ v', zAB N (b, (r, (false, (U, (0, ()))))) (rdG L).1 = some ((viM false b r L).2.2.2.2.1, v') ∧
      ((viM false b r L).2.2.2.2.1 = 0 → v' = wrapV (viM false b r L) U ∧ (viM false b r L).2.2.2.1 = (rdG L).1.2.2.2.1)) := by
  obtain ⟨r1, r2, r3, r4⟩ := readG_ok L
  obtain ⟨hp, h2, h3, h4, h5⟩ := bufG_iff.1 hb
  have hl := ptsG_len hp
  have hcur : b.2.1 = ((b.2.1.toNat : Nat) : Int) := by omega
  have s1 : zAJ N b b.2.1 = some (startG b.1 b.2.1.toNat : Int) := by
    have := impl_start N b b.2.1.toNat (by omega) hl (by omega); rwa [← hcur] at this
  have s2 : zAU N b b.2.1 = some (endG b.1 b.2.1.toNat : Int) := by
    have := impl_end N b b.2.1.toNat (by omega) hl (by omega); rwa [← hcur] at this
  have hk := hL (readG L).1
  have hk2 := hL ((readG L).1 + 1)
  unfold rdG viM
  by_cases hd : (readG L).1 = L.length
  · rw [if_pos hd, if_pos hd]
    exact ⟨fun _ => rfl, fun h => absurd h (by simp only []; omega)⟩
  rw [if_neg hd, if_neg hd]
  generalize (readG L).2 = c at *
  generalize L.getD ((readG L).1 + 1) 0 = a at *
  generalize L.getD (readG L).1 0 = k at *
  generalize (((readG L).1 + 1 : Nat) : Int) = u1 at *
  generalize (((readG L).1 + 2 : Nat) : Int) = u2 at *
  have fin0 : ∀ (b' : BufT) (r' : RingT) (i : Bool) (u : Int) (cm : CmdT), zAB N (b, (r, (false, (U, (0, ()))))) cm = some (0, okVi b' r' i U) → cm.2.2.2.1 = u →
      ((0 : Int) ≠ 0 → okVi b' r' i u = failV 0) ∧ ((0 : Int) = 0 → ∃ v', zAB N (b, (r, (false, (U, (0, ()))))) cm = some ((okVi b' r' i u).2.2.2.2.1, v') ∧
        ((okVi b' r' i u).2.2.2.2.1 = 0 → v' = wrapV (okVi b' r' i u) U ∧ (okVi b' r' i u).2.2.2.1 = cm.2.2.2.1)) := fun b' r' i u cm h e =>
    ⟨fun h => absurd rfl h, fun _ => ⟨_, h, fun _ => ⟨rfl, e.symm⟩⟩⟩
  have finop : ∀ (k a u : Int) (cm : CmdT), a = k ∨ (1 ≤ kindG a ∧ kindG a ≤ 6) → zAB N (b, (r, (false, (U, (0, ()))))) cm = some (0, vopV b r k a c U) → cm.2.2.2.1 = u →
      ((0 : Int) ≠ 0 → vopV b r k a c u = failV 0) ∧ ((0 : Int) = 0 → ∃ v', zAB N (b, (r, (false, (U, (0, ()))))) cm = some ((vopV b r k a c u).2.2.2.2.1, v') ∧
        ((vopV b r k a c u).2.2.2.2.1 = 0 → v' = wrapV (vopV b r k a c u) U ∧ (vopV b r k a c u).2.2.2.1 = cm.2.2.2.1)) := fun k a u cm ha h e => by
    have hc : (vopV b r k a c u).2.2.2.2.1 = 0 ∧ (vopV b r k a c u).2.2.2.1 = u := by
      unfold vopV
      by_cases h1 : a = k
      · rw [if_pos h1]; exact ⟨rfl, rfl⟩
      · rw [if_neg h1, if_pos (ha.resolve_left h1)]; exact ⟨rfl, rfl⟩
    exact ⟨fun h => absurd rfl h, fun _ => ⟨_, by rw [h, hc.1], fun _ => ⟨(wrap_opV b r k a c u U).symm, by rw [hc.2, e]⟩⟩⟩
  by_cases h1 : inDyc k
  · rw [if_pos h1, if_pos h1]
    by_cases h2 : (readG L).1 + 1 = L.length
    · rw [if_pos h2, if_pos h2]
      exact ⟨fun _ => rfl, fun h => absurd h (by simp only []; omega)⟩
    rw [if_neg h2, if_neg h2]
    by_cases h3 : a = k ∨ (1 ≤ kindG a ∧ kindG a ≤ 6)
    · rw [if_pos h3]
      exact finop k a u2 _ h3 (do_op N hN b r hb hr U c k a u2 h1 hk2 ⟨r3, r4⟩ h3) rfl
    · rw [if_neg h3]
      refine ⟨fun _ => ?_, fun h => absurd h (by simp only []; omega)⟩
      unfold vopV
      rw [if_neg (fun h => h3 (.inl h)), if_neg (fun h => h3 (.inr h))]
  rw [if_neg h1, if_neg h1]
  by_cases k0 : kindG k = 0
  · have e2 : pGt (kindG (pConv .i64 k)) 0 = false := by
      rw [show pConv .i64 k = k from wrap_i64 (by omega) (by omega), k0]; rfl
    by_cases hc : isCmd k
    · rw [if_neg (fun h => h.2 hc)]
      by_cases k4 : k = 120
      · subst k4
        rw [if_pos rfl]
        exact finop 100 108 u1 _ (.inr (by decide)) (do_x N hN b r hb hr U c u1 ⟨r3, r4⟩) rfl
      rw [if_neg k4]
      by_cases k5 : k = 112 ∨ k = 80
      · rw [if_pos k5]
        refine ⟨fun h => absurd rfl h, fun _ => ?_⟩
        obtain ⟨v', q1, q2⟩ := do_put N hN b r hb hr U c k u1 k5 ⟨r3, r4⟩
        have ec : (putV b r k c U).2.2.2.2.1 = (putV b r k c u1).2.2.2.2.1 := by unfold putV; split <;> rfl
        refine ⟨v', by rw [q1, ec], fun h => ⟨?_, ?_⟩⟩
        · rw [wrap_putV]; exact q2 (by rw [ec]; exact h)
        · unfold putV at h ⊢
          by_cases hh : (yanks r c.toNat (putB b k)).1 = 0
          · rw [if_pos hh]; rfl
          · rw [if_neg hh] at h; exact absurd h hh
      rw [if_neg k5]
      by_cases k6 : k = 126
      · subst k6
        rw [if_pos rfl]
        exact fin0 _ _ _ u1 _ (do_tilde N hN b r hb U c u1 ⟨r3, r4⟩) rfl
      rw [if_neg k6]
      have n4 : pEq k 120 = false := pEq_f k4
      have n5 : pEq k 112 = false := pEq_f (fun h => k5 (.inl h))
      have n6 : pEq k 80 = false := pEq_f (fun h => k5 (.inr h))
      have n7 : pEq k 126 = false := pEq_f k6
      have n8 : pNe (0 : Int) 0 = false := rfl
      have hst : ∀ X, (if k = 97 then some (Sum.inl (β := Int × VT × Unit) (((b.1, ((minG b.1.length (b.2.1 + 1)), b.2.2)), (r, (true, (U, (0, ()))))), ())) else if k = 65 then some (.inl (((b.1, ((endG b.1 b.2.1.toNat : Int), b.2.2)), (r, (true, (U, (0, ()))))), ())) else if k = 73 then some (.inl (((b.1, ((startG b.1 b.2.1.toNat : Int), b.2.2)), (r, (true, (U, (0, ()))))), ())) else some (.inl ((b, (r, (true, (U, (0, ()))))), ()))) = some (Sum.inl (β := Int × VT × Unit) (X, ())) →
          zAB N (b, (r, (false, (U, (0, ()))))) (c, (k, (0, (u1, ())))) = some (0, X) := fun X hX => by
        unfold zAB
        rw [implKind_eq, bindO_s]
        simp only []
        rw [e2, ifB_f, n4, ifB_f, n8, bindO_s, ifB_f, n5, ifB_f, n6, bindO_s, ifB_f, n7, ifB_f]
        rw [impl_size_eq N b.1 (by omega), bindO_s, pMin_eq, pAdd_i (by omega) (by omega), minG_comm, s1, s2, bindO_s, bindO_s]
        rw [pEq_d, pEq_d, pEq_d, ifB_dec, ifB_dec, ifB_dec]
        have hX : _ = some (Sum.inl (β := Int × VT × Unit) (X, ())) := hX
        rw [hX, bindO_s]
        rfl
      by_cases k7 : k = 105
      · rw [if_pos k7]
        exact fin0 b r true u1 (c, (k, (0, (u1, ())))) (hst _ (by rw [if_neg (by omega), if_neg (by omega), if_neg (by omega)]; rfl)) rfl
      rw [if_neg k7]
      by_cases k8 : k = 97
      · rw [if_pos k8]
        exact fin0 _ r true u1 (c, (k, (0, (u1, ())))) (hst _ (by rw [if_pos k8]; rfl)) rfl
      rw [if_neg k8]
      by_cases k9 : k = 65
      · rw [if_pos k9]
        exact fin0 _ r true u1 (c, (k, (0, (u1, ())))) (hst _ (by rw [if_neg k8, if_pos k9]; rfl)) rfl
      rw [if_neg k9]
      by_cases k10 : k = 73
      · rw [if_pos k10]
        exact fin0 _ r true u1 (c, (k, (0, (u1, ())))) (hst _ (by rw [if_neg k8, if_neg k9, if_pos k10]; rfl)) rfl
      exfalso
      unfold isCmd at hc
      omega
    · rw [if_pos ⟨k0, hc⟩]
      unfold isCmd at hc
      refine ⟨fun _ => ?_, fun h => absurd h (by simp only []; omega)⟩
      rw [if_neg (by omega), if_neg (by omega), if_neg (by omega), if_neg (by omega), if_neg (by omega), if_neg (by omega), if_neg (by omega), if_pos k0]
  · rw [if_neg (fun h => k0 h.1)]
    have hne : ∀ v : Int, kindG v = 0 → k ≠ v := fun v hv e => k0 (by rw [e]; exact hv)
    rw [if_neg (hne 120 rfl), if_neg (fun h => h.elim (hne 112 rfl) (hne 80 rfl)), if_neg (hne 126 rfl), if_neg (hne 105 rfl), if_neg (hne 97 rfl), if_neg (hne 65 rfl), if_neg (hne 73 rfl), if_neg k0]
    exact fin0 _ r false u1 (c, (k, (0, (u1, ())))) (do_mot N hN b r hb (false, (U, (0, ()))) c k 0 u1 hk ⟨r3, r4⟩ k0) rfl
end Go.AE.F
namespace Go.AE.F
open Go.AE
theorem opG_right {b : BufT} {r : RingT} (hb : bufG b = true) (hr : ringG r = true) (k i j u : Int) (h0 : 0 ≤ i) (h1 : i ≤ j) (h2 : j ≤ b.1.length) : bufG (vcutG b r k i j u).1 = true ∧ ringG (vcutG b r k i j u).2.1 = true := by
  refine ⟨?_, rpush_right hr (sub_pts hb i j)⟩
  show bufG (if k = 121 then (b.1, (i, b.2.2)) else delB b i j) = true
  obtain ⟨k1, k2, k3, k4, k5⟩ := bufG_iff.1 hb
  split
  · exact bufG_iff.2 ⟨k1, h0, by show i ≤ (b.1.length : Int); omega, k4, k5⟩
  · exact (delB_ok hb h0 h1 h2).1
theorem cur_right {b : BufT} (hb : bufG b = true) {c : Int} (h0 : 0 ≤ c) (h1 : c ≤ b.1.length) : bufG (b.1, (c, b.2.2)) = true := by
  obtain ⟨k1, k2, k3, k4, k5⟩ := bufG_iff.1 hb
  exact bufG_iff.2 ⟨k1, h0, h1, k4, k5⟩
theorem opV_right {b : BufT} {r : RingT} (hb : bufG b = true) (hr : ringG r = true) (k a c u : Int) (hc : 1 ≤ c ∧ c ≤ 999) (h : (vopV b r k a c u).2.2.2.2.1 = 0) : bufG (vopV b r k a c u).1 = true ∧ ringG (vopV b r k a c u).2.1 = true ∧ (vopV b r k a c u).2.2.2.1 = u := by
  unfold vopV at h ⊢
  by_cases h1 : a = k
  · rw [if_pos h1] at h ⊢
    obtain ⟨q0, q1, q2⟩ := se_in hb
    obtain ⟨x, y⟩ := opG_right (u := u) hb hr k _ _ q0 q1 q2
    exact ⟨x, y, rfl⟩
  · rw [if_neg h1] at h ⊢
    by_cases h2 : 1 ≤ kindG a ∧ kindG a ≤ 6
    · rw [if_pos h2] at h ⊢
      have hm := motG_in b hb (kindG a) c (by omega) (by omega)
      obtain ⟨q0, q1, q2⟩ := mm_in hb hm.1 hm.2
      obtain ⟨x, y⟩ := opG_right (u := u) hb hr k _ _ q0 q1 q2
      exact ⟨x, y, rfl⟩
    · rw [if_neg h2] at h
      exact absurd h (by show ¬ (3 : Int) = 0; omega)
theorem putB_right {b : BufT} (hb : bufG b = true) (k : Int) : bufG (putB b k) = true := by
  obtain ⟨k1, k2, k3, k4, k5⟩ := bufG_iff.1 hb
  unfold putB
  split
  · refine cur_right hb ?_ ?_ <;> unfold minG <;> split <;> omega
  · exact hb
theorem tildeV_right {b : BufT} (hb : bufG b = true) (t : Bool) (r : RingT) (c u : Int) (hc : 1 ≤ c) : bufG (tildeV t b r c u).1 = true := by
  obtain ⟨k1, k2, k3, k4, k5⟩ := bufG_iff.1 hb
  obtain ⟨e1, e2⟩ := endT_in hb hc
  obtain ⟨o1, o2, _⟩ := ptsT_ok hb hc
  refine bufG_iff.2 ⟨o2, ?_, ?_, ?_, ?_⟩
  · show 0 ≤ endT b c; omega
  · show endT b c ≤ ((ptsT b c).length : Int); rw [o1]; exact e2
  · show 0 ≤ (if t = true then mvG b.2.2.1 b.2.1 (endT b c) 0 else b.2.2.1)
    unfold mvG; split <;> (try split) <;> (try split) <;> omega
  · show (if t = true then mvG b.2.2.1 b.2.1 (endT b c) 0 else b.2.2.1) ≤ ((ptsT b c).length : Int)
    rw [o1]; unfold mvG; split <;> (try split) <;> (try split) <;> omega
theorem viM_right {b : BufT} {r : RingT} (hb : bufG b = true) (hr : ringG r = true) (t : Bool) (L : List Int) (h : (viM t b r L).2.2.2.2.1 = 0) :
    bufG (viM t b r L).1 = true ∧ ringG (viM t b r L).2.1 = true ∧ 1 ≤ (viM t b r L).2.2.2.1 ∧ (viM t b r L).2.2.2.1 ≤ L.length := by
  obtain ⟨r1, r2, r3, r4⟩ := readG_ok L
  obtain ⟨k1, k2, k3, k4, k5⟩ := bufG_iff.1 hb
  obtain ⟨q0, q1, q2⟩ := se_in hb
  unfold viM at h ⊢
  generalize (readG L).2 = c at *
  generalize L.getD ((readG L).1 + 1) 0 = a at *
  generalize L.getD (readG L).1 0 = k at *
  by_cases hd : (readG L).1 = L.length
  · rw [if_pos hd] at h; exact absurd h (by show ¬ (9 : Int) = 0; omega)
  rw [if_neg hd] at h ⊢
  by_cases h1 : inDyc k
  · rw [if_pos h1] at h ⊢
    by_cases h2 : (readG L).1 + 1 = L.length
    · rw [if_pos h2] at h; exact absurd h (by show ¬ (9 : Int) = 0; omega)
    rw [if_neg h2] at h ⊢
    obtain ⟨x, y, z⟩ := opV_right hb hr k a c _ ⟨r3, r4⟩ h
    exact ⟨x, y, by rw [z]; omega, by rw [z]; omega⟩
  rw [if_neg h1] at h ⊢
  by_cases h2 : k = 120
  · rw [if_pos h2] at h ⊢
    obtain ⟨x, y, z⟩ := opV_right hb hr 100 108 c _ ⟨r3, r4⟩ h
    exact ⟨x, y, by rw [z]; omega, by rw [z]; omega⟩
  rw [if_neg h2] at h ⊢
  by_cases h3 : k = 112 ∨ k = 80
  · rw [if_pos h3] at h ⊢
    unfold putV at h ⊢
    by_cases h4 : (yanks r c.toNat (putB b k)).1 = 0
    · rw [if_pos h4]
      exact ⟨yanks_right hr _ _ (putB_right hb k), hr, by show (1 : Int) ≤ (((readG L).1 + 1 : Nat) : Int); omega, by show (((readG L).1 + 1 : Nat) : Int) ≤ _; omega⟩
    · rw [if_neg h4] at h; exact absurd h h4
  rw [if_neg h3] at h ⊢
  have hu : (1 : Int) ≤ (((readG L).1 + 1 : Nat) : Int) ∧ (((readG L).1 + 1 : Nat) : Int) ≤ (L.length : Int) := ⟨by omega, by omega⟩
  by_cases h4 : k = 126
  · rw [if_pos h4]; exact ⟨tildeV_right hb t r c _ r3, hr, hu.1, hu.2⟩
  rw [if_neg h4] at h ⊢
  by_cases h5 : k = 105
  · rw [if_pos h5]; exact ⟨hb, hr, hu.1, hu.2⟩
  rw [if_neg h5] at h ⊢
  by_cases h6 : k = 97
  · rw [if_pos h6]; exact ⟨cur_right hb (by unfold minG; split <;> omega) (by unfold minG; split <;> omega), hr, hu.1, hu.2⟩
  rw [if_neg h6] at h ⊢
  by_cases h7 : k = 65
  · rw [if_pos h7]; exact ⟨cur_right hb (by omega) q2, hr, hu.1, hu.2⟩
  rw [if_neg h7] at h ⊢
  by_cases h8 : k = 73
  · rw [if_pos h8]; exact ⟨cur_right hb (by omega) (by omega), hr, hu.1, hu.2⟩
  rw [if_neg h8] at h ⊢
  by_cases h9 : kindG k = 0
  · rw [if_pos h9] at h; exact absurd h (by show ¬ (3 : Int) = 0; omega)
  rw [if_neg h9]
  have hm := motG_in b hb (kindG k) c (by have := kindG_rng k; omega) (by omega)
  exact ⟨cur_right hb hm.1 hm.2, hr, hu.1, hu.2⟩
end Go.AE.F
namespace Go.AE.F
open Go.AE
theorem okV_eta {y : VT} (h : y.2.2.2.2.1 = 0) : y = okVi y.1 y.2.1 y.2.2.1 y.2.2.2.1 := by
  obtain ⟨b, r, i, u, c, w⟩ := y
  have h : c = 0 := h
  subst h
  rfl
theorem impl_ViDo_eq (N : Nat) (hN : 2000 < N) (s : ByteArray) (hs : (bl s).length ≤ 20000) (b : BufT) (r : RingT) (hb : bufG b = true) (hr : ringG r = true) :
    ∃ y, zCQ N b r s = some y ∧ y.2.2.2.2.1 = (viM false b r (bl s)).2.2.2.2.1 ∧ ((viM false b r (bl s)).2.2.2.2.1 = 0 → y = viM false b r (bl s)) := by
  unfold zCQ
  have hlg : (s.data.toList.length : Int) = ((bl s).length : Int) := by unfold bl; rw [List.length_map]
  have hl := ptsG_len (bufG_iff.1 hb).1
  have hro := ringOk_of (N := N) (by omega) hr
  have hri : zBG N r = some (ringG r) := impl_RingRight_eq N r (by have := (ringG_iff.1 hr).1; omega) (by have := (ringG_iff.1 hr).1; omega) (fun x hx => by have := ptsG_len (itemG_pts ((ringG_iff.1 hr).2.1 x hx)).1; omega)
  have hss : s.size ≤ 100000 := by have := psz s; unfold pSize at this; omega
  rw [isLong_one N s (by omega), hlg, decide_eq_false (by omega), bindO_s, ifB_f, impl_BufRight_eq N b (by omega) (by omega), bindO_s, hri, bindO_s, hb, hr]
  rw [show pNot true = false from rfl, ifB_f, bindO_s, ifB_f, impl_readCommand_eq N (by omega) s hss, bindO_s, own1 N b (by omega), bindO_s, ownr N (by omega) r hr, bindO_s]
  have hst := impl_do_eq N hN b r (bl s) (bl_rng s) hb hr (rdG (bl s)).1.2.2.2.1
  by_cases he : (rdG (bl s)).2 = 0
  · obtain ⟨v', q1, q2⟩ := hst.2 he
    rw [pEq_t he, ifB_t, q1, bindO_s]
    by_cases hc : (viM false b r (bl s)).2.2.2.2.1 = 0
    · obtain ⟨q3, q4⟩ := q2 hc
      obtain ⟨g1, g2, g3, g4⟩ := viM_right hb hr false _ hc
      have hl2 := ptsG_len (bufG_iff.1 g1).1
      have ev : v' = viM false b r (bl s) := by
        rw [q3, ← q4]
        unfold wrapV
        rw [if_pos hc]
      rw [pNe_f hc, ifB_f, ev]
      simp only []
      rw [own1 N _ (by omega), bindO_s, ownr N (by omega) _ g2, bindO_s]
      refine ⟨_, rfl, ?_, fun _ => ?_⟩
      · exact hc.symm
      · have := okV_eta hc
        generalize viM false b r (bl s) = y at *
        rw [this]; rfl
    · rw [pNe_t hc, ifB_t]
      exact ⟨_, rfl, rfl, fun h => absurd h hc⟩
  · have hf := hst.1 he
    rw [pEq_f he, ifB_f, pNe_t he, ifB_t]
    refine ⟨_, rfl, by rw [hf]; rfl, fun h => ?_⟩
    rw [hf] at h; exact absurd h he
end Go.AE.F
