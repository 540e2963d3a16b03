/- Plain laws of those functions. -/
import Derived.Test.YtjidbkkiehifaaaGreatLViP12
namespace Go.AE.F
open Go.AE
theorem ib_eq (N : Nat) (t : ByteArray) {v : Int} (h : 0 ≤ v ∧ v ≤ 255) : zBC N t v = some (match t.data.toList.findIdx? (fun b => b == v.toNat.toUInt8) with | some i => (i : Int) | none => -1) := by
  unfold zBC
  rfl
theorem pdyc {v : Int} (h : 0 ≤ v ∧ v ≤ 255) {R : Type} (N : Nat) (k : Int → Option R) (A B : Option R) (hk : k = fun y => ifB (pLt y 0) A B) :
    (bindO (zBC N (ByteArray.mk #[100, 121, 99]) v) k) = if inDyc v then B else A := by
  have hd := ib_dyc v.toNat (by omega)
  rw [show ((v.toNat : Nat) : Int) = v by omega] at hd
  rw [ib_eq N _ h, bindO_s, hk]
  refine (congrArg (fun c => ifB c A B) hd).trans ?_
  by_cases hh : inDyc v
  · have : (decide (v.toNat = 100) || decide (v.toNat = 121) || decide (v.toNat = 99)) = true := by
      rcases hh with e | e | e <;> subst e <;> rfl
    rw [this, if_pos hh]; rfl
  · have : (decide (v.toNat = 100) || decide (v.toNat = 121) || decide (v.toNat = 99)) = false := by
      unfold inDyc at hh
      rw [decide_eq_false (show ¬ v.toNat = 100 by omega), decide_eq_false (show ¬ v.toNat = 121 by omega), decide_eq_false (show ¬ v.toNat = 99 by omega)]; rfl
    rw [this, if_neg hh]; rfl
def isCmd (v : Int) : Prop := v = 120 ∨ v = 112 ∨ v = 80 ∨ v = 105 ∨ v = 97 ∨ v = 65 ∨ v = 73 ∨ v = 126
instance (v : Int) : Decidable (isCmd v) := inferInstanceAs (Decidable (_ ∨ _))
theorem pcmd {v : Int} (h : 0 ≤ v ∧ v ≤ 255) (N : Nat) :
    (bindO (zBC N (ByteArray.mk #[120, 112, 80, 105, 97, 65, 73, 126]) v) fun y => some (pLt y 0)) = some (!decide (isCmd v)) := by
  have hd := ib_cmd v.toNat (by omega)
  rw [show ((v.toNat : Nat) : Int) = v by omega] at hd
  rw [ib_eq N _ h, bindO_s]
  refine congrArg some (hd.trans (congrArg Bool.not ?_))
  by_cases hh : isCmd v
  · rw [decide_eq_true hh]
    rcases hh with e | e | e | e | e | e | e | e <;> subst e <;> rfl
  · rw [decide_eq_false hh]
    unfold isCmd at hh
    rw [decide_eq_false (show ¬ v.toNat = 120 by omega), decide_eq_false (show ¬ v.toNat = 112 by omega), decide_eq_false (show ¬ v.toNat = 80 by omega), decide_eq_false (show ¬ v.toNat = 105 by omega), decide_eq_false (show ¬ v.toNat = 97 by omega), decide_eq_false (show ¬ v.toNat = 65 by omega), decide_eq_false (show ¬ v.toNat = 73 by omega), decide_eq_false (show ¬ v.toNat = 126 by omega)]; rfl
theorem pmot {v : Int} (h : 0 ≤ v ∧ v ≤ 255) (N : Nat) :
    (bindO (zBC N (ByteArray.mk #[104, 108, 98, 119, 48, 36]) v) fun y => some (pLt y 0)) = some (!decide (1 ≤ kindG v ∧ kindG v ≤ 6)) := by
  have hd := ib_mot v.toNat (by omega)
  rw [show ((v.toNat : Nat) : Int) = v by omega] at hd
  rw [ib_eq N _ h, bindO_s]
  refine congrArg some (hd.trans (congrArg Bool.not ?_))
  rw [Bool.decide_and]
def rdG (L : List Int) : CmdT × Int :=
  if (readG L).1 = L.length then (((readG L).2, (0, (0, ((((readG L).1 : Nat) : Int), ())))), 9)
  else if inDyc (L.getD (readG L).1 0) then
    (if (readG L).1 + 1 = L.length then (((readG L).2, (L.getD (readG L).1 0, (0, ((((readG L).1 + 1 : Nat) : Int), ())))), 9)
     else (((readG L).2, (L.getD (readG L).1 0, (L.getD ((readG L).1 + 1) 0, ((((readG L).1 + 2 : Nat) : Int), ())))),
      if L.getD ((readG L).1 + 1) 0 = L.getD (readG L).1 0 ∨ (1 ≤ kindG (L.getD ((readG L).1 + 1) 0) ∧ kindG (L.getD ((readG L).1 + 1) 0) ≤ 6) then 0 else 3))
  else (((readG L).2, (L.getD (readG L).1 0, (0, ((((readG L).1 + 1 : Nat) : Int), ())))),
    if kindG (L.getD (readG L).1 0) = 0 ∧ ¬ isCmd (L.getD (readG L).1 0) then 3 else 0)
theorem impl_readCommand_eq (N : Nat) (hN : 5 < N) (s : ByteArray) (hs : s.size ≤ 100000) : zAI N s = some (rdG (bl s)) := by
  obtain ⟨r1, r2, r3, r4⟩ := readG_ok (bl s)
  unfold zAI
  rw [impl_read N hN]
  simp only [psz]
  unfold rdG
  by_cases hd : (readG (bl s)).1 = (bl s).length
  · rw [pEq_t (by omega), ifB_t, if_pos hd]
  have ea : pAdd .i64 (((readG (bl s)).1 : Nat) : Int) 1 = (((readG (bl s)).1 + 1 : Nat) : Int) := by rw [pAdd_i (by omega) (by omega)]; omega
  have ea2 : pAdd .i64 (((readG (bl s)).1 + 1 : Nat) : Int) 1 = (((readG (bl s)).1 + 2 : Nat) : Int) := by rw [pAdd_i (by omega) (by omega)]; omega
  have hk := bl_rng s (readG (bl s)).1
  have ep : pConv .i64 ((bl s).getD (readG (bl s)).1 0) = (bl s).getD (readG (bl s)).1 0 := wrap_i64 (by omega) (by omega)
  rw [pEq_f (by omega), ifB_f, if_neg hd, bl_at (by omega), bindO_s, ea, ea2]
  refine (pdyc hk N _ _ _ rfl).trans ?_
  by_cases h1 : inDyc ((bl s).getD (readG (bl s)).1 0)
  · rw [if_pos h1, if_pos h1]
    by_cases h2 : (readG (bl s)).1 + 1 = (bl s).length
    · rw [pEq_t (by omega), ifB_t, if_pos h2]
    · rw [pEq_f (by omega), ifB_f, if_neg h2, bl_at (by omega), bindO_s, pmot (bl_rng s _)]
      by_cases h3 : (bl s).getD ((readG (bl s)).1 + 1) 0 = (bl s).getD (readG (bl s)).1 0
      · rw [pNe_f h3, ifB_f, bindO_s, ifB_f, if_pos (.inl h3)]
      · rw [pNe_t h3, ifB_t, bindO_s]
        by_cases h4 : 1 ≤ kindG ((bl s).getD ((readG (bl s)).1 + 1) 0) ∧ kindG ((bl s).getD ((readG (bl s)).1 + 1) 0) ≤ 6
        · rw [decide_eq_true h4, if_pos (.inr h4)]; rfl
        · rw [decide_eq_false h4, if_neg (fun h => h.elim h3 h4)]; rfl
  · rw [if_neg h1, if_neg h1, ep, implKind_eq, bindO_s, pcmd hk]
    by_cases h2 : kindG ((bl s).getD (readG (bl s)).1 0) = 0
    · rw [pEq_t h2, ifB_t, bindO_s]
      by_cases h3 : isCmd ((bl s).getD (readG (bl s)).1 0)
      · rw [decide_eq_true h3, if_neg (fun h => h.2 h3)]; rfl
      · rw [decide_eq_false h3, if_pos ⟨h2, h3⟩]; rfl
    · rw [pEq_f h2, ifB_f, bindO_s, ifB_f, if_neg (fun h => h2 h.1)]
theorem impl_do_eq (N : Nat) (hN : 2000 < N) (b : BufT) (r : RingT) (L : List Int) (hL : ∀ i, 0 ≤ L.getD i 0 ∧ L.getD i 0 ≤ 255) (hb : bufG b = true) (hr : ringG r = true) (U : Int) :
    ((rdG L).2 ≠ 0 → viM false b r L = failV (rdG L).2) ∧
    ((rdG L).2 = 0 → ∃ v', zAA N (b, (r, (false, (U, (0, ()))))) (rdG L).1 = some ((viM false b r L).2.2.2.2.1, v') ∧
      ((viM false b r L).2.2.2.2.1 = 0 → v' = wrapV (viM false b r L) U ∧ (viM false b r L).2.2.2.1 = (rdG L).1.2.2.2.1)) := by
  obtain ⟨r1, r2, r3, r4⟩ := readG_ok L
  obtain ⟨hp, h2, h3, h4, h5⟩ := bufG_iff.1 hb
  have hl := ptsG_len hp
  have hcur : b.2.1 = ((b.2.1.toNat : Nat) : Int) := by omega
  have s1 : zAJ N b b.2.1 = some (startG b.1 b.2.1.toNat : Int) := by
    have := impl_start N b b.2.1.toNat (by omega) hl (by omega); rwa [← hcur] at this
  have s2 : zAT N b b.2.1 = some (endG b.1 b.2.1.toNat : Int) := by
    have := impl_end N b b.2.1.toNat (by omega) hl (by omega); rwa [← hcur] at this
  have hk := hL (readG L).1
  have hk2 := hL ((readG L).1 + 1)
  unfold rdG viM
  by_cases hd : (readG L).1 = L.length
  · rw [if_pos hd, if_pos hd]
    exact ⟨fun _ => rfl, fun h => absurd h (by simp only []; omega)⟩
  rw [if_neg hd, if_neg hd]
  generalize (readG L).2 = c at *
  generalize L.getD ((readG L).1 + 1) 0 = a at *
  generalize L.getD (readG L).1 0 = k at *
  generalize (((readG L).1 + 1 : Nat) : Int) = u1 at *
  generalize (((readG L).1 + 2 : Nat) : Int) = u2 at *
  have fin0 : ∀ (b' : BufT) (r' : RingT) (i : Bool) (u : Int) (cm : CmdT), zAA N (b, (r, (false, (U, (0, ()))))) cm = some (0, okVi b' r' i U) → cm.2.2.2.1 = u →
      ((0 : Int) ≠ 0 → okVi b' r' i u = failV 0) ∧ ((0 : Int) = 0 → ∃ v', zAA N (b, (r, (false, (U, (0, ()))))) cm = some ((okVi b' r' i u).2.2.2.2.1, v') ∧
        ((okVi b' r' i u).2.2.2.2.1 = 0 → v' = wrapV (okVi b' r' i u) U ∧ (okVi b' r' i u).2.2.2.1 = cm.2.2.2.1)) := fun b' r' i u cm h e =>
    ⟨fun h => absurd rfl h, fun _ => ⟨_, h, fun _ => ⟨rfl, e.symm⟩⟩⟩
  have finop : ∀ (k a u : Int) (cm : CmdT), a = k ∨ (1 ≤ kindG a ∧ kindG a ≤ 6) → zAA N (b, (r, (false, (U, (0, ()))))) cm = some (0, vopV b r k a c U) → cm.2.2.2.1 = u →
      ((0 : Int) ≠ 0 → vopV b r k a c u = failV 0) ∧ ((0 : Int) = 0 → ∃ v', zAA N (b, (r, (false, (U, (0, ()))))) cm = some ((vopV b r k a c u).2.2.2.2.1, v') ∧
        ((vopV b r k a c u).2.2.2.2.1 = 0 → v' = wrapV (vopV b r k a c u) U ∧ (vopV b r k a c u).2.2.2.1 = cm.2.2.2.1)) := fun k a u cm ha h e => by
    have hc : (vopV b r k a c u).2.2.2.2.1 = 0 ∧ (vopV b r k a c u).2.2.2.1 = u := by
      unfold vopV
      by_cases h1 : a = k
      · rw [if_pos h1]; exact ⟨rfl, rfl⟩
      · rw [if_neg h1, if_pos (ha.resolve_left h1)]; exact ⟨rfl, rfl⟩
    exact ⟨fun h => absurd rfl h, fun _ => ⟨_, by rw [h, hc.1], fun _ => ⟨(wrap_opV b r k a c u U).symm, by rw [hc.2, e]⟩⟩⟩
  by_cases h1 : inDyc k
  · rw [if_pos h1, if_pos h1]
    by_cases h2 : (readG L).1 + 1 = L.length
    · rw [if_pos h2, if_pos h2]
      exact ⟨fun _ => rfl, fun h => absurd h (by simp only []; omega)⟩
    rw [if_neg h2, if_neg h2]
    by_cases h3 : a = k ∨ (1 ≤ kindG a ∧ kindG a ≤ 6)
    · rw [if_pos h3]
      exact finop k a u2 _ h3 (do_op N hN b r hb hr U c k a u2 h1 hk2 ⟨r3, r4⟩ h3) rfl
    · rw [if_neg h3]
      refine ⟨fun _ => ?_, fun h => absurd h (by simp only []; omega)⟩
      unfold vopV
      rw [if_neg (fun h => h3 (.inl h)), if_neg (fun h => h3 (.inr h))]
  rw [if_neg h1, if_neg h1]
  by_cases k0 : kindG k = 0
  · have e2 : pGt (kindG (pConv .i64 k)) 0 = false := by
      rw [show pConv .i64 k = k from wrap_i64 (by omega) (by omega), k0]; rfl
    by_cases hc : isCmd k
    · rw [if_neg (fun h => h.2 hc)]
      by_cases k4 : k = 120
      · subst k4
        rw [if_pos rfl]
        exact finop 100 108 u1 _ (.inr (by decide)) (do_x N hN b r hb hr U c u1 ⟨r3, r4⟩) rfl
      rw [if_neg k4]
      by_cases k5 : k = 112 ∨ k = 80
      · rw [if_pos k5]
        refine ⟨fun h => absurd rfl h, fun _ => ?_⟩
        obtain ⟨v', q1, q2⟩ := do_put N hN b r hb hr U c k u1 k5 ⟨r3, r4⟩
        have ec : (putV b r k c U).2.2.2.2.1 = (putV b r k c u1).2.2.2.2.1 := by unfold putV; split <;> rfl
        refine ⟨v', by rw [q1, ec], fun h => ⟨?_, ?_⟩⟩
        · rw [wrap_putV]; exact q2 (by rw [ec]; exact h)
        · unfold putV at h ⊢
          by_cases hh : (yanks r c.toNat (putB b k)).1 = 0
          · rw [if_pos hh]; rfl
          · rw [if_neg hh] at h; exact absurd h hh
      rw [if_neg k5]
      by_cases k6 : k = 126
      · subst k6
        rw [if_pos rfl]
        exact fin0 _ _ _ u1 _ (do_tilde N hN b r hb U c u1 ⟨r3, r4⟩) rfl
      rw [if_neg k6]
      have n4 : pEq k 120 = false := pEq_f k4
      have n5 : pEq k 112 = false := pEq_f (fun h => k5 (.inl h))
      have n6 : pEq k 80 = false := pEq_f (fun h => k5 (.inr h))
      have n7 : pEq k 126 = false := pEq_f k6
      have n8 : pNe (0 : Int) 0 = false := rfl
      have hst : ∀ X, (if k = 97 then some (Sum.inl (β := Int × VT × Unit) (((b.1, ((minG b.1.length (b.2.1 + 1)), b.2.2)), (r, (true, (U, (0, ()))))), ())) else if k = 65 then some (.inl (((b.1, ((endG b.1 b.2.1.toNat : Int), b.2.2)), (r, (true, (U, (0, ()))))), ())) else if k = 73 then some (.inl (((b.1, ((startG b.1 b.2.1.toNat : Int), b.2.2)), (r, (true, (U, (0, ()))))), ())) else some (.inl ((b, (r, (true, (U, (0, ()))))), ()))) = some (Sum.inl (β := Int × VT × Unit) (X, ())) →
          zAA N (b, (r, (false, (U, (0, ()))))) (c, (k, (0, (u1, ())))) = some (0, X) := fun X hX => by
        unfold zAA
        rw [implKind_eq, bindO_s]
        simp only []
        rw [e2, ifB_f, n4, ifB_f, n8, bindO_s, ifB_f, n5, ifB_f, n6, bindO_s, ifB_f, n7, ifB_f]
        rw [impl_size_eq N b.1 (by omega), bindO_s, pMin_eq, pAdd_i (by omega) (by omega), minG_comm, s1, s2, bindO_s, bindO_s]
        rw [pEq_d, pEq_d, pEq_d, ifB_dec, ifB_dec, ifB_dec]
        have hX : _ = some (Sum.inl (β := Int × VT × Unit) (X, ())) := hX
        rw [hX, bindO_s]
        rfl
      by_cases k7 : k = 105
      · rw [if_pos k7]
        exact fin0 b r true u1 (c, (k, (0, (u1, ())))) (hst _ (by rw [if_neg (by omega), if_neg (by omega), if_neg (by omega)]; rfl)) rfl
      rw [if_neg k7]
      by_cases k8 : k = 97
      · rw [if_pos k8]
        exact fin0 _ r true u1 (c, (k, (0, (u1, ())))) (hst _ (by rw [if_pos k8]; rfl)) rfl
      rw [if_neg k8]
      by_cases k9 : k = 65
      · rw [if_pos k9]
        exact fin0 _ r true u1 (c, (k, (0, (u1, ())))) (hst _ (by rw [if_neg k8, if_pos k9]; rfl)) rfl
      rw [if_neg k9]
      by_cases k10 : k = 73
      · rw [if_pos k10]
        exact fin0 _ r true u1 (c, (k, (0, (u1, ())))) (hst _ (by rw [if_neg k8, if_neg k9, if_pos k10]; rfl)) rfl
      exfalso
      unfold isCmd at hc
      omega
    · rw [if_pos ⟨k0, hc⟩]
      unfold isCmd at hc
      refine ⟨fun _ => ?_, fun h => absurd h (by simp only []; omega)⟩
      rw [if_neg (by omega), if_neg (by omega), if_neg (by omega), if_neg (by omega), if_neg (by omega), if_neg (by omega), if_neg (by omega), if_pos k0]
  · rw [if_neg (fun h => k0 h.1)]
    have hne : ∀ v : Int, kindG v = 0 → k ≠ v := fun v hv e => k0 (by rw [e]; exact hv)
    rw [if_neg (hne 120 rfl), if_neg (fun h => h.elim (hne 112 rfl) (hne 80 rfl)), if_neg (hne 126 rfl), if_neg (hne 105 rfl), if_neg (hne 97 rfl), if_neg (hne 65 rfl), if_neg (hne 73 rfl), if_neg k0]
    exact fin0 _ r false u1 (c, (k, (0, (u1, ())))) (do_mot N hN b r hb (false, (U, (0, ()))) c k 0 u1 hk ⟨r3, r4⟩ k0) rfl
end Go.AE.F
