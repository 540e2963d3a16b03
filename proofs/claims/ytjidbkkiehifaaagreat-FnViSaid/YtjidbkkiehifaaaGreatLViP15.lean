/- Plain laws of those functions. -/
import Derived.Test.YtjidbkkiehifaaaGreatLViP14
namespace Go.AE.F
open Go.AE
theorem okV_eta {y : VT} (h : y.2.2.2.2.1 = 0) : y = okVi y.1 y.2.1 y.2.2.1 y.2.2.2.1 := by
  obtain ⟨b, r, i, u, c, w⟩ := y
  have h : c = 0 := h
  subst h
  rfl
theorem spec_run_loop (N : Nat) (hN : 2000 < N) (s : ByteArray) (hs : (bl s).length ≤ 20000) (o : VT) : ∀ (n m p : Nat) (b : BufT) (r : RingT) (i : Bool), (bl s).length - p ≤ n → n < m → p ≤ (bl s).length → bufG b = true → ringG r = true →
    loopP (zB6.l2 N) m (s, o, okVi b r i (p : Int), ()) (onSum (fun d => let x25 := d.1; let x26 := d.2.1; some x26) (fun d => let x27 := d.1; some x27)) = some (runM true n b r i (p : Int) ((bl s).drop p)) := by
  intro n
  induction n with
  | zero =>
    intro m p b r i hp hm hpl hb hr
    obtain ⟨m, rfl⟩ := succ_of hm
    rw [loopP_s]; unfold zB6.l2; simp only []; rw [psz s]
    rw [show pLt (okVi b r i (p : Int)).2.2.2.1 ((bl s).length : Int) = false from pLt_f (by show ((bl s).length : Int) ≤ (p : Int); omega), ifB_f, bindO_s, ifB_f]
    rfl
  | succ n ih =>
    intro m p b r i hp hm hpl hb hr
    obtain ⟨m, rfl⟩ := succ_of hm
    rw [loopP_s]; unfold zB6.l2; simp only []; rw [psz s]
    unfold runM
    rw [List.length_drop]
    by_cases h0 : (bl s).length - p = 0 ∨ i = true
    · rw [if_pos h0]
      by_cases h1 : (bl s).length - p = 0
      · rw [show pLt (okVi b r i (p : Int)).2.2.2.1 ((bl s).length : Int) = false from pLt_f (by show ((bl s).length : Int) ≤ (p : Int); omega), ifB_f, bindO_s, ifB_f]
        rfl
      · have h2 := h0.resolve_left h1
        subst h2
        rw [show pLt (okVi b r true (p : Int)).2.2.2.1 ((bl s).length : Int) = true from pLt_t (by show (p : Int) < _; omega), ifB_t, bindO_s]
        rfl
    rw [if_neg h0]
    obtain ⟨h1, h2⟩ : (bl s).length - p ≠ 0 ∧ i = false := ⟨fun h => h0 (.inl h), by cases i <;> simp at h0 ⊢⟩
    subst h2
    rw [show pLt (okVi b r false (p : Int)).2.2.2.1 ((bl s).length : Int) = true from pLt_t (by show (p : Int) < _; omega), ifB_t, bindO_s]
    rw [show pNot (okVi b r false (p : Int)).2.2.1 = true from rfl, ifB_t]
    rw [show pLe 0 (okVi b r false (p : Int)).2.2.2.1 = true from pLe_t (by show (0 : Int) ≤ (p : Int); omega), ifB_t]
    rw [show pLe (okVi b r false (p : Int)).2.2.2.1 ((bl s).length : Int) = true from pLe_t (by show (p : Int) ≤ _; omega), ifB_t, pLe_t (by omega), ifB_t]
    have hd : zBA N (okVi b r false (p : Int)).1 (okVi b r false (p : Int)).2.1 (ssub s (okVi b r false (p : Int)).2.2.2.1 ((bl s).length : Int)) = some (viM true b r ((bl s).drop p)) := by
      have e : ssub s (p : Int) ((bl s).length : Int) = ssub s (p : Int) (pSize s) := by rw [psz]
      show zBA N b r (ssub s (p : Int) ((bl s).length : Int)) = _
      rw [e, spec_do_eq N hN b r _ hb hr, bl_ssub]
    rw [hd, bindO_s]
    by_cases hc : (viM true b r ((bl s).drop p)).2.2.2.2.1 = 0
    · rw [pNe_f hc, ifB_f, if_neg (by simp [hc])]
      obtain ⟨g1, g2, g3, g4⟩ := viM_right hb hr true _ hc
      rw [List.length_drop] at g4
      have he := okV_eta hc
      generalize viM true b r ((bl s).drop p) = y at *
      have ea : pAdd .i64 y.2.2.2.1 (okVi b r false (p : Int)).2.2.2.1 = ((p + y.2.2.2.1.toNat : Nat) : Int) := by
        show pAdd .i64 y.2.2.2.1 (p : Int) = _
        rw [pAdd_i (by omega) (by omega)]; omega
      have := ih m (p + y.2.2.2.1.toNat) y.1 y.2.1 y.2.2.1 (by omega) (by omega) (by omega) g1 g2
      rw [ea]
      have e2 : (y.1, (y.2.1, (y.2.2.1, (((p + y.2.2.2.1.toNat : Nat) : Int), y.2.2.2.2)))) = okVi y.1 y.2.1 y.2.2.1 ((p + y.2.2.2.1.toNat : Nat) : Int) := by
        rw [he]; rfl
      rw [e2]
      refine Eq.trans this ?_
      rw [List.drop_drop, show ((p + y.2.2.2.1.toNat : Nat) : Int) = (p : Int) + y.2.2.2.1 by omega]
    · rw [pNe_t hc, ifB_t, if_pos hc]
      rfl
theorem spec_ViRun_eq (N : Nat) (hN : 21000 < N) (s : ByteArray) (hs : (bl s).length ≤ 20000) (b : BufT) (r : RingT) : zCV N b r s = some (if bufG b = true ∧ ringG r = true then runM true (bl s).length b r false 0 (bl s) else failV 1) := by
  unfold zCV
  rw [psz, pGt_f (by omega), ifB_f, spec_BufRight_eq N b (by omega), bindO_s, spec_RingRight_eq N (by omega), bindO_s]
  cases hb : bufG b with
  | false => rfl
  | true =>
    cases hr : ringG r with
    | false => rfl
    | true =>
      rw [if_pos ⟨rfl, rfl⟩]
      have hl := ptsG_len (bufG_iff.1 hb).1
      have hrun : zB6 N b r s = some (runM true (bl s).length b r false 0 (bl s)) := by
        unfold zB6
        rw [cp1 N b (by omega), bindO_s, cpr N (by omega) r hr, bindO_s]
        have := spec_run_loop N (by omega) s hs (failV 0) (bl s).length N 0 b r false (by omega) (by omega) (by omega) hb hr
        rw [List.drop_zero] at this
        exact this
      show (bindO (zB6 N b r s) fun y7 => some y7) = _
      rw [hrun, bindO_s]
theorem tl_loop (s : ByteArray) : ∀ (n i : Nat) (r : List UInt8), s.size - i = n → (ByteArray.toList.loop s i r).length = r.length + n
  | 0, i, r, h => by
    rw [ByteArray.toList.loop, if_neg (by omega), List.length_reverse]; rfl
  | n + 1, i, r, h => by
    rw [ByteArray.toList.loop, if_pos (by omega), tl_loop s n (i + 1) _ (by omega), List.length_cons]; omega
theorem tl_len (s : ByteArray) : s.toList.length = (bl s).length := by
  unfold ByteArray.toList bl
  rw [tl_loop s s.size 0 [] (by omega), List.length_map, Array.length_toList]
  show 0 + s.data.size = s.data.size
  rw [Nat.zero_add]
theorem pSEq_nil (s : ByteArray) : pSEq s (ByteArray.mk #[]) = decide ((bl s).length = 0) := by
  by_cases h : (bl s).length = 0
  · have : s = ByteArray.mk #[] := by
      unfold bl at h
      rw [List.length_map] at h
      cases s with
      | mk d =>
        have : d = #[] := by
          apply Array.toList_inj.1
          exact List.length_eq_zero_iff.1 h
        rw [this]
    rw [decide_eq_true h, this]; exact pSEq_self _
  · rw [decide_eq_false h]
    unfold pSEq
    rw [beq_eq_false_iff_ne]
    intro e
    have e2 := congrArg List.length e
    rw [tl_len, tl_len] at e2
    exact h e2
theorem impl_run_loop (N : Nat) (hN : 2000 < N) (o : VT) : ∀ (n m : Nat) (s : ByteArray) (b : BufT) (r : RingT) (i : Bool) (U : Int), (bl s).length ≤ n → n < m → (bl s).length ≤ 20000 → 0 ≤ U → U + (bl s).length ≤ 100000 → bufG b = true → ringG r = true →
    loopP (zBB.l2 N) m (s, o, okVi b r i U, ()) (fun d => let x32 := d.1; let x33 := d.2.1; some x33) = some (runM false n b r i U (bl s)) := by
  intro n
  induction n with
  | zero =>
    intro m s b r i U hp hm hs hU hU2 hb hr
    obtain ⟨m, rfl⟩ := succ_of hm
    rw [loopP_s]; unfold zBB.l2; simp only []; rw [psz s, pSEq_nil, decide_eq_true (show (bl s).length = 0 by omega)]
    rfl
  | succ n ih =>
    intro m s b r i U hp hm hs hU hU2 hb hr
    obtain ⟨m, rfl⟩ := succ_of hm
    rw [loopP_s]; unfold zBB.l2; simp only []; rw [psz s, pSEq_nil]
    unfold runM
    by_cases h1 : (bl s).length = 0
    · rw [if_pos (.inl h1), decide_eq_true h1]
      rfl
    rw [decide_eq_false h1, show pNot false = true from rfl, ifB_t, bindO_s]
    cases i with
    | true => rw [if_pos (.inr rfl)]; rfl
    | false =>
    rw [if_neg (by simp [h1]), show pNot (okVi b r false U).2.2.1 = true from rfl, ifB_t]
    have hss : s.size ≤ 100000 := by have := psz s; unfold pSize at this; omega
    have hbl := ptsG_len (bufG_iff.1 hb).1
    rw [impl_readCommand_eq N (by omega) s hss, bindO_s, show zC1 N (okVi b r false U).1 = some b from own1 N b (by omega), bindO_s, show zBS N (okVi b r false U).2.1 = some r from ownr N (by omega) r hr, bindO_s]
    have hst := impl_do_eq N hN b r (bl s) (bl_rng s) hb hr (pAdd .i64 (okVi b r false U).2.2.2.1 (rdG (bl s)).1.2.2.2.1)
    by_cases he : (rdG (bl s)).2 = 0
    · obtain ⟨v', q1, q2⟩ := hst.2 he
      rw [pEq_t he, ifB_t, q1, bindO_s]
      by_cases hc : (viM false b r (bl s)).2.2.2.2.1 = 0
      · obtain ⟨q3, q4⟩ := q2 hc
        obtain ⟨g1, g2, g3, g4⟩ := viM_right hb hr false _ hc
        rw [pNe_f hc, ifB_f, if_neg (by simp [hc]), ← q4, pLe_t (by omega), ifB_t, pLe_t (by omega), ifB_t, pLe_t (by omega), ifB_t]
        have hes : ∀ u : Int, 0 ≤ u → u ≤ ((bl s).length : Int) → bl (ssub s u ((bl s).length : Int)) = (bl s).drop u.toNat := fun u hu _ => by
          have := bl_ssub s u.toNat
          rw [psz, show ((u.toNat : Nat) : Int) = u by omega] at this
          exact this
        have hes := hes _ (show 0 ≤ (viM false b r (bl s)).2.2.2.1 by omega) g4
        have ev : v' = okVi (viM false b r (bl s)).1 (viM false b r (bl s)).2.1 (viM false b r (bl s)).2.2.1 (U + (viM false b r (bl s)).2.2.2.1) := by
          rw [q3]
          unfold wrapV
          rw [if_pos hc, ← q4]
          rw [show pAdd .i64 (okVi b r false U).2.2.2.1 (viM false b r (bl s)).2.2.2.1 = U + (viM false b r (bl s)).2.2.2.1 from pAdd_i (by show _ ≤ U + _; omega) (by show U + _ ≤ _; omega)]
          have := okV_eta hc
          generalize viM false b r (bl s) = y at *
          rw [this]; rfl
        have := ih m (ssub s (viM false b r (bl s)).2.2.2.1 ((bl s).length : Int)) (viM false b r (bl s)).1 (viM false b r (bl s)).2.1 (viM false b r (bl s)).2.2.1 (U + (viM false b r (bl s)).2.2.2.1)
          (by rw [hes, List.length_drop]; omega) (by omega) (by rw [hes, List.length_drop]; omega) (by omega) (by rw [hes, List.length_drop]; omega) g1 g2
        rw [ev]
        refine Eq.trans this ?_
        rw [hes]
      · rw [pNe_t hc, ifB_t, if_pos hc]
        rfl
    · have hf := hst.1 he
      rw [pEq_f he, ifB_f, pNe_t he, ifB_t, hf, if_pos (show (failV (rdG (bl s)).2).2.2.2.2.1 ≠ 0 from he)]
      rfl
theorem impl_ViRun_eq (N : Nat) (hN : 21000 < N) (s : ByteArray) (hs : (bl s).length ≤ 20000) (b : BufT) (r : RingT) (hbl : b.1.length ≤ 1000) (hrl : r.1.length ≤ 1000) (hrx : ∀ x ∈ r.1, x.length ≤ 1000) :
    zCU N b r s = some (if bufG b = true ∧ ringG r = true then runM false (bl s).length b r false 0 (bl s) else failV 1) := by
  unfold zCU
  have hlg : (s.data.toList.length : Int) = ((bl s).length : Int) := by unfold bl; rw [List.length_map]
  rw [isLong_one N s (by omega), hlg, decide_eq_false (by omega), bindO_s, ifB_f, impl_BufRight_eq N b (by omega) (by omega), bindO_s, impl_RingRight_eq N r (by omega) (by omega) (fun x hx => by have := hrx x hx; omega), bindO_s]
  cases hb : bufG b with
  | false => rfl
  | true =>
    cases hr : ringG r with
    | false => rfl
    | true =>
      rw [if_pos ⟨rfl, rfl⟩]
      have hl := ptsG_len (bufG_iff.1 hb).1
      have hrun : zBB N b r s = some (runM false (bl s).length b r false 0 (bl s)) := by
        unfold zBB
        rw [own1 N b (by omega), bindO_s, ownr N (by omega) r hr, bindO_s]
        exact impl_run_loop N (by omega) (failV 0) (bl s).length N s b r false 0 (by omega) (by omega) hs (by omega) (by omega) hb hr
      obtain ⟨g1, g2⟩ := runM_right false (bl s).length b r false 0 (bl s) hb hr
      have hl2 := ptsG_len (bufG_iff.1 g1).1
      show (bindO (zBB N b r s) fun y15 => bindO (zC1 N y15.1) fun y16 => bindO (zBS N y15.2.1) fun y17 => some (y16, (y17, y15.2.2))) = _
      rw [hrun, bindO_s, own1 N _ (by omega), bindO_s, ownr N (by omega) _ g2, bindO_s]
theorem impl_ViDo_eq (N : Nat) (hN : 2000 < N) (s : ByteArray) (hs : (bl s).length ≤ 20000) (b : BufT) (r : RingT) (hb : bufG b = true) (hr : ringG r = true) :
    ∃ y, zCX N b r s = some y ∧ y.2.2.2.2.1 = (viM false b r (bl s)).2.2.2.2.1 ∧ ((viM false b r (bl s)).2.2.2.2.1 = 0 → y = viM false b r (bl s)) := by
  unfold zCX
  have hlg : (s.data.toList.length : Int) = ((bl s).length : Int) := by unfold bl; rw [List.length_map]
  have hl := ptsG_len (bufG_iff.1 hb).1
  have hro := ringOk_of (N := N) (by omega) hr
  have hri : zB8 N r = some (ringG r) := impl_RingRight_eq N r (by have := (ringG_iff.1 hr).1; omega) (by have := (ringG_iff.1 hr).1; omega) (fun x hx => by have := ptsG_len (itemG_pts ((ringG_iff.1 hr).2.1 x hx)).1; omega)
  have hss : s.size ≤ 100000 := by have := psz s; unfold pSize at this; omega
  rw [isLong_one N s (by omega), hlg, decide_eq_false (by omega), bindO_s, ifB_f, impl_BufRight_eq N b (by omega) (by omega), bindO_s, hri, bindO_s, hb, hr]
  rw [show pNot true = false from rfl, ifB_f, bindO_s, ifB_f, impl_readCommand_eq N (by omega) s hss, bindO_s, own1 N b (by omega), bindO_s, ownr N (by omega) r hr, bindO_s]
  have hst := impl_do_eq N hN b r (bl s) (bl_rng s) hb hr (rdG (bl s)).1.2.2.2.1
  by_cases he : (rdG (bl s)).2 = 0
  · obtain ⟨v', q1, q2⟩ := hst.2 he
    rw [pEq_t he, ifB_t, q1, bindO_s]
    by_cases hc : (viM false b r (bl s)).2.2.2.2.1 = 0
    · obtain ⟨q3, q4⟩ := q2 hc
      obtain ⟨g1, g2, g3, g4⟩ := viM_right hb hr false _ hc
      have hl2 := ptsG_len (bufG_iff.1 g1).1
      have ev : v' = viM false b r (bl s) := by
        rw [q3, ← q4]
        unfold wrapV
        rw [if_pos hc]
      rw [pNe_f hc, ifB_f, ev]
      simp only []
      rw [own1 N _ (by omega), bindO_s, ownr N (by omega) _ g2, bindO_s]
      refine ⟨_, rfl, ?_, fun _ => ?_⟩
      · exact hc.symm
      · have := okV_eta hc
        generalize viM false b r (bl s) = y at *
        rw [this]; rfl
    · rw [pNe_t hc, ifB_t]
      exact ⟨_, rfl, rfl, fun h => absurd h hc⟩
  · have hf := hst.1 he
    rw [pEq_f he, ifB_f, pNe_t he, ifB_t]
    refine ⟨_, rfl, by rw [hf]; rfl, fun h => ?_⟩
    rw [hf] at h; exact absurd h he
end Go.AE.F
