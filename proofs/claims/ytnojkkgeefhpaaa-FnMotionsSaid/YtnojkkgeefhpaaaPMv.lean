/- The motions of drawn buffers. -/
import Derived.Test.YtnojkkgeefhpaaaPVim
import Derived.Test.YtnojkkgeefhpaaaPPts
import Derived.Test.YtnojkkgeefhpaaaPCpl
import Derived.Test.YtnojkkgeefhpaaaF10
namespace Go.AE.F
open Go.AE

/-! ### drawing -/
def shortB (r : BufT × SrcT) : Prop := srcOk r.2 ∧ r.1.1.length ≤ 1000

theorem btail_tot (N : Nat) (l : List Int) (hl : l.length ≤ 400) (s : SrcT) (hs : srcOk s) : Tot shortB (
    bindO (spec_l01Src_n N s (pAdd Go.IntKind.i64 (pLen l) 1)) fun y40 =>
    bindO (spec_l01Src_n N y40.2 (pAdd Go.IntKind.i64 (pLen l) 1)) fun y41 =>
    bindO (spec_l01Src_one N y41.2 15) fun y42 =>
    ifB y42.1 (
      bindO (spec_l01Src_n N y42.2 3) fun y43 =>
      ifB (pEq y43.1 0) (
        bindO (spec_l01Src_n N y43.2 2) fun y44 =>
        bindO (idx ([(-1), (pAdd Go.IntKind.i64 (pLen l) 1)]) y44.1) fun y45 =>
        bindO (idx ([(-1), (pAdd Go.IntKind.i64 (pLen l) 1)]) y44.1) fun y46 =>
        some ((l, (y46, (y41.1, ()))), y44.2)) (
        ifB (pEq y43.1 1) (
          bindO (spec_l01Src_n N y43.2 2) fun y47 =>
          bindO (idx ([(-1), (pAdd Go.IntKind.i64 (pLen l) 1)]) y47.1) fun y48 =>
          bindO (idx ([(-1), (pAdd Go.IntKind.i64 (pLen l) 1)]) y47.1) fun y49 =>
          some ((l, (y40.1, (y49, ()))), y47.2)) (
          ifB (pFit l [55296]) (
            some (((pApp l [55296]), (y40.1, (y41.1, ()))), y43.2)) (
            none)))) (
      some ((l, (y40.1, (y41.1, ()))), y42.2))) := by
  have e : pAdd .i64 (pLen l) 1 = (l.length : Int) + 1 := by rw [pLen_d, pAdd_i (by omega) (by omega)]
  rw [e]
  refine Tot.bind (nT N s _ hs (by omega)) fun a ha => ?_
  refine Tot.bind (nT N _ _ ha.1 (by omega)) fun b hb => ?_
  refine Tot.bind (oneT N _ 15 hb.1 (by omega)) fun o ho => ?_
  have hlen : l.length ≤ 1000 := by omega
  refine Tot.both ?_ (Tot.ret ⟨ho, hlen⟩)
  refine Tot.bind (nT N _ 3 ho (by omega)) fun u hu => ?_
  refine Tot.both ?_ (Tot.both ?_ ?_)
  · refine Tot.bind (nT N _ 2 hu.1 (by omega)) fun w hw => ?_
    have hw2 := hw.2.2.2 (by omega)
    exact Tot.bind (idxT _ _ hw.2.1 (by simp; omega)) fun _ _ => Tot.bind (idxT _ _ hw.2.1 (by simp; omega)) fun _ _ => Tot.ret ⟨hw.1, hlen⟩
  · refine Tot.bind (nT N _ 2 hu.1 (by omega)) fun w hw => ?_
    have hw2 := hw.2.2.2 (by omega)
    exact Tot.bind (idxT _ _ hw.2.1 (by simp; omega)) fun _ _ => Tot.bind (idxT _ _ hw.2.1 (by simp; omega)) fun _ _ => Tot.ret ⟨hw.1, hlen⟩
  · exact Tot.fit (by simp; omega) (Tot.ret ⟨hu.1, by show (pApp l [55296]).length ≤ 1000; simp [pApp]; omega⟩)

theorem dbuf_tot (N : Nat) (hN : 100001 < N) (s : SrcT) (hs : srcOk s) : Tot shortB (spec_l01Src_l02Buf N s) := by
  unfold spec_l01Src_l02Buf
  have hz := hs.2.2.2
  have e1 : pMul .i64 2 s.2.2.2.1 = 2 * s.2.2.2.1 := wrap_i64 (by omega) (by omega)
  rw [e1, pAdd_i (a := 14) (by omega) (by omega)]
  refine Tot.bind (nT N s _ hs (by omega)) fun v hv => ?_
  have hv2 := hv.2.2.2 (by omega)
  refine Tot.bind (dpoints_tot N _ _ hv.1 hv.2.1 (by omega) hN) fun p hp => ?_
  have hpl := hp.2
  refine Tot.bind (oneT N _ 50 hp.1 (by omega)) fun o ho => ?_
  refine Tot.both ?_ ?_
  · refine Tot.bind (nT N _ 4 ho (by omega)) fun w hw => ?_
    have hw2 := hw.2.2.2 (by omega)
    have hw0 := hw.2.1
    have e2 : pAdd .i64 298 w.1 = 298 + w.1 := pAdd_i (by omega) (by omega)
    rw [e2]
    refine Tot.bind (dpoints_tot N _ _ hw.1 (by omega) (by omega) hN) fun q hq => ?_
    have hql := hq.2
    exact btail_tot N q.1 (by omega) q.2 hq.1
  · exact btail_tot N p.1 (by omega) o.2 ho

theorem dcount_tot (N : Nat) (s : SrcT) (hs : srcOk s) : Tot (fun r : Int × SrcT => srcOk r.2) (spec_l01Src_l03Count N s) := by
  unfold spec_l01Src_l03Count
  refine Tot.bind (oneT N s 15 hs (by omega)) fun o ho => ?_
  refine Tot.both ?_ ?_
  · refine Tot.bind (nT N _ 4 ho (by omega)) fun w hw => ?_
    have hw2 := hw.2.2.2 (by omega)
    exact Tot.bind (idxT _ _ hw.2.1 (by simp; omega)) fun _ _ => Tot.bind (idxT _ _ hw.2.1 (by simp; omega)) fun _ _ => Tot.ret hw.1
  · exact Tot.bind (nT N _ 4 ho (by omega)) fun w hw => Tot.ret hw.1

theorem dmotion_tot (N : Nat) (hN : 100001 < N) (a : List Int) (ha : a.length ≤ 1048576) : Tot (fun r : BufT × Int × Int × Int => r.1.1.length ≤ 1000) (spec_DrawMotion N a) := by
  unfold spec_DrawMotion spec_l03Four
  obtain ⟨s, h1, hs⟩ := source_ok N a ha (by omega)
  rw [h1, bindO_s]
  refine Tot.bind (P := fun r : BufT × Int × Int × Int => r.1.1.length ≤ 1000) ?_ fun r hr => Tot.ret hr
  refine Tot.bind (dbuf_tot N hN s hs) fun b hb => ?_
  refine Tot.bind (nT N _ 11 hb.1 (by omega)) fun k hk => ?_
  refine Tot.bind (oneT N _ 20 hk.1 (by omega)) fun o ho => ?_
  refine Tot.both ?_ ?_
  · refine Tot.bind (nT N _ 2 ho (by omega)) fun w hw => ?_
    refine Tot.bind (dcount_tot N _ hw.1) fun c hc => ?_
    exact Tot.bind (point_tot N _ hc) fun _ _ => Tot.ret hb.2
  · refine Tot.bind (dcount_tot N _ ho) fun c hc => ?_
    exact Tot.bind (point_tot N _ hc) fun _ _ => Tot.ret hb.2

/-! ### moving -/
theorem iter_le {b : BufT} {k c : Int} : ∀ (n a : Nat), a ≤ b.1.length → iter (stepA b k c) n a ≤ b.1.length
  | 0, _, h => h
  | n + 1, a, h => iter_le n _ (stepA_le b k c a h)

theorem motG_cases (b : BufT) (k n c : Int) : motG b k n c = -1 ∨ (bufG b = true ∧ 1 ≤ k ∧ k ≤ 11 ∧ 0 ≤ n ∧ n ≤ 1000 ∧ motG b k n c = (iter (stepA b k c) n.toNat b.2.1.toNat : Int)) := by
  unfold motG
  cases hok : (bufG b && decide (1 ≤ k) && decide (k ≤ 11) && decide (0 ≤ n) && decide (n ≤ 1000)) with
  | false => exact .inl rfl
  | true =>
    simp only [Bool.and_eq_true, decide_eq_true_eq] at hok
    exact .inr ⟨hok.1.1.1.1, hok.1.1.1.2, hok.1.1.2, hok.1.2, hok.2, rfl⟩

theorem move_eq (N : Nat) (b : BufT) (k n c : Int) (hN : 2000 < N) (hl : b.1.length ≤ 1000) : impl_BufMove N b k n c = some (if 0 ≤ motG b k n c then (b.1, motG b k n c, b.2.2) else b) := by
  unfold impl_BufMove impl_ownBuf
  rw [clone_eq N b.1 (by omega), bindO_s, bindO_s, impl_Motion_eq N b k n c (by omega) (by omega) (by omega), bindO_s]
  by_cases h : 0 ≤ motG b k n c
  · rw [pGe_t h, ifB_t, if_pos h]
  · rw [pGe_f (by omega), ifB_f, if_neg h]

theorem lwSame_self (N : Nat) (l : List Int) (h : l.length ≤ 1000) (hN : 2000 < N) : laws_lwSame N l l = some true := by rw [lwSame_eq N l l (by omega) (by omega), decide_eq_true rfl]

/-- one step of what is not up or down minds no cursor -/
theorem step_cur (b : BufT) (k c : Int) (h7 : k ≠ 7) (h8 : k ≠ 8) (n a : Nat) : stepA (b.1, (a : Int), b.2.2) k c n = stepA b k c n := by
  unfold stepA
  rw [if_neg h7, if_neg h8, if_neg h7, if_neg h8]

theorem moves_loop {N : Nat} {R : Type} (hN : 2000 < N) (b : BufT) (hb : bufG b = true) (k c : Int) (h7 : k ≠ 7) (h8 : k ≠ 8) (hk : 1 ≤ k ∧ k ≤ 11) (n : Nat) (hn : n ≤ 1000) (v : Int) (kk : Int × BufT × BufT × Unit → Option R) : ∀ (r i m a : Nat), n - i = r → i ≤ n → r < m → a ≤ b.1.length →
    loopP (laws_FnMotions.l16 N) m (k, (n : Int), c, v, (i : Int), b, (b.1, (a : Int), b.2.2), ()) kk = kk (v, b, (b.1, (iter (stepA b k c) r a : Int), b.2.2), ()) := by
  have hl := ptsG_len (bufG_iff.1 hb).1
  intro r
  induction r with
  | zero =>
    intro i m a hr hi hm ha
    obtain ⟨m, rfl⟩ := succ_of hm
    rw [loopP_s]; unfold laws_FnMotions.l16; simp only []
    rw [pLt_f (by omega), ifB_f]
    rfl
  | succ r ih =>
    intro i m a hr hi hm ha
    obtain ⟨m, rfl⟩ := succ_of hm
    have hb' : bufG (b.1, (a : Int), b.2.2) = true := by
      obtain ⟨h1, h2, h3, h4, h5⟩ := bufG_iff.1 hb
      exact bufG_iff.2 ⟨h1, by show (0 : Int) ≤ (a : Int); omega, by show (a : Int) ≤ (b.1.length : Int); omega, h4, h5⟩
    have hm1 : motG (b.1, (a : Int), b.2.2) k 1 c = (stepA b k c a : Int) := by
      unfold motG
      rw [hb', decide_eq_true hk.1, decide_eq_true hk.2]
      show ((iter (stepA (b.1, (a : Int), b.2.2) k c) 1 a : Nat) : Int) = _
      unfold iter iter
      rw [step_cur b k c h7 h8]
    rw [loopP_s]; unfold laws_FnMotions.l16; simp only []
    rw [pLt_t (by omega), ifB_t, move_eq N _ k 1 c hN (by show b.1.length ≤ 1000; omega), bindO_s, hm1, if_pos (by omega), pAdd_i (by omega) (by omega)]
    exact ih (i + 1) m _ (by omega) (by omega) (by omega) (stepA_le b k c a ha)

theorem pure_FnMotions (a : List Int) (_h : a.length ≤ 9223372036854775807 ∧ ∀ x ∈ a, IntKind.u8.min ≤ x ∧ x ≤ IntKind.u8.max) : ∃ N, laws_FnMotions N a = some true := by
  refine ⟨200000, ?_⟩
  unfold laws_FnMotions
  by_cases hl : a.length ≤ 1048576
  · rw [pLen_d, pGt_f (by omega), ifB_f]
    obtain ⟨⟨b, k, n, c⟩, hd, hbl⟩ := dmotion_tot 200000 (by omega) a hl
    have hbl' : b.1.length ≤ 1000 := hbl
    rw [hd, bindO_s]
    simp only []
    rw [spec_Motion_eq 200000 b k n c (by omega), bindO_s, impl_Motion_eq 200000 b k n c (by omega) (by omega) (by omega), bindO_s, pNe_f rfl, ifB_f]
    rcases motG_cases b k n c with hm | ⟨hb, hk1, hk2, hn0, hn1, hm⟩
    · rw [hm, pLt_t (by omega), ifB_t, move_eq 200000 b k n c (by omega) hbl', bindO_s, hm, if_neg (by omega)]
      unfold laws_lwBuf
      rw [lwSame_self 200000 b.1 hbl' (by omega), bindO_s, pEq_t rfl, ifB_t, bindO_s, pEq_t rfl, ifB_t, bindO_s, bindO_s]
    · obtain ⟨h1, h2, h3, _⟩ := bufG_iff.1 hb
      have hle := iter_le (b := b) (k := k) (c := c) n.toNat b.2.1.toNat (by omega)
      rw [hm, pLt_f (by omega), ifB_f, pLen_d, pGt_f (by omega), ifB_f, ifB_or, bindO_s]
      by_cases h78 : k = 7 ∨ k = 8
      · have e : (pEq k 7 || pEq k 8) = true := by
          rcases h78 with q | q
          · rw [pEq_t q]; rfl
          · rw [pEq_t q, Bool.or_true]
        rw [e, ifB_t, move_eq 200000 b k n c (by omega) hbl', bindO_s, hm, if_pos (by omega)]
        simp only []
        rw [pEq_t rfl]
      · have h7 : k ≠ 7 := fun q => h78 (.inl q)
        have h8 : k ≠ 8 := fun q => h78 (.inr q)
        rw [pEq_f h7, pEq_f h8, Bool.or_self, ifB_f]
        have hcur : b.2.1 = ((b.2.1.toNat : Nat) : Int) := by omega
        have hnn : n = ((n.toNat : Nat) : Int) := by omega
        have hbb : b = (b.1, ((b.2.1.toNat : Nat) : Int), b.2.2) := by rw [← hcur]
        have := moves_loop (N := 200000) (R := Bool) (by omega) b hb k c h7 h8 ⟨hk1, hk2⟩ n.toNat (by omega) (iter (stepA b k c) n.toNat b.2.1.toNat : Int) (fun d =>
              let x45 := d.1;
              let x46 := d.2.1;
              let x47 := d.2.2.1;
              bindO (
                ifB (pEq x47.2.1 x45) (
                  bindO (laws_lwSame 200000 x47.1 x46.1) fun y49 =>
                  some y49) (
                  some false)) fun y48 =>
              bindO (
                ifB y48 (
                  some (pEq x47.2.2.1 x46.2.2.1)) (
                  some false)) fun y50 =>
              some y50) _ 0 200000 b.2.1.toNat rfl (by omega) (by omega) (by omega)
        rw [← hbb, ← hnn] at this
        refine Eq.trans this ?_
        simp only []
        have e3 : ∀ x : Int, pEq x x = true := fun x => pEq_t rfl
        have e4 := lwSame_self 200000 b.1 hbl' (by omega)
        simp only [Nat.sub_zero, e3, ifB_t, e4, bindO_s]
  · rw [pLen_d, pGt_t (by omega), ifB_t]

end Go.AE.F
