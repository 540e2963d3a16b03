/- Plain laws of those functions. -/
import Derived.Test.YtcgbobehdjgjpaaGreatLViBackP10
namespace Go.AE.F
open Go.AE
def minG (x y : Int) : Int := if x < y then x else y
def maxG (x y : Int) : Int := if x > y then x else y
theorem sMin_eq (N : Nat) (x y : Int) : zBL N x y = some (minG x y) := by
  unfold zBL minG
  rw [pLt_d, ifB_dec]; split <;> rfl
theorem sMax_eq (N : Nat) (x y : Int) : zBR N x y = some (maxG x y) := by
  unfold zBR maxG
  simp only [pLt_d, pGt_d, ifB_dec]; split <;> (first | rfl | (split <;> first | rfl | omega))
theorem pMin_eq (x y : Int) : pMin x y = minG x y := by unfold pMin minG; split <;> split <;> omega
theorem pMax_eq (x y : Int) : pMax x y = maxG x y := by unfold pMax maxG; split <;> split <;> omega
theorem minG_comm (x y : Int) : minG x y = minG y x := by unfold minG; split <;> split <;> omega
def vopV (b : BufT) (r : RingT) (k a c u : Int) : VT :=
  if a = k then vcutG b r k (startG b.1 b.2.1.toNat : Int) (endG b.1 b.2.1.toNat : Int) u
  else if 1 ≤ kindG a ∧ kindG a ≤ 6 then vcutG b r k (minG b.2.1 (motG b (kindG a) c 0)) (maxG b.2.1 (motG b (kindG a) c 0)) u
  else failV 3
def putB (b : BufT) (k : Int) : BufT := if k = 112 then (b.1, (minG (b.2.1 + 1) b.1.length, b.2.2)) else b
def putV (b : BufT) (r : RingT) (k c u : Int) : VT :=
  if (yanks r c.toNat (putB b k)).1 = 0 then okVi (yanks r c.toNat (putB b k)).2 r false u else failV (yanks r c.toNat (putB b k)).1
def endT (b : BufT) (c : Int) : Int := minG b.1.length (b.2.1 + c)
def ptsT (b : BufT) (c : Int) : List Int := b.1.take b.2.1.toNat ++ ((b.1.take (endT b c).toNat).drop b.2.1.toNat).map swapG ++ b.1.drop (endT b c).toNat
def tildeV (t : Bool) (b : BufT) (r : RingT) (c u : Int) : VT :=
  okVi (ptsT b c, (endT b c, ((if t = true then mvG b.2.2.1 b.2.1 (endT b c) 0 else b.2.2.1), ()))) r false u
def inDyc (k : Int) : Prop := k = 100 ∨ k = 121 ∨ k = 99
instance (k : Int) : Decidable (inDyc k) := inferInstanceAs (Decidable (_ ∨ _))
def viM (t : Bool) (b : BufT) (r : RingT) (L : List Int) : VT :=
  if (readG L).1 = L.length then failV 9 else
  if inDyc (L.getD (readG L).1 0) then
    (if (readG L).1 + 1 = L.length then failV 9 else vopV b r (L.getD (readG L).1 0) (L.getD ((readG L).1 + 1) 0) (readG L).2 (((readG L).1 + 2 : Nat) : Int))
  else if L.getD (readG L).1 0 = 120 then vopV b r 100 108 (readG L).2 (((readG L).1 + 1 : Nat) : Int)
  else if L.getD (readG L).1 0 = 112 ∨ L.getD (readG L).1 0 = 80 then putV b r (L.getD (readG L).1 0) (readG L).2 (((readG L).1 + 1 : Nat) : Int)
  else if L.getD (readG L).1 0 = 126 then tildeV t b r (readG L).2 (((readG L).1 + 1 : Nat) : Int)
  else if L.getD (readG L).1 0 = 105 then okVi b r true (((readG L).1 + 1 : Nat) : Int)
  else if L.getD (readG L).1 0 = 97 then okVi (b.1, (minG b.1.length (b.2.1 + 1), b.2.2)) r true (((readG L).1 + 1 : Nat) : Int)
  else if L.getD (readG L).1 0 = 65 then okVi (b.1, ((endG b.1 b.2.1.toNat : Int), b.2.2)) r true (((readG L).1 + 1 : Nat) : Int)
  else if L.getD (readG L).1 0 = 73 then okVi (b.1, ((startG b.1 b.2.1.toNat : Int), b.2.2)) r true (((readG L).1 + 1 : Nat) : Int)
  else if kindG (L.getD (readG L).1 0) = 0 then failV 3
  else okVi (b.1, (motG b (kindG (L.getD (readG L).1 0)) (readG L).2 0, b.2.2)) r false (((readG L).1 + 1 : Nat) : Int)
def wrapV (y : VT) (u : Int) : VT := if y.2.2.2.2.1 = 0 then (y.1, (y.2.1, (y.2.2.1, (u, y.2.2.2.2)))) else y
theorem wrap_eq (y : VT) (u : Int) : ifB (pEq y.2.2.2.2.1 0) (some (y.1, (y.2.1, (y.2.2.1, (u, y.2.2.2.2))))) (some y) = some (wrapV y u) := by
  unfold wrapV
  by_cases h : y.2.2.2.2.1 = 0
  · rw [pEq_t h, ifB_t, if_pos h]
  · rw [pEq_f h, ifB_f, if_neg h]
theorem wrap_fail {c : Int} (h : c ≠ 0) (u : Int) : wrapV (failV c) u = failV c := if_neg h
theorem wrap_opV (b : BufT) (r : RingT) (k a c v u : Int) : wrapV (vopV b r k a c v) u = vopV b r k a c u := by
  unfold vopV
  split
  · rfl
  · split
    · rfl
    · exact wrap_fail (by omega) u
theorem wrap_putV (b : BufT) (r : RingT) (k c v u : Int) : wrapV (putV b r k c v) u = putV b r k c u := by
  unfold putV
  split
  · rfl
  · rename_i h; exact wrap_fail h u
theorem se_in {b : BufT} (hb : bufG b = true) : (0 : Int) ≤ (startG b.1 b.2.1.toNat : Int) ∧ (startG b.1 b.2.1.toNat : Int) ≤ (endG b.1 b.2.1.toNat : Int) ∧ (endG b.1 b.2.1.toNat : Int) ≤ b.1.length := by
  obtain ⟨_, h2, h3, _⟩ := bufG_iff.1 hb
  have := startG_le b.1 b.2.1.toNat
  have := endG_ge b.1 b.2.1.toNat
  have := endG_le b.1 b.2.1.toNat (by omega)
  omega
theorem mm_in {b : BufT} (hb : bufG b = true) {v : Int} (h0 : 0 ≤ v) (h1 : v ≤ b.1.length) : 0 ≤ minG b.2.1 v ∧ minG b.2.1 v ≤ maxG b.2.1 v ∧ maxG b.2.1 v ≤ b.1.length := by
  obtain ⟨_, h2, h3, _⟩ := bufG_iff.1 hb
  unfold minG maxG; split <;> split <;> omega
theorem spec_op_eq (N : Nat) (hN : 2000 < N) (b : BufT) (r : RingT) (hb : bufG b = true) (hr : ringG r = true) (k a c : Int) (ha : 0 ≤ a ∧ a ≤ 255) (hc : 1 ≤ c ∧ c ≤ 999) : zBC N b r k a c = some (vopV b r k a c 0) := by
  obtain ⟨hp, h2, h3, _⟩ := bufG_iff.1 hb
  have hl := ptsG_len hp
  have hcur : b.2.1 = ((b.2.1.toNat : Nat) : Int) := by omega
  have s1 : zAK N b b.2.1 = some (startG b.1 b.2.1.toNat : Int) := by
    have := spec_start N b b.2.1.toNat (by omega) hl (by omega); rwa [← hcur] at this
  have s2 : zAV N b b.2.1 = some (endG b.1 b.2.1.toNat : Int) := by
    have := spec_end N b b.2.1.toNat (by omega) hl (by omega); rwa [← hcur] at this
  have ep : pConv .i64 a = a := wrap_i64 (by omega) (by omega)
  have fin : ∀ (i j : Int), 0 ≤ minG i j → minG i j ≤ maxG i j → maxG i j ≤ b.1.length → (bindO (zBL N i j) fun y30 => bindO (zBR N i j) fun y31 => bindO (zCH N b r y30 y31 (pNe k 121)) fun y32 => some (y32.1, (y32.2, ((pEq k 99), (0, (0, ())))))) = some (vcutG b r k (minG i j) (maxG i j) 0) := fun i j q0 q1 q2 => by
    rw [sMin_eq, bindO_s, sMax_eq, bindO_s, spec_take_eq N hN b r hb hr _ _ _ q0 q1 q2, bindO_s]
    unfold vcutG okVi
    rw [pNe_d, pEq_d]
    by_cases h : k = 121
    · rw [decide_eq_true h, if_pos h]; rfl
    · rw [decide_eq_false h, if_neg h]; rfl
  unfold zBC vopV
  rw [ep, specKind_eq N (by omega), bindO_s]
  by_cases h1 : a = k
  · rw [pEq_t h1, ifB_t, s1, bindO_s, s2, bindO_s, bindO_s, if_pos h1]
    simp only [onSum]
    obtain ⟨q0, q1, q2⟩ := se_in hb
    have e1 : minG (startG b.1 b.2.1.toNat : Int) (endG b.1 b.2.1.toNat : Int) = (startG b.1 b.2.1.toNat : Int) := by unfold minG; split <;> omega
    have e2 : maxG (startG b.1 b.2.1.toNat : Int) (endG b.1 b.2.1.toNat : Int) = (endG b.1 b.2.1.toNat : Int) := by unfold maxG; split <;> omega
    have := fin (startG b.1 b.2.1.toNat : Int) (endG b.1 b.2.1.toNat : Int) (by rw [e1]; exact q0) (by rw [e1, e2]; exact q1) (by rw [e2]; exact q2)
    rw [e1, e2] at this
    exact this
  · rw [pEq_f h1, ifB_f, if_neg h1, pGe_d, pLe_d, ifB_and, bindO_s]
    by_cases h4 : 1 ≤ kindG a ∧ kindG a ≤ 6
    · have hm := motG_in b hb (kindG a) c (by omega) (by omega)
      obtain ⟨q0, q1, q2⟩ := mm_in hb hm.1 hm.2
      rw [show decide (kindG a ≥ 1) = true from decide_eq_true h4.1, decide_eq_true h4.2, Bool.and_self, ifB_t, spec_Motion_eq N b _ _ _ (by omega), bindO_s, bindO_s, if_pos h4]
      simp only [onSum]
      exact fin _ _ q0 q1 q2
    · have e : (decide (kindG a ≥ 1) && decide (kindG a ≤ 6)) = false := by
        rw [← Bool.not_eq_true, Bool.and_eq_true, decide_eq_true_eq, decide_eq_true_eq]; exact h4
      rw [e, ifB_f, bindO_s, if_neg h4]
      rfl
theorem spec_vput_eq (N : Nat) (hN : 2000 < N) (b : BufT) (r : RingT) (hb : bufG b = true) (hr : ringG r = true) (k c : Int) (hk : k = 112 ∨ k = 80) (hc : 1 ≤ c ∧ c ≤ 999) : zB3 N b r (pEq k 112) c = some (putV b r k c 0) := by
  obtain ⟨hp, h2, h3, h4, h5⟩ := bufG_iff.1 hb
  have hl := ptsG_len hp
  have ecc : c = ((c.toNat : Nat) : Int) := by omega
  have hfin : ∀ (b0 : BufT), bufG b0 = true → loopP (zB3.l4 N) N (c, r, (([], (0, (0, ()))), (([], (0, ())), (false, (0, (0, ()))))), b0, ()) (
      onSum (fun d =>
        let x48 := d.1;
        let x49 := d.2.1;
        let x50 := d.2.2.1;
        bindO (zBN N x48) fun y51 =>
        some (x50, (y51, (false, (0, (0, ())))))) (
      fun d =>
      let x52 := d.1;
      some x52)) = some (if (yanks r c.toNat b0).1 = 0 then okVi (yanks r c.toNat b0).2 r false 0 else failV (yanks r c.toNat b0).1) := fun b0 hb0 => by
    have := spec_puts (N := N) hN r hr (([], (0, (0, ()))), (([], (0, ())), (false, (0, (0, ()))))) (onSum (fun d =>
        let x48 := d.1;
        let x49 := d.2.1;
        let x50 := d.2.2.1;
        bindO (zBN N x48) fun y51 =>
        some (x50, (y51, (false, (0, (0, ())))))) (
      fun d =>
      let x52 := d.1;
      some x52)) c.toNat N b0 (by omega) (by omega) hb0
    rw [← ecc] at this
    rw [this]
    by_cases h : (yanks r c.toNat b0).1 = 0
    · rw [if_pos h, if_pos h]
      simp only [onSum]
      rw [cpr N (by omega) r hr, bindO_s]; rfl
    · rw [if_neg h, if_neg h]; rfl
  unfold zB3 putV
  rw [cp1 N b (by omega), bindO_s, pLt_d, pLen_d, ifB_and, bindO_s]
  rcases hk with hk | hk
  · subst hk
    have e1 : pEq 112 112 = true := rfl
    have e3 : putB b 112 = (b.1, (minG (b.2.1 + 1) b.1.length, b.2.2)) := if_pos rfl
    rw [e1, Bool.true_and, e3]
    by_cases h : b.2.1 < b.1.length
    · rw [decide_eq_true h, ifB_t, pAdd_i (by omega) (by omega)]
      have e2 : minG (b.2.1 + 1) b.1.length = b.2.1 + 1 := by unfold minG; split <;> omega
      rw [e2]
      exact (hfin (b.1, (b.2.1 + 1, b.2.2)) (bufG_iff.2 ⟨hp, by show 0 ≤ b.2.1 + 1; omega, by show b.2.1 + 1 ≤ (b.1.length : Int); omega, h4, h5⟩))
    · rw [decide_eq_false h, ifB_f]
      have e2 : minG (b.2.1 + 1) b.1.length = b.2.1 := by unfold minG; split <;> omega
      rw [e2]
      exact hfin b hb
  · subst hk
    have e1 : pEq 80 112 = false := rfl
    have e3 : putB b 80 = b := if_neg (by omega)
    rw [e1, Bool.false_and, ifB_f, e3]
    exact hfin b hb
theorem endT_in {b : BufT} (hb : bufG b = true) {c : Int} (hc : 1 ≤ c) : b.2.1 ≤ endT b c ∧ endT b c ≤ b.1.length := by
  obtain ⟨_, h2, h3, _⟩ := bufG_iff.1 hb
  unfold endT minG; split <;> omega
theorem ptsT_ok {b : BufT} (hb : bufG b = true) {c : Int} (hc : 1 ≤ c) : (ptsT b c).length = b.1.length ∧ ptsG (ptsT b c) = true ∧ ptsG (((b.1.take (endT b c).toNat).drop b.2.1.toNat).map swapG) = true := by
  obtain ⟨hp, h2, h3, _⟩ := bufG_iff.1 hb
  obtain ⟨e1, e2⟩ := endT_in hb hc
  have hl := ptsG_len hp
  have hmap : ∀ l : List Int, ptsG l = true → ptsG (l.map swapG) = true := fun l h => by
    unfold ptsG at h ⊢
    simp only [Bool.and_eq_true, decide_eq_true_eq, List.all_eq_true, List.length_map, List.mem_map] at h ⊢
    exact ⟨h.1, fun a ⟨x, hx, e⟩ => by rw [← e]; exact swap_pt (h.2 x hx)⟩
  have hm := hmap _ (ptsG_sub hp ((List.drop_sublist _ _).trans (List.take_sublist _ _)) : ptsG ((b.1.take (endT b c).toNat).drop b.2.1.toNat) = true)
  have hlen : (ptsT b c).length = b.1.length := by
    unfold ptsT
    simp only [List.length_append, List.length_take, List.length_map, List.length_drop]; omega
  refine ⟨hlen, ?_, hm⟩
  unfold ptsT at hlen ⊢
  rw [List.length_append, List.length_append] at hlen
  exact ptsG_app (ptsG_app (ptsG_sub hp (List.take_sublist _ _)) hm (by omega)) (ptsG_sub hp (List.drop_sublist _ _)) (by rw [List.length_append]; omega)
theorem spec_tilde_eq (N : Nat) (hN : 2000 < N) (b : BufT) (hb : bufG b = true) (c : Int) (hc : 1 ≤ c ∧ c ≤ 999) :
    (bindO (zAP N (sub b.1 b.2.1 (endT b c))) fun y106 => zBA N b b.2.1 (endT b c) y106) = some ((ptsT b c, ((replG b b.2.1 (endT b c) (((b.1.take (endT b c).toNat).drop b.2.1.toNat).map swapG)).1.2.1, (mvG b.2.2.1 b.2.1 (endT b c) 0, ()))), (replG b b.2.1 (endT b c) (((b.1.take (endT b c).toNat).drop b.2.1.toNat).map swapG)).2) := by
  obtain ⟨hp, h2, h3, _⟩ := bufG_iff.1 hb
  obtain ⟨e1, e2⟩ := endT_in hb hc.1
  obtain ⟨_, _, o3⟩ := ptsT_ok hb hc.1
  have hl := ptsG_len hp
  have hs : sub b.1 b.2.1 (endT b c) = (b.1.take (endT b c).toNat).drop b.2.1.toNat := rfl
  have hpt : ∀ x ∈ (b.1.take (endT b c).toNat).drop b.2.1.toNat, 0 ≤ x ∧ x ≤ 2000000 := fun x hx => by
    unfold ptsG at hp
    simp only [Bool.and_eq_true, List.all_eq_true] at hp
    have := hp.2 x (List.mem_of_mem_take (List.mem_of_mem_drop hx))
    unfold ptG at this
    simp only [Bool.and_eq_true, decide_eq_true_eq] at this
    omega
  rw [hs, turned_eq N _ (by simp; omega) (by omega) hpt, bindO_s, spec_Replace_eq N b _ _ _ hb o3 (by omega) (by omega) (by omega)]
  have ed : ((((b.1.take (endT b c).toNat).drop b.2.1.toNat).map swapG).length : Int) - (endT b c - b.2.1) = 0 := by
    simp only [List.length_map, List.length_drop, List.length_take]; omega
  congr 1
  unfold replG
  rw [if_neg (by omega), if_neg (by omega), ed]
  have f1 : sub b.1 0 b.2.1 = b.1.take b.2.1.toNat := by unfold sub; rfl
  have f2 : sub b.1 (endT b c) (b.1.length : Int) = b.1.drop (endT b c).toNat := by unfold sub; simp
  rw [f1, f2]
  rfl
end Go.AE.F
namespace Go.AE.F
open Go.AE
theorem spec_do_eq (N : Nat) (hN : 2000 < N) (b : BufT) (r : RingT) (s : ByteArray) (hb : bufG b = true) (hr : ringG r = true) : zB8 N b r s = some (viM true b r (bl s)) := by
  obtain ⟨r1, r2, r3, r4⟩ := readG_ok (bl s)
  obtain ⟨q1, q2, q3⟩ := readS_ok (bl s)
  obtain ⟨hp, h2, h3, h4, h5⟩ := bufG_iff.1 hb
  have hl := ptsG_len hp
  have hcur : b.2.1 = ((b.2.1.toNat : Nat) : Int) := by omega
  have s1 : zAK N b b.2.1 = some (startG b.1 b.2.1.toNat : Int) := by
    have := spec_start N b b.2.1.toNat (by omega) hl (by omega); rwa [← hcur] at this
  have s2 : zAV N b b.2.1 = some (endG b.1 b.2.1.toNat : Int) := by
    have := spec_end N b b.2.1.toNat (by omega) hl (by omega); rwa [← hcur] at this
  unfold zB8
  rw [spec_read N (by omega)]
  simp only [psz]
  unfold viM
  by_cases hd : (readG (bl s)).1 = (bl s).length
  · rw [pEq_t (by omega), ifB_t, if_pos hd]; rfl
  have hm : maxG 1 (readS (bl s)) = (readG (bl s)).2 := by rw [← pMax_eq]; exact q3
  have ea : pAdd .i64 (((readG (bl s)).1 : Nat) : Int) 1 = (((readG (bl s)).1 + 1 : Nat) : Int) := by rw [pAdd_i (by omega) (by omega)]; omega
  have ea2 : pAdd .i64 (((readG (bl s)).1 + 1 : Nat) : Int) 1 = (((readG (bl s)).1 + 2 : Nat) : Int) := by rw [pAdd_i (by omega) (by omega)]; omega
  rw [pEq_f (by omega), ifB_f, if_neg hd, sMax_eq, bindO_s, bl_at (by omega), bindO_s, cp1 N b (by omega), bindO_s, cpr N (by omega) r hr, bindO_s, hm, ea, ea2]
  have hk := bl_rng s (readG (bl s)).1
  have hop : ∀ k : Int, (ifB (pEq (((readG (bl s)).1 + 1 : Nat) : Int) ((bl s).length : Int)) (some (([], (0, (0, ()))), (([], (0, ())), (false, (0, (9, ())))))) (
          bindO (bidx s (((readG (bl s)).1 + 1 : Nat) : Int)) fun y96 =>
          bindO (zBC N b r k y96 (readG (bl s)).2) fun y97 =>
          ifB (pEq y97.2.2.2.2.1 0) (
            some (y97.1, (y97.2.1, (y97.2.2.1, ((((readG (bl s)).1 + 2 : Nat) : Int), y97.2.2.2.2))))) (
            some y97))) = some (if (readG (bl s)).1 + 1 = (bl s).length then failV 9 else vopV b r k ((bl s).getD ((readG (bl s)).1 + 1) 0) (readG (bl s)).2 (((readG (bl s)).1 + 2 : Nat) : Int)) := fun k => by
    by_cases h : (readG (bl s)).1 + 1 = (bl s).length
    · rw [pEq_t (by omega), ifB_t, if_pos h]; rfl
    · rw [pEq_f (by omega), ifB_f, if_neg h, bl_at (by omega), bindO_s, spec_op_eq N hN b r hb hr _ _ _ (bl_rng s _) (by omega), bindO_s, wrap_eq, wrap_opV]
  have hput : ∀ k : Int, k = 112 ∨ k = 80 → (bindO (zB3 N b r (pEq k 112) (readG (bl s)).2) fun y103 =>
                ifB (pEq y103.2.2.2.2.1 0) (
                  some (y103.1, (y103.2.1, (y103.2.2.1, ((((readG (bl s)).1 + 1 : Nat) : Int), y103.2.2.2.2))))) (
                  some y103)) = some (putV b r k (readG (bl s)).2 (((readG (bl s)).1 + 1 : Nat) : Int)) := fun k hk => by
    rw [spec_vput_eq N hN b r hb hr k _ hk (by omega), bindO_s, wrap_eq, wrap_putV]
  have hx : (bindO (zBC N b r 100 108 (readG (bl s)).2) fun y102 =>
              ifB (pEq y102.2.2.2.2.1 0) (
                some (y102.1, (y102.2.1, (y102.2.2.1, ((((readG (bl s)).1 + 1 : Nat) : Int), y102.2.2.2.2))))) (
                some y102)) = some (vopV b r 100 108 (readG (bl s)).2 (((readG (bl s)).1 + 1 : Nat) : Int)) := by
    rw [spec_op_eq N hN b r hb hr _ _ _ (by omega) (by omega), bindO_s, wrap_eq, wrap_opV]
  have hmn : minG (b.1.length : Int) (pAdd .i64 b.2.1 1) = minG b.1.length (b.2.1 + 1) := by rw [pAdd_i (by omega) (by omega)]
  have het : minG (b.1.length : Int) (pAdd .i64 b.2.1 (readG (bl s)).2) = endT b (readG (bl s)).2 := by rw [pAdd_i (by omega) (by omega)]; rfl
  obtain ⟨e1, e2⟩ := endT_in hb r3
  have htl := spec_tilde_eq N hN b hb (readG (bl s)).2 ⟨r3, r4⟩
  have hvm : ∀ k : Int, 0 ≤ k ∧ k ≤ 255 → zC7 N b (pConv .i64 k) (readG (bl s)).2 = some (if kindG k = 0 then -1 else motG b (kindG k) (readG (bl s)).2 0) := fun k hk => by
    have ep : pConv .i64 k = k := wrap_i64 (by omega) (by omega)
    unfold zC7
    rw [ep, specKind_eq N (by omega), bindO_s]
    by_cases h : kindG k = 0
    · rw [pEq_t h, ifB_t, if_pos h]
    · rw [pEq_f h, ifB_f, if_neg h, spec_Motion_eq N b _ _ _ (by omega)]; rfl
  generalize (readG (bl s)).2 = c at *
  generalize (bl s).getD (readG (bl s)).1 0 = k at *
  generalize (((readG (bl s)).1 + 1 : Nat) : Int) = u1 at *
  simp only [s1, s2, sMin_eq, pLen_d, hmn, het, bindO_s]
  have tt : ∀ v : Int, pEq v v = true := fun v => pEq_t rfl
  by_cases k1 : k = 100
  · subst k1; rw [tt, ifB_t, if_pos (show inDyc 100 from .inl rfl)]; exact hop 100
  rw [pEq_f k1, ifB_f]
  by_cases k2 : k = 121
  · subst k2; rw [tt, ifB_t, if_pos (show inDyc 121 from .inr (.inl rfl))]; exact hop 121
  rw [pEq_f k2, ifB_f]
  by_cases k3 : k = 99
  · subst k3; rw [tt, ifB_t, if_pos (show inDyc 99 from .inr (.inr rfl))]; exact hop 99
  rw [pEq_f k3, ifB_f, if_neg (show ¬ inDyc k from fun h => h.elim k1 fun h => h.elim k2 k3)]
  by_cases k4 : k = 120
  · subst k4; rw [tt, ifB_t, if_pos rfl]; exact hx
  rw [pEq_f k4, ifB_f, if_neg k4]
  by_cases k5 : k = 112
  · subst k5; rw [if_pos (show (112 : Int) = 112 ∨ (112 : Int) = 80 from .inl rfl)]; exact hput 112 (.inl rfl)
  rw [pEq_f k5, ifB_f]
  by_cases k6 : k = 80
  · subst k6
    rw [if_pos (show (80 : Int) = 112 ∨ (80 : Int) = 80 from .inr rfl)]
    exact hput 80 (.inr rfl)
  rw [pEq_f k6, ifB_f, if_neg (show ¬ (k = 112 ∨ k = 80) from fun h => h.elim k5 k6)]
  by_cases k7 : k = 126
  · subst k7
    rw [if_pos rfl, tt, ifB_t, pLe_t h2, ifB_t, pLe_t e1, ifB_t, pLe_t e2, ifB_t]
    cases ht : zAP N (sub b.1 b.2.1 (endT b c)) with
    | none => rw [ht] at htl; cases htl
    | some y =>
      rw [ht, bindO_s] at htl
      rw [bindO_s, htl, bindO_s]
      rfl
  rw [pEq_f k7, ifB_f, if_neg k7]
  by_cases k8 : k = 105
  · subst k8; rw [if_pos rfl]; rfl
  rw [pEq_f k8, ifB_f, if_neg k8]
  by_cases k9 : k = 97
  · subst k9; rw [if_pos rfl]; rfl
  rw [pEq_f k9, ifB_f, if_neg k9]
  by_cases k10 : k = 65
  · subst k10; rw [if_pos rfl]; rfl
  rw [pEq_f k10, ifB_f, if_neg k10]
  by_cases k11 : k = 73
  · subst k11; rw [if_pos rfl]; rfl
  rw [pEq_f k11, ifB_f, if_neg k11, hvm k hk, bindO_s]
  by_cases k12 : kindG k = 0
  · rw [if_pos k12, if_pos k12, pLt_t (by omega), ifB_t]; rfl
  · have hm := motG_in b hb (kindG k) c (by have := kindG_rng k; omega) (by omega)
    rw [if_neg k12, if_neg k12, pLt_f hm.1, ifB_f]; rfl
set_option maxRecDepth 100000 in
theorem ib_dyc : ∀ n : Nat, n < 256 → pLt (match (ByteArray.mk #[100, 121, 99]).data.toList.findIdx? (fun b => b == ((n : Int)).toNat.toUInt8) with | some i => (i : Int) | none => -1) 0 = !(decide (n = 100) || decide (n = 121) || decide (n = 99)) := by decide
set_option maxRecDepth 100000 in
theorem ib_cmd : ∀ n : Nat, n < 256 → pLt (match (ByteArray.mk #[120, 112, 80, 105, 97, 65, 73, 126]).data.toList.findIdx? (fun b => b == ((n : Int)).toNat.toUInt8) with | some i => (i : Int) | none => -1) 0 = !(decide (n = 120) || decide (n = 112) || decide (n = 80) || decide (n = 105) || decide (n = 97) || decide (n = 65) || decide (n = 73) || decide (n = 126)) := by decide
set_option maxRecDepth 100000 in
theorem ib_mot : ∀ n : Nat, n < 256 → pLt (match (ByteArray.mk #[104, 108, 98, 119, 48, 36]).data.toList.findIdx? (fun b => b == ((n : Int)).toNat.toUInt8) with | some i => (i : Int) | none => -1) 0 = !(decide (1 ≤ kindG (n : Int)) && decide (kindG (n : Int) ≤ 6)) := by decide
end Go.AE.F
