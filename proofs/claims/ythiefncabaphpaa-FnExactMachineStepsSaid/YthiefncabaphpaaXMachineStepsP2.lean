/- Plain laws of those functions. -/
import Derived.Test.YthiefncabaphpaaXMachineStepsP1
namespace Go.AE.F
open Go.AE
theorem u64_w (a : Int) : IntKind.u64.wrap a = a % 18446744073709551616 := rfl
theorem mask32 (a : Nat) (h : a < 4294967296) : pAnd .u64 (a : Int) 4294967295 = a := by
  unfold pAnd
  have e : (BitVec.ofInt IntKind.u64.bits (a : Int) &&& BitVec.ofInt IntKind.u64.bits 4294967295).toNat = a := by
    show (BitVec.ofInt 64 (a : Int) &&& BitVec.ofInt 64 4294967295).toNat = a
    rw [BitVec.toNat_and]
    have e1 : (BitVec.ofInt 64 (a : Int)).toNat = a := by
      rw [BitVec.ofInt_natCast, BitVec.toNat_ofNat]; omega
    have e2 : (BitVec.ofInt 64 4294967295).toNat = 2 ^ 32 - 1 := rfl
    rw [e1, e2, Nat.and_two_pow_sub_one_eq_mod]
    omega
  rw [e, u64_w]; omega
theorem shr32 (a : Nat) (h : a < 4294967296) : pShr .u64 (a : Int) 32 = 0 := by
  unfold pShr
  have e : ((2 : Int) ^ (min (32 : Int).toNat IntKind.u64.bits)) = 4294967296 := rfl
  rw [e, Int.fdiv_eq_ediv_of_nonneg _ (by omega)]
  omega
theorem mul_small (N : Nat) (n : Nat) (h : n < 4294967296) : math_bits_Mul N 1 (n : Int) = some (0, (n : Int)) := by
  unfold math_bits_Mul math_bits_Mul64
  have s1 : pShr .u64 1 32 = 0 := rfl
  have a1 : pAnd .u64 1 4294967295 = 1 := rfl
  have s0 : pShr .u64 0 32 = 0 := rfl
  have a0 : pAnd .u64 0 4294967295 = 0 := rfl
  have m00 : pMul .u64 0 0 = 0 := rfl
  have m01 : pMul .u64 1 0 = 0 := rfl
  have m0n : pMul .u64 0 (n : Int) = 0 := by unfold pMul; rw [u64_w]; omega
  have m1n : pMul .u64 1 (n : Int) = n := by unfold pMul; rw [u64_w]; omega
  have p00 : pAdd .u64 0 0 = 0 := rfl
  simp only [show pLt 32 0 = false from rfl, ifB_f, s1, a1, shr32 n h, mask32 n h, m00, m01, m0n, m1n, p00, s0, a0, bindO_s]
theorem rep_loop {N : Nat} {R : Type} (v : Int) (L : Nat) (hL : L ≤ 68719476736) (k : List Int × Unit → Option R) : ∀ (m i n : Nat) (rest : List Int), L - i = m → 1 ≤ i → i ≤ L → rest.length = L - i → m < n →
    loopP (slices_Repeat_Sint64_int64.l8 N) n ((i : Int), List.replicate i v ++ rest, ()) k = k (List.replicate L v, ()) := by
  intro m
  induction m using Nat.strongRecOn with
  | ind m ih =>
    intro i n rest hm h1 hi hr hn
    obtain ⟨n, rfl⟩ := succ_of hn
    rw [loopP_s]; unfold slices_Repeat_Sint64_int64.l8; simp only [pLen_d]
    have hlen : (List.replicate i v ++ rest).length = L := by simp [hr]; omega
    rw [hlen]
    by_cases h0 : i = L
    · rw [pLt_f (by omega), ifB_f]
      have : rest = [] := List.eq_nil_of_length_eq_zero (by omega)
      rw [this, List.append_nil, h0]
    · rw [pLt_t (by omega), ifB_t, pLe_t (by omega), ifB_t, pLe_t (by omega), ifB_t, pLe_t (by omega), ifB_t, pLe_t (by omega), ifB_t, ifB_t, ifB_t]
      have es : sub (List.replicate i v ++ rest) 0 (i : Int) = List.replicate i v := by
        unfold sub
        simp
      rw [es, List.length_replicate]
      obtain ⟨c, hc, hc1⟩ : ∃ c : Nat, pMin (pDif (L : Int) i) (i : Int) = (c : Int) ∧ 1 ≤ c ∧ c ≤ i ∧ i + c ≤ L := by
        unfold pMin pDif
        by_cases q : (i : Int) < (L : Int) - i
        · rw [if_pos q]; exact ⟨i, rfl, h1, Nat.le_refl _, by omega⟩
        · rw [if_neg q]; exact ⟨L - i, by omega, by omega, by omega, by omega⟩
      rw [hc, pAdd_i (by omega) (by omega)]
      have ec : pCopy (List.replicate i v ++ rest) (i : Int) (c : Int) (List.replicate i v) = List.replicate (i + c) v ++ rest.drop c := by
        unfold pCopy
        simp only [Int.toNat_natCast]
        rw [List.take_append_of_le_length (by simp), List.take_of_length_le (by simp), List.take_replicate, Nat.min_eq_left hc1.2.1, List.replicate_append_replicate, List.drop_append, List.length_replicate]
        rw [List.drop_eq_nil_of_le (by simp), List.nil_append]
        congr 2; omega
      rw [ec]
      exact ih (L - (i + c)) (by omega) (i + c) n _ rfl (by omega) (by omega) (by simp; omega) (by omega)
theorem repeat_eq (N : Nat) (v : Int) (n : Nat) (h1 : 1 ≤ n) (h2 : n < 4294967296) (hN : n < N) : slices_Repeat_Sint64_int64 N [v] (n : Int) = some (List.replicate n v) := by
  unfold slices_Repeat_Sint64_int64
  have e1 : pConv .u64 (pLen [v]) = 1 := rfl
  have e2 : pConv .u64 (n : Int) = n := IntWalk.u64_in _ ⟨by omega, by omega⟩
  have e3 : pConv .i64 (n : Int) = n := wrap_i64 (by omega) (by omega)
  rw [pLt_f (by omega), ifB_f, e1, e2, mul_small N n h2, bindO_s]
  simp only []
  rw [show pGt 0 0 = false from rfl, ifB_f, bindO_s, pGt_f (by omega), ifB_f, e3, pEq_t rfl, ifB_t, pLe_t (by omega), ifB_t, pLe_t (by omega), ifB_t]
  have e4 : pLen (pRepl (n : Int) (0 : Int)) = n := by rw [pLen_d, repl_len]
  rw [e4]
  by_cases hh : n = 1
  · subst hh
    have e6 : pMin (pDif ((1 : Nat) : Int) 0) (pLen [v]) = ((1 : Nat) : Int) := rfl
    rw [e6]
    have e7 : pCopy (pRepl ((1 : Nat) : Int) 0) 0 ((1 : Nat) : Int) [v] = List.replicate 1 v ++ [] := rfl
    rw [e7]
    exact rep_loop (N := N) v 1 (by omega) _ _ 1 N [] rfl (by omega) (by omega) rfl (by omega)
  · have e5 : pMin (pDif (n : Int) 0) (pLen [v]) = ((1 : Nat) : Int) := by
      unfold pMin pDif
      rw [pLen_d, if_pos (by simp; omega)]
      rfl
    rw [e5]
    have e7 : pCopy (pRepl (n : Int) 0) 0 ((1 : Nat) : Int) [v] = List.replicate 1 v ++ List.replicate (n - 1) 0 := by
      unfold pCopy pRepl
      simp
    rw [e7]
    exact rep_loop (N := N) v n (by omega) _ _ 1 N _ rfl (by omega) (by omega) (by simp) (by omega)
end Go.AE.F
namespace Go.AE.F
open Go.AE
def pushG (d : Int) : List Int → List Int × List Int → Option (List Int × List Int)
  | [], s => some s
  | k :: ks, s =>
    if s.1[k.toNat]? = some (-1) then pushG d ks (s.1.set k.toNat d, s.2 ++ [k])
    else if s.1[k.toNat]? = some d then pushG d ks s
    else none
structure DInv (n : Nat) (s : List Int × List Int) : Prop where
  len : s.1.length = n + 1
  rng : ∀ v ∈ s.1, -1 ≤ v ∧ v ≤ 24
  pla : ∀ k ∈ s.2, 0 ≤ k ∧ k ≤ (n : Int) ∧ ∃ v, s.1[k.toNat]? = some v ∧ 0 ≤ v
def meas (s : List Int × List Int) : Nat := s.1.count (-1) + s.2.length
theorem pushG_inv {n : Nat} {d : Int} (hd : 0 ≤ d ∧ d ≤ 24) : ∀ (ks : List Int) (s t : List Int × List Int), (∀ k ∈ ks, 0 ≤ k ∧ k ≤ (n : Int)) → DInv n s → pushG d ks s = some t →
    DInv n t ∧ meas t = meas s ∧ t.2.length ≤ s.2.length + ks.length ∧ ∀ v, s.1[n]? = some v → 0 ≤ v → t.1[n]? = some v
  | [], s, t, _, hs, h => by
    have := Option.some.inj h
    subst this
    exact ⟨hs, rfl, by simp, fun v hv _ => hv⟩
  | k :: ks, s, t, hk, hs, h => by
    unfold pushG at h
    have hk0 := hk k (by simp)
    have hks : ∀ k ∈ ks, 0 ≤ k ∧ k ≤ (n : Int) := fun k h => hk k (by simp [h])
    split at h
    · rename_i h1
      have hlt : k.toNat < s.1.length := by have := hs.len; omega
      have hg : s.1[k.toNat] = -1 := by
        rw [List.getElem?_eq_getElem hlt] at h1
        exact Option.some.inj h1
      have hs2 : DInv n (s.1.set k.toNat d, s.2 ++ [k]) := by
        refine ⟨by simp [hs.len], ?_, ?_⟩
        · intro v hv
          rcases List.mem_or_eq_of_mem_set hv with h | h
          · exact hs.rng v h
          · subst h; omega
        · intro j hj
          simp only [List.mem_append, List.mem_singleton] at hj
          rcases hj with hj | hj
          · obtain ⟨a, b, v, hv, hv0⟩ := hs.pla j hj
            refine ⟨a, b, v, ?_, hv0⟩
            have hne : k.toNat ≠ j.toNat := by
              intro he
              rw [← he, List.getElem?_eq_getElem hlt, hg] at hv
              have := Option.some.inj hv
              omega
            show (s.1.set k.toNat d)[j.toNat]? = some v
            rw [List.getElem?_set_ne hne]
            exact hv
          · subst hj
            refine ⟨hk0.1, hk0.2, d, ?_, hd.1⟩
            show (s.1.set j.toNat d)[j.toNat]? = some d
            rw [List.getElem?_set_self hlt]
      obtain ⟨i1, i2, i3, i4⟩ := pushG_inv hd ks _ t hks hs2 h
      refine ⟨i1, ?_, ?_, ?_⟩
      · rw [i2]
        unfold meas
        simp only [List.length_append, List.length_singleton]
        have hc : (s.1.set k.toNat d).count (-1) = s.1.count (-1) - 1 := by
          rw [List.count_set hlt, hg]
          have : (d == -1) = false := by simp; omega
          simp [this]
        have hp : 0 < s.1.count (-1) := List.count_pos_iff.2 (by rw [← hg]; exact List.getElem_mem hlt)
        omega
      · simp only [List.length_append, List.length_singleton] at i3
        simp only [List.length_cons]
        omega
      · intro v hv hv0
        refine i4 v ?_ hv0
        have hne : k.toNat ≠ n := by
          intro he
          rw [← he, List.getElem?_eq_getElem hlt, hg] at hv
          have := Option.some.inj hv
          omega
        show (s.1.set k.toNat d)[n]? = some v
        rw [List.getElem?_set_ne hne]
        exact hv
    · split at h
      · obtain ⟨i1, i2, i3, i4⟩ := pushG_inv hd ks s t hks hs h
        exact ⟨i1, i2, by simp only [List.length_cons]; omega, i4⟩
      · exact absurd h (by simp)
theorem pop_inv {n : Nat} {o td : List Int} {k : Int} (h : DInv n (o, td ++ [k])) : DInv n (o, td) ∧ meas (o, td ++ [k]) = meas (o, td) + 1 :=
  ⟨⟨h.len, h.rng, fun j hj => h.pla j (List.mem_append_left _ hj)⟩, by unfold meas; simp; omega⟩
end Go.AE.F
namespace Go.AE.F
open Go.AE
abbrev OpT := Int × Int × Unit
def tkOk (o : Option (Int × Int)) : Prop := ∃ a b, o = some (a, b) ∧ 0 ≤ a ∧ a ≤ 2 ∧ 0 ≤ b ∧ b ≤ 1
theorem tk_if {c : Bool} {x y : Option (Int × Int)} (hx : tkOk x) (hy : tkOk y) : tkOk (ifB c x y) := by cases c with | false => exact hy | true => exact hx
noncomputable def takesG (k : Int) : Int × Int := (spec_l13Takes 0 k).getD (0, 0)
theorem takes_tk (N : Nat) (k : Int) : tkOk (spec_l13Takes N k) := by
  unfold spec_l13Takes
  repeat' (first | exact ⟨_, _, rfl, by decide, by decide, by decide, by decide⟩ | apply tk_if)
theorem spec_takes (N : Nat) (k : Int) : spec_l13Takes N k = some (takesG k) := by
  obtain ⟨a, b, h, _⟩ := takes_tk N k
  have h0 : spec_l13Takes 0 k = spec_l13Takes N k := rfl
  unfold takesG
  rw [h0, h]; rfl
theorem impl_takes_eq (N : Nat) (k : Int) : impl_takes N k = some (takesG k) := (show impl_takes N k = spec_l13Takes N k from rfl).trans (spec_takes N k)
theorem takes_bd (k : Int) : 0 ≤ (takesG k).1 ∧ (takesG k).1 ≤ 2 ∧ 0 ≤ (takesG k).2 ∧ (takesG k).2 ≤ 1 := by
  obtain ⟨a, b, h, h1⟩ := takes_tk 0 k
  unfold takesG
  rw [h]; exact h1
def isB (o : Option Bool) : Prop := ∃ b, o = some b
theorem isB_if {c : Bool} {x y : Option Bool} (hx : isB x) (hy : isB y) : isB (ifB c x y) := by cases c with | false => exact hy | true => exact hx
noncomputable def opG (o : OpT) (n : Int) : Bool := (spec_l13Op 0 o n).getD false
theorem spec_op (N : Nat) (o : OpT) (n : Int) : spec_l13Op N o n = some (opG o n) := by
  have h : isB (spec_l13Op N o n) := by
    unfold spec_l13Op
    simp only [ifB_and, bindO_s]
    repeat' (first | exact ⟨_, rfl⟩ | apply isB_if)
  obtain ⟨b, h⟩ := h
  have h0 : spec_l13Op 0 o n = spec_l13Op N o n := rfl
  unfold opG
  rw [h0, h]; rfl
theorem impl_op (N : Nat) (o : OpT) (n : Int) : impl_opRight N o n = some (opG o n) := by
  rw [← spec_op N o n]
  unfold impl_opRight spec_l13Op
  simp only [impl_within_eq, ifB_and, bindO_s]
  rfl
theorem op_num {o : OpT} {n : Int} (h : opG o n = true) (hk : o.1 = 11 ∨ o.1 = 12) : 0 ≤ o.2.1 ∧ o.2.1 ≤ n := by
  have h0 := spec_op 0 o n
  rw [h] at h0
  unfold spec_l13Op at h0
  simp only [ifB_and, bindO_s] at h0
  rcases hk with hk | hk
  · simp only [hk, show pEq 11 2 = false from rfl, show pEq 11 3 = false from rfl, show pEq 11 4 = false from rfl, show pEq 11 10 = false from rfl, show pEq 11 11 = true from rfl, ifB_f, ifB_t, pGe_d, pLe_d, Option.some.injEq, Bool.and_eq_true, decide_eq_true_eq] at h0
    exact h0
  · simp only [hk, show pEq 12 2 = false from rfl, show pEq 12 3 = false from rfl, show pEq 12 4 = false from rfl, show pEq 12 10 = false from rfl, show pEq 12 11 = false from rfl, show pEq 12 12 = true from rfl, ifB_f, ifB_t, pGe_d, pLe_d, Option.some.injEq, Bool.and_eq_true, decide_eq_true_eq] at h0
    exact h0
noncomputable def opsG (l : List OpT) : Bool := l.all fun o => opG o l.length
theorem impl_opsIdx {N : Nat} (l : List OpT) (e : Int) (hb : l.length ≤ 9223372036854775806) :
    ∀ (m i n : Nat), l.length - i = m → i ≤ l.length → m < n →
    ∃ v : Int, loopP (slices_IndexFunc_Simpl_Op_impl_Op__impl_depths_c1.l2 N) n (l, e, (l.length : Int), (i : Int), ()) (onSum (fun _ => some (-1)) (fun d => let x21 := d.1; some x21)) = some v ∧ pGe v 0 = !((l.drop i).all fun o => opG o e) := by
  intro m
  induction m with
  | zero =>
    intro i n hm hi hn
    obtain ⟨n, rfl⟩ := succ_of hn
    refine ⟨-1, ?_, ?_⟩
    · rw [loopP_s]; unfold slices_IndexFunc_Simpl_Op_impl_Op__impl_depths_c1.l2; simp only []
      rw [pLt_f (by omega), ifB_f]; rfl
    · rw [List.drop_eq_nil_of_le (by omega)]; rfl
  | succ m ih =>
    intro i n hm hi hn
    obtain ⟨n, rfl⟩ := succ_of hn
    have hlt : i < l.length := by omega
    rw [loopP_s]; unfold slices_IndexFunc_Simpl_Op_impl_Op__impl_depths_c1.l2; simp only []
    unfold impl_depths_c1
    rw [pLt_t (by omega), ifB_t, idx_lt hlt, bindO_s, impl_op, bindO_s, bindO_s, drop_c hlt, List.all_cons]
    cases hp : opG l[i] e with
    | false =>
      rw [pNot_d, Bool.not_false, ifB_t]
      exact ⟨(i : Int), rfl, by rw [pGe_t (by omega)]; rfl⟩
    | true =>
      rw [pNot_d, Bool.not_true, ifB_f, pAdd_i (by omega) (by omega), Bool.true_and]
      exact ih (i + 1) n (by omega) (by omega) (by omega)
theorem impl_ops (N : Nat) (l : List OpT) (hb : l.length ≤ 9223372036854775806) (hN : l.length < N) : slices_ContainsFunc_Simpl_Op_impl_Op__impl_depths_c1 N l (l.length : Int) = some (!opsG l) := by
  unfold slices_ContainsFunc_Simpl_Op_impl_Op__impl_depths_c1 slices_IndexFunc_Simpl_Op_impl_Op__impl_depths_c1
  obtain ⟨v, h1, h2⟩ := impl_opsIdx (N := N) l (l.length : Int) hb _ 0 N rfl (by omega) (by omega)
  rw [pLen_d]
  rw [show ((0 : Nat) : Int) = 0 from rfl] at h1
  rw [h1, bindO_s, h2, List.drop_zero]
  rfl
def nextG (o : OpT) (k : Int) : List Int := if o.1 = 11 then [o.2.1] else if o.1 = 12 then [k + 1, o.2.1] else [k + 1]
noncomputable def stepG (ops : List OpT) (s : List Int × List Int) (k : Nat) (o : OpT) : Option (List Int × List Int) :=
  let d := (s.1[k]?.getD 0) - (takesG o.1).1
  if d < 0 ∨ d + (takesG o.1).2 > 24 then none else pushG (d + (takesG o.1).2) (nextG o k) s
theorem spec_push {N : Nat} {R : Type} (ops : List OpT) (nn d : Int) (ks : List Int) (hks2 : ks.length ≤ 2) (kk : (List OpT × Int × List Int × List Int × Unit) ⊕ (Bool × List Int × Unit) → Option R) :
    ∀ (m i n : Nat) (s : List Int × List Int), (∀ k ∈ ks, 0 ≤ k ∧ k < (s.1.length : Int)) → s.2.length + m ≤ 10000 → ks.length - i = m → i ≤ ks.length → m < n →
    ∃ out', loopP (spec_l13Depths.l24 N) n (ops, nn, d, (i : Int), s.1, s.2, ks, ()) kk = match pushG d (ks.drop i) s with | some t => kk (.inl (ops, nn, t.1, t.2, ())) | none => kk (.inr (false, out', ())) := by
  intro m
  induction m with
  | zero =>
    intro i n s hks hs hm hi hn
    obtain ⟨n, rfl⟩ := succ_of hn
    refine ⟨[], ?_⟩
    rw [loopP_s]; unfold spec_l13Depths.l24; simp only [pLen_d]
    rw [pLt_f (by omega), ifB_f, List.drop_eq_nil_of_le (by omega)]
    rfl
  | succ m ih =>
    intro i n s hks hs hm hi hn
    obtain ⟨n, rfl⟩ := succ_of hn
    have hlt : i < ks.length := by omega
    obtain ⟨h0, h1⟩ := hks _ (List.getElem_mem hlt)
    obtain ⟨q, hq⟩ : ∃ q : Nat, ks[i] = (q : Int) := ⟨ks[i].toNat, by omega⟩
    have hql : q < s.1.length := by omega
    rw [loopP_s]; unfold spec_l13Depths.l24; simp only [pLen_d]
    rw [pLt_t (by omega), ifB_t, drop_c hlt]
    simp only [idx_lt hlt, bindO_s, hq, idx_lt hql]
    unfold pushG
    simp only [Int.toNat_natCast, List.getElem?_eq_getElem hql, Option.some.injEq]
    by_cases e1 : s.1[q] = -1
    · rw [pEq_t e1, ifB_t, pFit_t (by simp; omega), ifB_t, bindO_s, if_pos e1]
      simp only [onSum]
      rw [pAdd_i (by omega) (by omega)]
      exact ih (i + 1) n (s.1.set q d, s.2 ++ [(q : Int)]) (by simpa using hks) (by simp; omega) (by omega) (by omega) (by omega)
    · rw [pEq_f e1, ifB_f, if_neg e1]
      by_cases e2 : s.1[q] = d
      · rw [pNe_f e2, ifB_f, bindO_s, if_pos e2]
        simp only [onSum]
        rw [pAdd_i (by omega) (by omega)]
        exact ih (i + 1) n s hks (by omega) (by omega) (by omega) (by omega)
      · rw [pNe_t e2, ifB_t, bindO_s, if_neg e2]
        exact ⟨s.1, rfl⟩
theorem impl_push {N : Nat} {R : Type} (ops : List OpT) (nn d mo : Int) (ks : List Int) (hd : -100 ≤ d ∧ d ≤ 100 ∧ -100 ≤ mo ∧ mo ≤ 100) (hks2 : ks.length ≤ 2) (kk : (List OpT × Int × List Int × List Int × Unit) ⊕ (Bool × List Int × Unit) → Option R) :
    ∀ (m i n : Nat) (s : List Int × List Int), (∀ k ∈ ks, 0 ≤ k ∧ k < (s.1.length : Int)) → s.2.length + m ≤ 10000 → ks.length - i = m → i ≤ ks.length → m < n →
    loopP (impl_depths.l24 N) n (ops, mo, d, (ks.length : Int), (i : Int), nn, s.1, s.2, ks, ()) kk = match pushG (d + mo) (ks.drop i) s with | some t => kk (.inl (ops, nn, t.1, t.2, ())) | none => kk (.inr (false, [], ())) := by
  intro m
  induction m with
  | zero =>
    intro i n s hks hs hm hi hn
    obtain ⟨n, rfl⟩ := succ_of hn
    rw [loopP_s]; unfold impl_depths.l24; simp only []
    rw [pLt_f (by omega), ifB_f, List.drop_eq_nil_of_le (by omega)]
    rfl
  | succ m ih =>
    intro i n s hks hs hm hi hn
    obtain ⟨n, rfl⟩ := succ_of hn
    have hlt : i < ks.length := by omega
    obtain ⟨h0, h1⟩ := hks _ (List.getElem_mem hlt)
    obtain ⟨q, hq⟩ : ∃ q : Nat, ks[i] = (q : Int) := ⟨ks[i].toNat, by omega⟩
    have hql : q < s.1.length := by omega
    rw [loopP_s]; unfold impl_depths.l24; simp only []
    rw [pLt_t (by omega), ifB_t, drop_c hlt]
    simp only [idx_lt hlt, bindO_s, hq, idx_lt hql]
    unfold pushG
    simp only [Int.toNat_natCast, List.getElem?_eq_getElem hql, Option.some.injEq]
    rw [pAdd_i (a := d) (b := mo) (by omega) (by omega)]
    by_cases e1 : s.1[q] = -1
    · rw [pEq_t e1, ifB_t, pFit_t (by simp; omega), ifB_t, bindO_s, if_pos e1]
      simp only [onSum]
      rw [pAdd_i (by omega) (by omega)]
      exact ih (i + 1) n (s.1.set q (d + mo), s.2 ++ [(q : Int)]) (by simpa using hks) (by simp; omega) (by omega) (by omega) (by omega)
    · rw [pEq_f e1, ifB_f, if_neg e1]
      by_cases e2 : s.1[q] = d + mo
      · rw [pEq_t e2, ifB_t, bindO_s, if_pos e2]
        simp only [onSum]
        rw [pAdd_i (by omega) (by omega)]
        exact ih (i + 1) n s hks (by omega) (by omega) (by omega) (by omega)
      · rw [pEq_f e2, ifB_f, bindO_s, if_neg e2]
        rfl
end Go.AE.F
