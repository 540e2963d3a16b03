/- Marks: a row is filled with numbers that count up, and asked whether it still holds them. -/
import Derived.Test.YtjofefnjigmnlaaPLaw
namespace Go.AE.F
open Go.AE

/-- numbers that count up -/
def cnt (k : Int) (n : Nat) : List Int := (List.range n).map fun i : Nat => k + (i : Int)
theorem cnt_len (k : Int) (n : Nat) : (cnt k n).length = n := by simp [cnt]
theorem cnt_get (k : Int) (n i : Nat) (h : i < n) : (cnt k n)[i]'(by rw [cnt_len]; exact h) = k + (i : Int) := by simp [cnt]

theorem mark_loop {N : Nat} {R : Type} (k0 : Int) (L : Nat) (hk : 0 ≤ k0) (hL : k0 + L ≤ 4611686018427387904) (kk : Int × List Int × Unit → Option R) : ∀ (m i n : Nat) (l : List Int), L - i = m → i ≤ L → m < n → l.length = L → l.take i = (cnt k0 L).take i →
    loopP (laws_markInt64S.l2 N) n (k0 + i, (i : Int), l, ()) kk = kk (k0 + L, cnt k0 L, ()) := by
  intro m
  induction m with
  | zero =>
    intro i n l hm hi hn hl ht
    obtain ⟨n, rfl⟩ := succ_of hn
    have hiL : i = L := by omega
    have e : l = cnt k0 L := by
      rw [List.take_of_length_le (by omega), List.take_of_length_le (by rw [cnt_len]; omega)] at ht
      exact ht
    simp only [loopP_s, laws_markInt64S.l2, pLen_d]
    rw [pLt_f (by omega), ifB_f, e, hiL]
  | succ m ih =>
    intro i n l hm hi hn hl ht
    obtain ⟨n, rfl⟩ := succ_of hn
    have hlt : i < l.length := by omega
    simp only [loopP_s, laws_markInt64S.l2, pLen_d]
    rw [pLt_t (by omega), ifB_t, idx_lt hlt, bindO_s, bindO_s, pAdd_i (by omega) (by omega), pAdd_i (by omega) (by omega)]
    have := ih (i + 1) n (pSet l (i : Int) (k0 + i)) (by omega) (by omega) (by omega) (by simp [pSet, hl]) (by
      rw [List.take_succ_eq_append_getElem (by simp [pSet]; omega), List.take_succ_eq_append_getElem (by rw [cnt_len]; omega)]
      congr 1
      · rw [← ht]; simp [pSet, List.take_set_of_le]
      · rw [cnt_get k0 L i (by omega)]; simp [pSet])
    refine Eq.trans ?_ this
    congr 2
    omega

theorem markInt64S_eq (N : Nat) (l : List Int) (k : Int) (hk : 0 ≤ k) (hL : k + l.length ≤ 4611686018427387904) (hN : l.length < N) : laws_markInt64S N l k = some (k + l.length, cnt k l.length) := by
  unfold laws_markInt64S
  have := mark_loop (N := N) k l.length hk hL (fun d => let x44 := d.1; let x45 := d.2.1; some (x44, x45)) _ 0 N l rfl (by omega) (by omega) rfl (by simp)
  rw [show k + ((0 : Nat) : Int) = k from by omega] at this
  exact this

theorem held_loop {N : Nat} {R : Type} (k0 : Int) (L : Nat) (hk : 0 ≤ k0) (hL : k0 + L ≤ 4611686018427387904) (kk : (Int × Unit) ⊕ (Int × Unit) → Option R) : ∀ (m i n : Nat), L - i = m → i ≤ L → m < n →
    loopP (laws_heldInt64S.l2 N) n (cnt k0 L, k0 + i, (i : Int), ()) kk = kk (.inl (k0 + L, ())) := by
  intro m
  induction m with
  | zero =>
    intro i n hm hi hn
    obtain ⟨n, rfl⟩ := succ_of hn
    have hiL : i = L := by omega
    simp only [loopP_s, laws_heldInt64S.l2, pLen_d]
    rw [pLt_f (by rw [cnt_len]; omega), ifB_f, hiL]
  | succ m ih =>
    intro i n hm hi hn
    obtain ⟨n, rfl⟩ := succ_of hn
    have hlt : i < (cnt k0 L).length := by rw [cnt_len]; omega
    simp only [loopP_s, laws_heldInt64S.l2, pLen_d]
    rw [pLt_t (by rw [cnt_len]; omega), ifB_t, idx_lt hlt, bindO_s, cnt_get k0 L i (by omega), pNe_f rfl, ifB_f, pAdd_i (by omega) (by omega), pAdd_i (by omega) (by omega)]
    have := ih (i + 1) n (by omega) (by omega) (by omega)
    refine Eq.trans ?_ this
    congr 3
    omega

theorem heldInt64S_eq (N : Nat) (L : Nat) (k : Int) (hk : 0 ≤ k) (hL : k + L ≤ 4611686018427387904) (hN : L < N) : laws_heldInt64S N (cnt k L) k = some (k + L) := by
  unfold laws_heldInt64S
  have := held_loop (N := N) k L hk hL (onSum (fun d => let x32 := d.1; some x32) (fun d => let x33 := d.1; some x33)) _ 0 N rfl (by omega) (by omega)
  rw [show k + ((0 : Nat) : Int) = k from by omega] at this
  exact this

theorem markSS_loop {N : Nat} {R : Type} (l0 : List (List Int)) (hN : ∀ x ∈ l0, x.length < N) (hS : sumLen l0 ≤ 4194304) (hl : l0.length ≤ 4194304) (kk : Int × List (List Int) × Unit → Option R) : ∀ (m i n : Nat) (k : Int) (l : List (List Int)), l0.length - i = m → i ≤ l0.length → m < n →
    l.length = l0.length → l.drop i = l0.drop i → 0 ≤ k → k + sumLen (l0.drop i) ≤ 4611686018427387904 →
    ∃ l', l'.length = l0.length ∧ loopP (laws_markInt64SS.l2 N) n (k, (i : Int), l, ()) kk = kk (k + sumLen (l0.drop i), l', ()) := by
  intro m
  induction m with
  | zero =>
    intro i n k l hm hi hn hll hd hk hs
    obtain ⟨n, rfl⟩ := succ_of hn
    refine ⟨l, hll, ?_⟩
    simp only [loopP_s, laws_markInt64SS.l2, pLen_d]
    rw [pLt_f (by omega), ifB_f, List.drop_eq_nil_of_le (as := l0) (by omega)]
    simp [sumLen]
  | succ m ih =>
    intro i n k l hm hi hn hll hd hk hs
    obtain ⟨n, rfl⟩ := succ_of hn
    have hlt : i < l0.length := by omega
    have hlt2 : i < l.length := by omega
    have ei : l[i] = l0[i] := by
      rw [drop_c hlt, drop_c hlt2] at hd
      exact (List.cons.inj hd).1
    have ed : l.drop (i + 1) = l0.drop (i + 1) := by
      rw [drop_c hlt, drop_c hlt2] at hd
      exact (List.cons.inj hd).2
    have es : sumLen (l0.drop i) = l0[i].length + sumLen (l0.drop (i + 1)) := by rw [drop_c hlt]; rfl
    rw [es] at hs
    obtain ⟨l', h1, h2⟩ := ih (i + 1) n (k + l0[i].length) (pSet l (i : Int) (cnt k l0[i].length)) (by omega) (by omega) (by omega) (by simp [pSet, hll]) (by
      rw [← ed]; simp only [pSet, Int.toNat_natCast]; exact List.drop_set_of_lt (by omega)) (by omega) (by omega)
    refine ⟨l', h1, ?_⟩
    simp only [loopP_s, laws_markInt64SS.l2, pLen_d]
    rw [pLt_t (by omega), ifB_t, idx_lt hlt2, bindO_s, bindO_s, bindO_s, ei, markInt64S_eq N l0[i] k hk (by omega) (hN _ (List.getElem_mem hlt)), bindO_s, bindO_s, pAdd_i (by omega) (by omega)]
    refine Eq.trans h2 ?_
    rw [es]
    congr 2
    omega

theorem markInt64SS_eq (N : Nat) (l : List (List Int)) (k : Int) (hk : 0 ≤ k) (hk2 : k ≤ 4194304) (hN : l.length < N) (hNx : ∀ x ∈ l, x.length < N) (hS : sumLen l ≤ 4194304) (hl : l.length ≤ 4194304) : ∃ l', laws_markInt64SS N l k = some (k + sumLen l, l') := by
  unfold laws_markInt64SS
  obtain ⟨l', _, h⟩ := markSS_loop (N := N) l hNx hS hl (fun d => let x80 := d.1; let x81 := d.2.1; some (x80, x81)) _ 0 N k l rfl (by omega) (by omega) rfl rfl hk (by rw [List.drop_zero]; omega)
  rw [List.drop_zero] at h
  exact ⟨l', h⟩

end Go.AE.F
