/- Plain laws of those functions. -/
import Derived.Test.YtpenpjbobpalcaaXCodeOfP8
namespace Go.AE.F
open Go.AE
theorem quo10 {a : Int} (h0 : 0 ≤ a) (h2 : a ≤ 9223372036854775807) : pQuo .i64 a 10 = a / 10 := by
  unfold pQuo
  rw [Int.tdiv_eq_ediv_of_nonneg h0]
  exact zCJ (by omega) (by omega)
theorem zE7 (N : Nat) (hN : 2000 < N) (l : List NodeT) (hl2 : l.length ≤ 100000000) : Tot (fun ops : List OpT => ops.length ≤ 1000) (zB5 N l) := by
  by_cases h : l.length ≤ 400
  · exact zEE N hN l (by omega)
  · unfold zB5
    rw [zBK, pGt_t (by omega), ifB_t, zA8, ifB_t]
    exact Tot.ret (by simp)
theorem zD0 (N : Nat) (hN : 30 < N) (k : Int) (h0 : 0 ≤ k) (h1 : k ≤ 1000000000) : ∃ s, zAD N k = some s := by
  have : Tot TT (zAD N k) := by
    unfold zAD
    refine Tot.both (Tot.ret trivial) ?_
    refine zBR (fun m d => 0 ≤ d.1 ∧ d.1 < 10 ^ m ∧ d.1 ≤ 1000000000 ∧ d.2.1.size + m ≤ 20) (fun e => e.1.size ≤ 20) ?_ ?_ N 10 _ (by omega) ⟨h0, by show k < 10 ^ 10; omega, h1, by show (0 : Nat) + 10 ≤ 20; omega⟩
    · intro e he
      simp only []
      rw [show pFitS (ByteArray.mk #[109]) e.1 = true from decide_eq_true (by show 1 + e.1.size ≤ _; omega), ifB_t]
      exact Tot.ret trivial
    · intro m d kn kx ⟨g1, g2, g3, g4⟩ hn hx
      unfold zAD.l4
      simp only []
      by_cases hp : d.1 > 0
      · cases m with
        | zero => simp at g2; omega
        | succ m =>
          have hb : ∀ v : Int, (bytesOf [v]).size = 1 := fun v => rfl
          rw [pGt_t hp, ifB_t, pEq_f (by omega), ifB_f, show pFitS (bytesOf [(pConv .u8 (pAdd .i64 48 (pRem d.1 10)))]) d.2.1 = true from decide_eq_true (by rw [hb]; omega), ifB_t, ifB_f]
          refine hn m _ (by omega) ⟨?_, ?_, ?_, ?_⟩
          · show 0 ≤ pQuo .i64 d.1 10
            rw [quo10 g1 (by omega)]; omega
          · show pQuo .i64 d.1 10 < 10 ^ m
            rw [quo10 g1 (by omega)]
            rw [Int.pow_succ] at g2
            omega
          · show pQuo .i64 d.1 10 ≤ _
            rw [quo10 g1 (by omega)]; omega
          · show (pCat _ d.2.1).size + m ≤ 20
            rw [show ∀ a b : ByteArray, (pCat a b).size = a.size + b.size from fun a b => ByteArray.size_append, hb]; omega
      · rw [pGt_f (by omega), ifB_f]
        exact hx _ (by show d.2.1.size ≤ 20; omega)
  obtain ⟨s, h, _⟩ := this
  exact ⟨s, h⟩
def cntO (k : Int) (n : Nat) : List OpT := (List.range n).map fun i : Nat => (k + 2 * (i : Int), (k + 2 * (i : Int) + 1, ()))
theorem zBX (k : Int) (n : Nat) : (cntO k n).length = n := by simp [cntO]
theorem zDE (k : Int) (n i : Nat) (h : i < n) : (cntO k n)[i]'(by rw [zBX]; exact h) = (k + 2 * (i : Int), (k + 2 * (i : Int) + 1, ())) := by simp [cntO]
theorem zDL {N : Nat} {R : Type} (L : Nat) (hL : L ≤ 1048576) (kk : Int × List OpT × Unit → Option R) : ∀ (m i n : Nat) (l : List OpT), L - i = m → i ≤ L → m < n → l.length = L → l.take i = (cntO 1 L).take i →
    loopP (zAI.l2 N) n (1 + 2 * (i : Int), (i : Int), l, ()) kk = kk (1 + 2 * (L : Int), cntO 1 L, ()) := by
  intro m
  induction m with
  | zero =>
    intro i n l hm hi hn hl ht
    obtain ⟨n, rfl⟩ := zBL hn
    have hiL : i = L := by omega
    have e : l = cntO 1 L := by
      rw [List.take_of_length_le (by omega), List.take_of_length_le (by rw [zBX]; omega)] at ht
      exact ht
    rw [zBJ]; unfold zAI.l2; simp only [zBK]
    rw [pLt_f (by omega), ifB_f, e, hiL]
  | succ m ih =>
    intro i n l hm hi hn hl ht
    obtain ⟨n, rfl⟩ := zBL hn
    have hlt : i < l.length := by omega
    rw [zBJ]; unfold zAI.l2; simp only [zBK]
    have h2 : ∀ v : OpT, idx (pSet l (i : Int) v) (i : Int) = some v := fun v => by
      unfold pSet
      rw [Int.toNat_natCast, zBM (by simpa using hlt)]
      simp
    rw [pLt_t (by omega), ifB_t, zBM hlt, zA8, zA8, h2, zA8, zA8, zBI (a := 1 + 2 * (i : Int)) (by omega) (by omega), zBI (a := 1 + 2 * (i : Int) + 1) (by omega) (by omega), zBI (a := (i : Int)) (by omega) (by omega)]
    have := ih (i + 1) n (pSet (pSet l (i : Int) (1 + 2 * (i : Int), l[i].2)) (i : Int) (1 + 2 * (i : Int), (1 + 2 * (i : Int) + 1, l[i].2.2))) (by omega) (by omega) (by omega) (by simp [pSet, hl]) (by
      rw [List.take_succ_eq_append_getElem (by simp [pSet]; omega), List.take_succ_eq_append_getElem (by rw [zBX]; omega)]
      congr 1
      · rw [← ht]; simp [pSet, List.take_set_of_le]
      · rw [zDE 1 L i (by omega)]; simp [pSet])
    refine Eq.trans ?_ this
    congr 2 <;> omega
theorem zEL (N : Nat) (l : List OpT) (hl : l.length ≤ 1048576) (hN : l.length < N) : zAI N l 1 = some ((1 : Int) + 2 * (l.length : Int), cntO 1 l.length) := by
  unfold zAI
  exact zDL (N := N) l.length hl (fun d => some (d.1, d.2.1)) l.length 0 N l rfl (by omega) (by omega) rfl (by simp)
theorem zDO {N : Nat} {R : Type} (L : Nat) (hL : L ≤ 1048576) (kk : (Int × Unit) ⊕ (Int × Unit) → Option R) : ∀ (m i n : Nat), L - i = m → i ≤ L → m < n →
    loopP (zAH.l2 N) n (cntO 1 L, 1 + 2 * (i : Int), (i : Int), ()) kk = kk (.inl (1 + 2 * (L : Int), ())) := by
  intro m
  induction m with
  | zero =>
    intro i n hm hi hn
    obtain ⟨n, rfl⟩ := zBL hn
    have hiL : i = L := by omega
    rw [zBJ]; unfold zAH.l2; simp only [zBK, zBX]
    rw [pLt_f (by omega), ifB_f, hiL]
  | succ m ih =>
    intro i n hm hi hn
    obtain ⟨n, rfl⟩ := zBL hn
    have hlt : i < (cntO 1 L).length := by rw [zBX]; omega
    rw [zBJ]; unfold zAH.l2; simp only [zBK, zBX]
    rw [pLt_t (by omega), ifB_t, zBM hlt, zA8, zA8, zDE 1 L i (by omega), pNe_f rfl, ifB_f, zBI (a := 1 + 2 * (i : Int)) (by omega) (by omega), pNe_f rfl, ifB_f, zBI (a := 1 + 2 * (i : Int) + 1) (by omega) (by omega), zBI (a := (i : Int)) (by omega) (by omega)]
    have := ih (i + 1) n (by omega) (by omega) (by omega)
    refine Eq.trans ?_ this
    congr 3 <;> omega
theorem zEN (N : Nat) (L : Nat) (hL : L ≤ 1048576) (hN : L < N) : zAH N (cntO 1 L) 1 = some ((1 : Int) + 2 * (L : Int)) := by
  unfold zAH
  exact zDO (N := N) L hL (onSum (fun d => some d.1) (fun d => some d.1)) L 0 N rfl (by omega) (by omega)
theorem zDT (N : Nat) (l : List NodeT) (hl : l.length ≤ 9223372036854775807) (hs : ∀ n ∈ l, n.2.2.1.size ≤ 9223372036854775807) (hN : 1048577 < N) :
    Tot (fun v : Int => 0 ≤ v → l.length ≤ 1048576 ∧ ∀ n ∈ l, n.2.2.1.size ≤ 1048576) (zAK N l 1048576) := by
  unfold zAK
  rw [zBK, zE9 (by omega) (by omega)]
  refine Tot.ite (fun _ => Tot.ret (fun h => by omega)) (fun h => ?_)
  rw [pLt_d] at h
  have hle : l.length ≤ 1048576 := by have := of_decide_eq_false h; omega
  refine zBR (fun m d => ∃ i : Nat, d.2.2.1 = (i : Int) ∧ d.1 = l ∧ 0 ≤ d.2.1 ∧ d.2.1 ≤ 1048576 ∧ l.length ≤ m + i ∧ i ≤ l.length ∧ ∀ (j : Nat) (hj : j < l.length), j < i → l[j].2.2.1.size ≤ 1048576) (fun e => match e with | .inl _ => ∀ n ∈ l, n.2.2.1.size ≤ 1048576 | .inr x => x.1 < 0) ?_ ?_ N l.length _ (by omega)
    ⟨0, rfl, rfl, by show (0 : Int) ≤ 1048576 - (l.length : Int); omega, by show (1048576 : Int) - (l.length : Int) ≤ 1048576; omega, by omega, by omega, fun j _ hj => by omega⟩
  · intro e he
    rcases e with e | e
    · exact Tot.ret fun _ => ⟨hle, he⟩
    · exact Tot.ret fun h => by have he : e.1 < 0 := he; omega
  · intro m d kn kx ⟨i, g1, g2, g3, g4, g5, g6, g7⟩ hn hx
    unfold zAK.l5
    simp only [g1, g2, zBK]
    refine Tot.ite (fun h => ?_) (fun h => hx _ ?_)
    · have hi : i < l.length := by rw [pLt_d] at h; have := of_decide_eq_true h; omega
      rw [zBM hi, zA8]
      have hsz := hs l[i] (List.getElem_mem hi)
      unfold zBF
      unfold pSize
      rw [zE9 (by omega) (by omega)]
      by_cases hq : d.2.1 - (l[i].2.2.1.size : Int) < 0
      · rw [pLt_t hq, ifB_t, zA8, pLt_t (by omega), ifB_t]
        exact hx _ (by show (-1 : Int) < 0; omega)
      · rw [pLt_f (by omega), ifB_f, zA8, pLt_f (by omega), ifB_f]
        refine hn (m - 1) _ (by omega) ⟨i + 1, by show pAdd .i64 (i : Int) 1 = _; rw [zBI (by omega) (by omega)]; rfl, rfl, by show 0 ≤ d.2.1 - _; omega, by show d.2.1 - _ ≤ _; omega, by omega, by omega, fun j hj hji => ?_⟩
        by_cases e : j = i
        · subst e; omega
        · exact g7 j hj (by omega)
    · rw [pLt_d] at h
      have := of_decide_eq_false h
      intro n hmem
      obtain ⟨j, hj, e⟩ := List.mem_iff_getElem.1 hmem
      rw [← e]
      exact g7 j hj (by omega)
theorem zDP (N : Nat) (l : List NodeT) (hl : l.length ≤ 68719476736) (hN : l.length < N) : zAE N l = some l := by
  unfold zAE
  rw [zBK, pEq_t rfl, ifB_t, pLe_t (by omega), ifB_t, pLe_t (by omega), ifB_t]
  have := zE4 (R := List NodeT) (P := zBE N) (f := id) (xs := l) (by omega) (step := zAE.l3 N) (fun i out kn kx => by simp only [zAE.l3, zA8, zBK]) (fun _ _ => rfl) (fun d => let x55 := d.1; some x55) _ 0 N (pRepl (l.length : Int) (0, (0, ((ByteArray.mk #[]), (0, ()))))) rfl (by omega) (by omega) (zEG _ _) (by simp)
  refine Eq.trans this ?_
  simp
theorem zDC (N : Nat) (l : List NodeT) (hl : l.length ≤ 1000000000) {R : Type} (k : (Unit) ⊕ (Bool × Unit) → Option R) : ∀ (n i : Nat), i ≤ l.length → l.length < n + i →
    loopP (zAJ.l4 N) n (l, l, (i : Int), ()) k = k (.inl ())
  | 0, i, h1, h2 => by omega
  | n + 1, i, h1, h2 => by
    rw [zBJ]; unfold zAJ.l4; simp only [zBK]
    by_cases hi : i < l.length
    · have he : zBC N l[i] l[i] = some true := by
        unfold zBC
        rw [pNe_f rfl, ifB_f, pNe_f rfl, ifB_f, zC7]
        show ifB false _ _ = _
        rw [ifB_f, pNe_f rfl, ifB_f]
      rw [pLt_t (by omega), ifB_t, zBM hi, zA8, zA8, he, zA8, zBS, Bool.not_true, ifB_f, zBI (by omega) (by omega)]
      exact zDC N l hl k n (i + 1) (by omega) (by omega)
    · rw [pLt_f (by omega), ifB_f]
theorem zCY (N : Nat) (l : List NodeT) (hl : l.length ≤ 1000000000) (hN : l.length < N) : zAJ N l l = some true := by
  unfold zAJ
  rw [pNe_f rfl, ifB_f]
  exact zDC N l hl _ N 0 (by omega) (by omega)
theorem zDN {N : Nat} (hN : 30 < N) {R : Type} (L : Nat) (hL : L ≤ 1048576) (kk : Int × List NodeT × Unit → Option R) : ∀ (m i n : Nat) (l : List NodeT), L - i = m → i ≤ L → m < n → l.length = L →
    ∃ l', loopP (zAB.l2 N) n (1 + 4 * (i : Int), (i : Int), l, ()) kk = kk (1 + 4 * (L : Int), l', ()) := by
  intro m
  induction m with
  | zero =>
    intro i n l hm hi hn hl
    obtain ⟨n, rfl⟩ := zBL hn
    refine ⟨l, ?_⟩
    rw [zBJ]; unfold zAB.l2; simp only [zBK]
    rw [pLt_f (by omega), ifB_f, show i = L by omega]
  | succ m ih =>
    intro i n l hm hi hn hl
    obtain ⟨n, rfl⟩ := zBL hn
    have hlt : i < l.length := by omega
    rw [zBJ]; unfold zAB.l2; simp only [zBK]
    have h2 : ∀ (l : List NodeT) (v : NodeT), i < l.length → idx (pSet l (i : Int) v) (i : Int) = some v := fun l v hlt => by
      unfold pSet
      rw [Int.toNat_natCast, zBM (by simpa using hlt)]
      simp
    have hps : ∀ (l : List NodeT) (v : NodeT), (pSet l (i : Int) v).length = l.length := fun l v => by simp [pSet]
    have a1 : pAdd .i64 (1 + 4 * (i : Int)) 1 = 2 + 4 * (i : Int) := by rw [zBI (by omega) (by omega)]; omega
    have a2 : pAdd .i64 (2 + 4 * (i : Int)) 1 = 3 + 4 * (i : Int) := by rw [zBI (by omega) (by omega)]; omega
    have a3 : pAdd .i64 (3 + 4 * (i : Int)) 1 = 4 + 4 * (i : Int) := by rw [zBI (by omega) (by omega)]; omega
    have a4 : pAdd .i64 (4 + 4 * (i : Int)) 1 = 1 + 4 * ((i + 1 : Nat) : Int) := by rw [zBI (by omega) (by omega)]; omega
    have a5 : pAdd .i64 (i : Int) 1 = ((i + 1 : Nat) : Int) := by rw [zBI (by omega) (by omega)]; rfl
    obtain ⟨s, hs⟩ := zD0 N hN (3 + 4 * (i : Int)) (by omega) (by omega)
    rw [pLt_t (by omega), ifB_t, zBM hlt, zA8, zA8, h2 _ _ hlt, zA8, zA8, a1, a2, hs, zA8, h2 _ _ (by rw [hps]; exact hlt), zA8, zA8, h2 _ _ (by rw [hps, hps]; exact hlt), zA8, zA8, a3, a4, a5]
    exact ih (i + 1) n _ (by omega) (by omega) (by omega) (by rw [hps, hps, hps, hps]; exact hl)
theorem zCK (N : Nat) (l : List NodeT) (hl : l.length ≤ 1048576) (hN : l.length < N) (hN2 : 30 < N) : ∃ l', zAB N l 1 = some ((1 : Int) + 4 * (l.length : Int), l') := by
  unfold zAB
  obtain ⟨l', h⟩ := zDN hN2 l.length hl (fun d => some (d.1, d.2.1)) l.length 0 N l rfl (by omega) (by omega) rfl
  exact ⟨l', h⟩
theorem pure_FnExactCodeOf (l : List NodeT) (h : l.length ≤ 9223372036854775807 ∧ ∀ a ∈ l, (IntKind.i64.min ≤ a.1 ∧ a.1 ≤ IntKind.i64.max) ∧ (IntKind.i64.min ≤ a.2.1 ∧ a.2.1 ≤ IntKind.i64.max) ∧ a.2.2.1.size ≤ 9223372036854775807 ∧ (IntKind.i64.min ≤ a.2.2.2.1 ∧ a.2.2.2.1 ≤ IntKind.i64.max) ∧ True) : ∃ N, zAP N l = some true := by
  refine ⟨2000000, ?_⟩
  unfold zAP
  obtain ⟨v, q1, q2⟩ := zDT 2000000 l h.1 (fun n hn => (h.2 n hn).2.2.1) (by omega)
  rw [q1, zA8]
  by_cases hv : v < 0
  · rw [pLt_t hv, ifB_t]
  · rw [pLt_f (by omega), ifB_f]
    obtain ⟨hl, hs⟩ := q2 (by omega)
    have c1 : zAE 2000000 l = some l := zDP _ l (by omega) (by omega)
    obtain ⟨ops, c2, hops⟩ := zE7 2000000 (by omega) l (by omega)
    have c3 : zB9 2000000 l = some ops := (zE6 l 1048576 hs (by omega) 2000000 (by omega) (by omega)).trans c2
    have c4 : zAM 2000000 ops ops = some true := zDU _ ops (by omega) (by omega)
    have c5 : zAJ 2000000 l l = some true := zCY _ l (by omega) (by omega)
    obtain ⟨l', c6⟩ := zCK 2000000 l hl (by omega) (by omega)
    have c7 := zEL 2000000 ops (by omega) (by omega)
    have c8 := zEN 2000000 ops.length (by omega) (by omega)
    have e1 : pNot true = false := rfl
    have e2 : pLt ((1 : Int) + 4 * (l.length : Int)) 0 = false := pLt_f (by omega)
    have e3 : pLt ((1 : Int) + 2 * (ops.length : Int)) 0 = false := pLt_f (by omega)
    have e4 : pNe ((1 : Int) + 2 * (ops.length : Int)) ((1 : Int) + 2 * (ops.length : Int)) = false := pNe_f rfl
    simp only [c1, c2, c3, c4, c5, c6, c7, c8, zA8, ifB_f, e1, e2, e3, e4]
end Go.AE.F
