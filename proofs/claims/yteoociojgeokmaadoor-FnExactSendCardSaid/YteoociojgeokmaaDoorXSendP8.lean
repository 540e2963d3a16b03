/- Plain laws of those functions. -/
import Derived.Test.YteoociojgeokmaaDoorXSendP7
namespace Go.AE.F
open Go.AE
def byteL (l : List Int) : Prop := ∀ x ∈ l, 0 ≤ x ∧ x < 256
theorem byteL_app {a b : List Int} (h1 : byteL a) (h2 : byteL b) : byteL (a ++ b) := fun x hx => (List.mem_append.1 hx).elim (h1 x) (h2 x)
theorem byteL_strInts (b : ByteArray) : byteL (strInts b) := fun x hx => by
  unfold strInts at hx
  obtain ⟨c, _, rfl⟩ := List.mem_map.1 hx
  have := c.toNat_lt
  omega
theorem strInts_bytes : ∀ {l : List Int}, byteL l → strInts (bytesOf l) = l := by
  intro l h
  unfold strInts bytesOf
  simp only [List.map_map]
  have : ∀ x ∈ l, ((fun c : UInt8 => (c.toNat : Int)) ∘ fun n : Int => UInt8.ofNat n.toNat) x = x := fun x hx => by
    obtain ⟨h1, h2⟩ := h x hx
    simp only [Function.comp]
    have : (UInt8.ofNat x.toNat).toNat = x.toNat % 256 := by simp
    rw [this, Nat.mod_eq_of_lt (by omega)]
    omega
  rw [List.map_congr_left this, List.map_id']
theorem byteL_step (s : Int × List Int) (c : CellT) (h : byteL s.2) : byteL (rowStep s c).2 := by
  unfold rowStep
  split
  · exact h
  split
  · exact byteL_app h (byteL_strInts _)
  · exact byteL_app (byteL_app h (byteL_strInts _)) (byteL_strInts _)
theorem byteL_fold : ∀ (l : List CellT) (s : Int × List Int), byteL s.2 → byteL (l.foldl rowStep s).2
  | [], _, h => h
  | c :: l, s, h => byteL_fold l _ (byteL_step s c h)
theorem byteL_rowL (g : GridT) (C r : Nat) : byteL (rowL g C r) := by
  have := byteL_fold (gRow g C r) (0, headS r) (byteL_strInts _)
  unfold rowL
  simp only []
  split
  · exact this
  · exact byteL_app this (byteL_strInts _)
theorem sameCell_eq (N : Nat) (a b : CellT) (h : a.1.length ≤ 1048576) (hN : a.1.length < N) : impl_sameCells_c1 N a b = some (decide (a = b)) := by
  unfold impl_sameCells_c1
  rw [slices_Equal_eq N _ _ (by omega) hN]
  simp only [bindO_s, ifB_and, pEq_d]
  congr 1
  obtain ⟨a1, a2, _⟩ := a
  obtain ⟨b1, b2, _⟩ := b
  by_cases h1 : a1 = b1 <;> by_cases h2 : a2 = b2 <;> simp [h1, h2]
theorem sameCells_eq (N : Nat) (xs ys : List CellT) (hl : xs.length ≤ 2000) (hN : xs.length < N) (hc : ∀ c ∈ xs, c.1.length ≤ 1048576 ∧ c.1.length < N) : impl_sameCells N xs ys = some (decide (xs = ys)) := by
  unfold impl_sameCells slices_EqualFunc_Simpl_Cell__Simpl_Cell_impl_Cell_impl_Cell__impl_sameCells_c1
  simp only [pLen_d]
  by_cases h : xs.length = ys.length
  · rw [pNe_f (by omega), ifB_f]
    have key : ∀ (m i f : Nat), xs.length - i = m → i ≤ xs.length → m < f → ∀ (k : Unit ⊕ (Bool × Unit) → Option Bool), loopP (slices_EqualFunc_Simpl_Cell__Simpl_Cell_impl_Cell_impl_Cell__impl_sameCells_c1.l4 N) f (ys, xs, (xs.length : Int), (i : Int), ()) k = if xs.drop i = ys.drop i then k (.inl ()) else k (.inr (false, ())) := by
      intro m
      induction m with
      | zero =>
        intro i f hm hi hf k
        obtain ⟨f, rfl⟩ := succ_of hf
        rw [loopP_s]; unfold slices_EqualFunc_Simpl_Cell__Simpl_Cell_impl_Cell_impl_Cell__impl_sameCells_c1.l4; simp only []
        rw [pLt_f (by omega), ifB_f, List.drop_eq_nil_of_le (by omega), List.drop_eq_nil_of_le (by omega), if_pos rfl]
      | succ m ih =>
        intro i f hm hi hf k
        obtain ⟨f, rfl⟩ := succ_of hf
        have hlt : i < xs.length := by omega
        have hlt2 : i < ys.length := by omega
        have e2 : pAdd .i64 (i : Int) 1 = ((i + 1 : Nat) : Int) := pAdd_i (by omega) (by omega)
        have st : ∀ kn, slices_EqualFunc_Simpl_Cell__Simpl_Cell_impl_Cell_impl_Cell__impl_sameCells_c1.l4 N (ys, xs, (xs.length : Int), (i : Int), ()) kn k = if xs[i] = ys[i] then kn (ys, xs, (xs.length : Int), ((i + 1 : Nat) : Int), ()) else k (.inr (false, ())) := fun kn => by
          unfold slices_EqualFunc_Simpl_Cell__Simpl_Cell_impl_Cell_impl_Cell__impl_sameCells_c1.l4; simp only []
          rw [pLt_t (by omega), ifB_t, idx_lt hlt, bindO_s, idx_lt hlt2, bindO_s, sameCell_eq N _ _ (hc _ (List.getElem_mem hlt)).1 (hc _ (List.getElem_mem hlt)).2, bindO_s, pNot_d, e2]
          by_cases q : xs[i] = ys[i]
          · rw [decide_eq_true q, if_pos q, Bool.not_true, ifB_f]
          · rw [decide_eq_false q, if_neg q, Bool.not_false, ifB_t]
        rw [loopP_s, st, drop_c hlt, drop_c hlt2]
        by_cases q : xs[i] = ys[i]
        · rw [if_pos q, ih (i + 1) f (by omega) (by omega) (by omega) k]
          by_cases z : xs.drop (i + 1) = ys.drop (i + 1)
          · rw [if_pos z, if_pos (by rw [q, z])]
          · rw [if_neg z, if_neg (fun w => z (List.cons.inj w).2)]
        · rw [if_neg q, if_neg (fun z => q (List.cons.inj z).1)]
    refine Eq.trans (congrArg (fun z => bindO z _) (key _ 0 N rfl (by omega) (by omega) _)) ?_
    rw [List.drop_zero, List.drop_zero]
    by_cases q : xs = ys
    · rw [if_pos q, decide_eq_true q]; rfl
    · rw [if_neg q, decide_eq_false q]; rfl
  · rw [pNe_t (by omega), ifB_t, decide_eq_false (fun q => h (by rw [q]))]; rfl
theorem spec_same_row (N : Nat) (o g : GridT) (C r : Nat) (hC : g.2.1 = (C : Int)) (h2 : 2 ≤ C ∧ C ≤ 80) (hl : g.2.2.1.length ≤ 2000) (hlo : o.2.2.1.length ≤ 2000) (hr : (r + 1) * C ≤ g.2.2.1.length) (hro : (r + 1) * C ≤ o.2.2.1.length)
    (hc : ∀ c ∈ o.2.2.1, cellOk c) (hN : 200 < N) (out : List Int) {R : Type} (k : _ → Option R) : ∀ (m c f : Nat) (b : Bool), c + m = C → m < f →
    loopP (spec_Send.l9 N) f ((r : Int), b, (c : Int), o, g, out, ()) k = k ((r : Int), (b && decide ((gRow o C r).drop c = (gRow g C r).drop c)), o, g, out, ()) := by
  have hr2 : (r + 1) * C = r * C + C := Nat.succ_mul r C
  have hlen := gRow_len hr
  have hleno := gRow_len hro
  intro m
  induction m with
  | zero =>
    intro c f b hm hf
    obtain ⟨f, rfl⟩ := succ_of hf
    rw [loopP_s]; unfold spec_Send.l9; simp only []
    rw [pLt_f (by omega), ifB_f, List.drop_eq_nil_of_le (by omega), List.drop_eq_nil_of_le (by omega)]; simp
  | succ m ih =>
    intro c f b hm hf
    obtain ⟨f, rfl⟩ := succ_of hf
    have e2 : pAdd .i64 (c : Int) 1 = ((c + 1 : Nat) : Int) := pAdd_i (by omega) (by omega)
    have e0 : ((r * C : Nat) : Int) = (r : Int) * (C : Int) := by push_cast; rfl
    have e1 : pAdd .i64 (pMul .i64 (r : Int) g.2.1) (c : Int) = ((r * C + c : Nat) : Int) := by
      rw [hC, pMul_i (by omega) (by omega), pAdd_i (by omega) (by omega)]; push_cast; rfl
    have hx : idx g.2.2.1 (((r * C + c : Nat)) : Int) = some (cellD g (r * C + c)) := by rw [idx_lt (by omega : r * C + c < g.2.2.1.length), cellD_lt (by omega)]
    have hxo : idx o.2.2.1 (((r * C + c : Nat)) : Int) = some (cellD o (r * C + c)) := by rw [idx_lt (by omega : r * C + c < o.2.2.1.length), cellD_lt (by omega)]
    have hco : cellOk (cellD o (r * C + c)) := by rw [cellD_lt (by omega)]; exact hc _ (List.getElem_mem _)
    have st : ∀ kn, spec_Send.l9 N ((r : Int), b, (c : Int), o, g, out, ()) kn k = kn ((r : Int), (b && decide (cellD o (r * C + c) = cellD g (r * C + c))), ((c + 1 : Nat) : Int), o, g, out, ()) := fun kn => by
      unfold spec_Send.l9; simp only []
      rw [pLt_t (by omega), ifB_t, e1, hx, hxo, bindO_s, bindO_s, spec_l01Same_eq N _ _ (by have := hco.1; omega) (by have := hco.1; omega)]
      simp only [bindO_s, ifB_and, pEq_d, e2]
      congr 3
      generalize cellD o (r * C + c) = x
      generalize cellD g (r * C + c) = y
      obtain ⟨a1, a2, _⟩ := x
      obtain ⟨b1, b2, _⟩ := y
      cases b <;> by_cases h1 : a1 = b1 <;> by_cases h2 : a2 = b2 <;> simp [h1, h2]
    rw [loopP_s, st]
    refine Eq.trans (ih (c + 1) f _ (by omega) (by omega)) ?_
    congr 3
    rw [drop_c (by omega : c < (gRow o C r).length), drop_c (by omega : c < (gRow g C r).length), gRow_get hro (by omega), gRow_get hr (by omega), Bool.and_assoc]
    congr 1
    by_cases q : cellD o (r * C + c) = cellD g (r * C + c) <;> by_cases q2 : (gRow o C r).drop (c + 1) = (gRow g C r).drop (c + 1) <;> simp [q, q2]
def sendF (o g : GridT) (C : Nat) : Nat → Nat → List Int → List Int
  | 0, _, out => out
  | m + 1, r, out => sendF o g C m (r + 1) (out ++ (if gRow o C r = gRow g C r then [] else rowL g C r))
theorem impl_send_loop (N : Nat) (hN : 2100 < N) (o g : GridT) (C Rn : Nat) (hC : g.2.1 = (C : Int)) (hR : g.1 = (Rn : Int)) (h2 : 2 ≤ C ∧ C ≤ 80) (h3 : Rn ≤ 24) (hl : g.2.2.1.length = Rn * C) (hlo : o.2.2.1.length = Rn * C) (hc : ∀ c ∈ g.2.2.1, cellOk c) (hco : ∀ c ∈ o.2.2.1, cellOk c) {R : Type} (k : _ → Option R) :
    ∀ (m r f : Nat) (out : List Int), Rn - r = m → r ≤ Rn → m < f → out.length + 1700 * m ≤ 1000000 →
    loopP (impl_Send.l5 N) f ((Rn : Int), (r : Int), o, g, ([], (out, ())), ()) k = k (o, g, ([], (sendF o g C m r out, ())), ()) := by
  have hb : Rn * C ≤ 24 * 80 := Nat.mul_le_mul h3 h2.2
  intro m
  induction m with
  | zero =>
    intro r f out hm hr hf ho
    obtain ⟨f, rfl⟩ := succ_of hf
    rw [loopP_s]; unfold impl_Send.l5; simp only []
    rw [pLt_f (by omega), ifB_f]; rfl
  | succ m ih =>
    intro r f out hm hr hf ho
    obtain ⟨f, rfl⟩ := succ_of hf
    have hr1 : (r + 1) * C ≤ Rn * C := Nat.mul_le_mul_right _ (by omega)
    have hr2 : (r + 1) * C = r * C + C := Nat.succ_mul r C
    have e2 : pAdd .i64 (r : Int) 1 = ((r + 1 : Nat) : Int) := pAdd_i (by omega) (by omega)
    have ec0 : ((r * C : Nat) : Int) = (r : Int) * (C : Int) := by push_cast; rfl
    have ec1 : (((r + 1) * C : Nat) : Int) = ((r + 1 : Nat) : Int) * (C : Int) := by push_cast; rfl
    have m0 : pMul .i64 (r : Int) g.2.1 = ((r * C : Nat) : Int) := by rw [hC, pMul_i (by omega) (by omega)]; omega
    have m1 : pMul .i64 ((r + 1 : Nat) : Int) g.2.1 = (((r + 1) * C : Nat) : Int) := by rw [hC, pMul_i (by omega) (by omega)]; omega
    have hsub : ∀ x : GridT, sub x.2.2.1 ((r * C : Nat) : Int) (((r + 1) * C : Nat) : Int) = gRow x C r := fun x => by unfold sub gRow; rw [Int.toNat_natCast, Int.toNat_natCast]
    have hlen := gRow_len (g := o) (C := C) (r := r) (by omega)
    have hrl := rowL_len g C r (by omega) h2.2 hc
    have st : ∀ kn, impl_Send.l5 N ((Rn : Int), (r : Int), o, g, ([], (out, ())), ()) kn k = kn ((Rn : Int), ((r + 1 : Nat) : Int), o, g, ([], (out ++ (if gRow o C r = gRow g C r then [] else rowL g C r), ())), ()) := fun kn => by
      unfold impl_Send.l5; simp only []
      rw [pLt_t (by omega), ifB_t, e2, m0, m1, pLen_d, pLen_d, pLe_t (by omega), ifB_t, pLe_t (by omega), ifB_t, pLe_t (by omega), ifB_t, ifB_t, ifB_t, pLe_t (by omega), ifB_t, hsub, hsub,
        sameCells_eq N _ _ (by omega) (by omega) (fun c h => by have := (hco c (gRow_mem h)).1; omega), bindO_s, pNot_d]
      by_cases q : gRow o C r = gRow g C r
      · rw [decide_eq_true q, if_pos q, Bool.not_true, ifB_f, bindO_s, List.append_nil]
        simp only [e2]
      · rw [decide_eq_false q, if_neg q, Bool.not_false, ifB_t, impl_sendRow_eq N (by omega) g C r hC h2 (by omega) (by omega) (by omega) hc, bindO_s, strInts_bytes (byteL_rowL g C r), pFit_t (by omega), ifB_t, bindO_s]
        simp only [e2]; rfl
    rw [loopP_s, st, sendF]
    refine ih (r + 1) f _ (by omega) (by omega) (by omega) ?_
    rw [List.length_append]
    split
    · simp only [List.length_nil]; omega
    · omega
theorem spec_send_loop (N : Nat) (hN : 2100 < N) (o g : GridT) (C Rn : Nat) (hC : g.2.1 = (C : Int)) (hR : g.1 = (Rn : Int)) (h2 : 2 ≤ C ∧ C ≤ 80) (h3 : Rn ≤ 24) (hl : g.2.2.1.length = Rn * C) (hlo : o.2.2.1.length = Rn * C) (hc : ∀ c ∈ g.2.2.1, cellOk c) (hco : ∀ c ∈ o.2.2.1, cellOk c) {R : Type} (k : _ → Option R) :
    ∀ (m r f : Nat) (out : List Int), Rn - r = m → r ≤ Rn → m < f → out.length + 1700 * m ≤ 1000000 →
    loopP (spec_Send.l5 N) f ((r : Int), o, g, out, ()) k = k (o, g, sendF o g C m r out, ()) := by
  have hb : Rn * C ≤ 24 * 80 := Nat.mul_le_mul h3 h2.2
  intro m
  induction m with
  | zero =>
    intro r f out hm hr hf ho
    obtain ⟨f, rfl⟩ := succ_of hf
    rw [loopP_s]; unfold spec_Send.l5; simp only []
    rw [pLt_f (by omega), ifB_f]; rfl
  | succ m ih =>
    intro r f out hm hr hf ho
    obtain ⟨f, rfl⟩ := succ_of hf
    have hr1 : (r + 1) * C ≤ Rn * C := Nat.mul_le_mul_right _ (by omega)
    have hr2 : (r + 1) * C = r * C + C := Nat.succ_mul r C
    have e2 : pAdd .i64 (r : Int) 1 = ((r + 1 : Nat) : Int) := pAdd_i (by omega) (by omega)
    have hrl := rowL_len g C r (by omega) h2.2 hc
    have st : ∀ kn, spec_Send.l5 N ((r : Int), o, g, out, ()) kn k = kn (((r + 1 : Nat) : Int), o, g, out ++ (if gRow o C r = gRow g C r then [] else rowL g C r), ()) := fun kn => by
      unfold spec_Send.l5; simp only []
      rw [pLt_t (by omega), ifB_t]
      refine Eq.trans (congrArg (fun z => bindO z _) (spec_same_row N o g C r hC h2 (by omega) (by omega) (by omega) (by omega) hco (by omega) out _ C 0 N true (by omega) (by omega))) ?_
      simp only [List.drop_zero, Bool.true_and, pNot_d]
      by_cases q : gRow o C r = gRow g C r
      · rw [decide_eq_true q, if_pos q, Bool.not_true, ifB_f, bindO_s, List.append_nil, e2]
      · rw [decide_eq_false q, if_neg q, Bool.not_false, ifB_t, spec_l10Row_eq N (by omega) g C r hC h2 (by omega) (by omega) (by omega) hc, bindO_s, pFit_t (by omega), ifB_t, bindO_s, e2]
        rfl
    rw [loopP_s, st, sendF]
    refine ih (r + 1) f _ (by omega) (by omega) (by omega) ?_
    rw [List.length_append]
    split
    · simp only [List.length_nil]; omega
    · omega
theorem sendF_len (o g : GridT) (C : Nat) (h2 : C ≤ 80) (hc : ∀ c ∈ g.2.2.1, cellOk c) : ∀ (m r : Nat) (out : List Int), (r + m) * C ≤ g.2.2.1.length → (sendF o g C m r out).length ≤ out.length + 1700 * m
  | 0, _, _, _ => by simp [sendF]
  | m + 1, r, out, h => by
    have h1 : (r + 1) * C ≤ (r + (m + 1)) * C := Nat.mul_le_mul_right _ (by omega)
    have h3 := rowL_len g C r (by omega) h2 hc
    have h4 := sendF_len o g C h2 hc m (r + 1) (out ++ (if gRow o C r = gRow g C r then [] else rowL g C r)) (by rw [show r + 1 + m = r + (m + 1) by omega]; exact h)
    rw [sendF]
    rw [List.length_append] at h4
    split at h4
    · rename_i q; rw [if_pos q]; simp only [List.length_nil] at h4; omega
    · rename_i q; rw [if_neg q]; omega
def csiS (r c : Nat) : ByteArray := pCat (pCat (pCat (pCat (ByteArray.mk #[27, 91]) (decG (r + 1))) (ByteArray.mk #[59])) (decG (c + 1))) (ByteArray.mk #[72])
def sendG (o g : GridT) : ByteArray :=
  if (flatG o && flatG g && decide (o.1 = g.1) && decide (o.2.1 = g.2.1)) = true then
    let out := sendF o g g.2.1.toNat g.1.toNat 0 []
    if out ≠ [] ∨ o.2.2.2.1 ≠ g.2.2.2.1 ∨ o.2.2.2.2.1 ≠ g.2.2.2.2.1 then bytesOf (out ++ strInts (csiS g.2.2.2.1.toNat g.2.2.2.2.1.toNat)) else bytesOf out
  else ByteArray.mk #[]
theorem csiS_len (r c : Nat) : (strInts (csiS r c)).length ≤ 8 := by
  unfold csiS
  rw [strInts_len]
  simp only [pCat_sz]
  have h1 := decG_size (r + 1)
  have h2 := decG_size (c + 1)
  have e5 : (ByteArray.mk #[27, 91]).size = 2 := rfl
  have e6 : (ByteArray.mk #[59]).size = 1 := rfl
  have e7 : (ByteArray.mk #[72]).size = 1 := rfl
  omega
theorem fin_bool (out : List Int) (a b c d : Int) : ((decide ((out.length : Int) > 0) || !decide (a = b)) || !decide (c = d)) = decide (out ≠ [] ∨ a ≠ b ∨ c ≠ d) := by
  have : decide ((out.length : Int) > 0) = decide (out ≠ []) := by
    cases out with
    | nil => rfl
    | cons x l => simp
  rw [this]
  by_cases h1 : out ≠ [] <;> by_cases h2 : a = b <;> by_cases h3 : c = d <;> simp [h1, h2, h3]
theorem send_both (N : Nat) (hN : 2100 < N) (o g : GridT) (hl : g.2.2.1.length ≤ 1048576) (hlo : o.2.2.1.length ≤ 1048576) (hcg : ∀ x ∈ g.2.2.1, x.1.length ≤ 1048576 ∧ x.1.length + 20 < N) (hco0 : ∀ x ∈ o.2.2.1, x.1.length ≤ 1048576 ∧ x.1.length + 20 < N) :
    impl_Send N o g = some (sendG o g) ∧ spec_Send N o g = some (sendG o g) := by
  unfold impl_Send spec_Send
  rw [impl_FlatRight_eq N o hN hlo hco0, impl_FlatRight_eq N g hN hl hcg, spec_FlatRight_eq N o hN hlo, spec_FlatRight_eq N g hN hl]
  simp only [bindO_s, ifB_or, pNot_d, pNe_d]
  have hcond : (((!flatG o || !flatG g) || !decide (o.1 = g.1)) || !decide (o.2.1 = g.2.1)) = !(flatG o && flatG g && decide (o.1 = g.1) && decide (o.2.1 = g.2.1)) := by
    cases flatG o <;> cases flatG g <;> cases decide (o.1 = g.1) <;> cases decide (o.2.1 = g.2.1) <;> rfl
  rw [hcond]
  unfold sendG
  cases hq : (flatG o && flatG g && decide (o.1 = g.1) && decide (o.2.1 = g.2.1)) with
  | false => simp [ifB_t]
  | true =>
    rw [Bool.not_true, ifB_f, ifB_f, if_pos rfl]
    simp only [Bool.and_eq_true, decide_eq_true_eq] at hq
    obtain ⟨⟨⟨hfo, hfg⟩, hR1⟩, hC1⟩ := hq
    obtain ⟨Rn, C, eR, eC, h1, h2, h3, h4, h5, h6, h7, h8, h9, h10, h11⟩ := flat_facts hfg
    obtain ⟨Rn', C', eR', eC', _, _, _, _, h5', _, h7', _⟩ := flat_facts hfo
    have q1 : Rn' = Rn := by omega
    have q2 : C' = C := by omega
    subst q1 q2
    have tR : g.1.toNat = Rn' := by omega
    have tC : g.2.1.toNat = C' := by omega
    rw [tR, tC]
    have hsl := sendF_len o g C' h4 h7 Rn' 0 [] (by rw [Nat.zero_add]; omega)
    simp only [List.length_nil] at hsl
    have hcs := csiS_len g.2.2.2.1.toNat g.2.2.2.2.1.toNat
    obtain ⟨rw', hrw⟩ : ∃ n : Nat, g.2.2.2.1 = (n : Int) := ⟨g.2.2.2.1.toNat, by omega⟩
    obtain ⟨cl', hcl⟩ : ∃ n : Nat, g.2.2.2.2.1 = (n : Int) := ⟨g.2.2.2.2.1.toNat, by omega⟩
    have g1 := csiTo_eq N (by omega) rw' cl' (by omega) (by omega)
    constructor
    · rw [eR]
      refine Eq.trans (impl_send_loop N hN o g C' Rn' eC eR ⟨h3, h4⟩ h2 h5 h5' h7 h7' _ Rn' 0 N [] (by omega) (by omega) (by omega) (by simp only [List.length_nil]; omega)) ?_
      simp only [pLen_d, pGt_d, ifB_or, bindO_s, pNe_d]
      rw [fin_bool]
      by_cases hz : (sendF o g C' Rn' 0 [] ≠ [] ∨ o.2.2.2.1 ≠ g.2.2.2.1 ∨ o.2.2.2.2.1 ≠ g.2.2.2.2.1)
      · rw [decide_eq_true hz, ifB_t, if_pos hz]
        rw [hrw, hcl] at hcs ⊢
        rw [g1, bindO_s]
        show ifB (pFit _ (strInts (csiS rw' cl'))) _ none = _
        rw [pFit_t (by simp only [Int.toNat_natCast] at hcs; omega), ifB_t]
        simp only [Int.toNat_natCast]; rfl
      · rw [decide_eq_false hz, ifB_f, if_neg hz]
    · refine Eq.trans (spec_send_loop N hN o g C' Rn' eC eR ⟨h3, h4⟩ h2 h5 h5' h7 h7' _ Rn' 0 N [] (by omega) (by omega) (by omega) (by simp only [List.length_nil]; omega)) ?_
      simp only [pLen_d, pGt_d, ifB_or, bindO_s, pNe_d]
      rw [fin_bool]
      by_cases hz : (sendF o g C' Rn' 0 [] ≠ [] ∨ o.2.2.2.1 ≠ g.2.2.2.1 ∨ o.2.2.2.2.1 ≠ g.2.2.2.2.1)
      · rw [decide_eq_true hz, ifB_t, if_pos hz]
        rw [hrw, hcl] at hcs ⊢
        obtain ⟨_, d1⟩ := dec_both N (rw' + 1) (by omega) (by omega)
        obtain ⟨_, d2⟩ := dec_both N (cl' + 1) (by omega) (by omega)
        have k1 := decG_size (rw' + 1)
        have k2 := decG_size (cl' + 1)
        have e5 : (ByteArray.mk #[27, 91]).size = 2 := rfl
        have e6 : (ByteArray.mk #[59]).size = 1 := rfl
        have e7 : (ByteArray.mk #[72]).size = 1 := rfl
        rw [pAdd_i (by omega) (by omega), pAdd_i (by omega) (by omega), show (rw' : Int) + 1 = ((rw' + 1 : Nat) : Int) by omega, show (cl' : Int) + 1 = ((cl' + 1 : Nat) : Int) by omega, d1, d2, bindO_s, bindO_s,
          pFitS_t (by omega), ifB_t, pFitS_t (by rw [pCat_sz]; omega), ifB_t, pFitS_t (by rw [pCat_sz, pCat_sz]; omega), ifB_t, pFitS_t (by rw [pCat_sz, pCat_sz, pCat_sz]; omega), ifB_t]
        show ifB (pFit _ (strInts (csiS rw' cl'))) _ none = _
        rw [pFit_t (by simp only [Int.toNat_natCast] at hcs; omega), ifB_t]
        simp only [Int.toNat_natCast]; rfl
      · rw [decide_eq_false hz, ifB_f, if_neg hz]
end Go.AE.F
namespace Go.AE.F
open Go.AE
abbrev GridWf (g : GridT) : Prop := (IntKind.i64.min ≤ g.1 ∧ g.1 ≤ IntKind.i64.max) ∧ (IntKind.i64.min ≤ g.2.1 ∧ g.2.1 ≤ IntKind.i64.max) ∧ (g.2.2.1.length ≤ 9223372036854775807 ∧ ∀ c ∈ g.2.2.1, (c.1.length ≤ 9223372036854775807 ∧ ∀ a ∈ c.1, IntKind.i64.min ≤ a ∧ a ≤ IntKind.i64.max) ∧ (IntKind.i64.min ≤ c.2.1 ∧ c.2.1 ≤ IntKind.i64.max) ∧ True) ∧
    (IntKind.i64.min ≤ g.2.2.2.1 ∧ g.2.2.2.1 ≤ IntKind.i64.max) ∧ (IntKind.i64.min ≤ g.2.2.2.2.1 ∧ g.2.2.2.2.1 ≤ IntKind.i64.max) ∧ True ∧ (IntKind.i64.min ≤ g.2.2.2.2.2.2.1 ∧ g.2.2.2.2.2.2.1 ≤ IntKind.i64.max) ∧ True
end Go.AE.F
namespace Go.AE.F
open Go.AE
theorem pure_FnExactSend (o : GridT) (h : GridWf o) (g : GridT) (h2 : GridWf g) : ∃ N, laws_FnExactSend N o g = some true := by
  refine ⟨1048700, ?_⟩
  unfold laws_FnExactSend
  rw [szGrid_eq _ o 1048576 (by omega) (by omega) h.2.2.1.1 (fun x hx => (h.2.2.1.2 x hx).1.1) (by omega), bindO_s]
  by_cases hs : (1048576 : Int) - o.2.2.1.length - sumC o.2.2.1 < 0
  · rw [if_pos hs, pLt_t (by omega), ifB_t]
  rw [if_neg hs, pLt_f (by omega), ifB_f]
  rw [szGrid_eq _ g _ (by omega) (by omega) h2.2.2.1.1 (fun x hx => (h2.2.2.1.2 x hx).1.1) (by omega), bindO_s]
  by_cases hs2 : (1048576 : Int) - o.2.2.1.length - sumC o.2.2.1 - g.2.2.1.length - sumC g.2.2.1 < 0
  · rw [if_pos hs2, pLt_t (by omega), ifB_t]
  rw [if_neg hs2, pLt_f (by omega), ifB_f]
  have hx : ∀ x ∈ o.2.2.1, x.1.length ≤ 1048576 := fun x hx => by have := mem_sumC hx; omega
  have hx2 : ∀ x ∈ g.2.2.1, x.1.length ≤ 1048576 := fun x hx => by have := mem_sumC hx; omega
  have ho : gridOk 1048700 o := ⟨by omega, by omega, fun x h => by have := hx x h; omega⟩
  have ho2 : gridOk 1048700 g := ⟨by omega, by omega, fun x h => by have := hx2 x h; omega⟩
  obtain ⟨c1, c2⟩ := send_both 1048700 (by omega) o g (by omega) (by omega) (fun x h => by have := hx2 x h; omega) (fun x h => by have := hx x h; omega)
  simp only [toGrid_eq _ o ho, toGrid_eq _ g ho2, c1, c2, eqGrid_self _ o ho, eqGrid_self _ g ho2, bindO_s, pSEq_self, pNot_d, Bool.not_true, ifB_f]
end Go.AE.F
