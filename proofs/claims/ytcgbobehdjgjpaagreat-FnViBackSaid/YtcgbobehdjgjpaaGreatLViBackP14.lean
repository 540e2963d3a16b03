/- Plain laws of those functions. -/
import Derived.Test.YtcgbobehdjgjpaaGreatLViBackP13
namespace Go.AE.F
open Go.AE
theorem bytesOf_size (l : List Int) : (bytesOf l).size = l.length := by
  unfold bytesOf ByteArray.size
  simp
theorem pCat_size (a b : ByteArray) : (pCat a b).size = a.size + b.size := ByteArray.size_append
theorem dec_step {N : Nat} {R : Type} (k : Int) (h0 : 0 < k) (h1 : k ≤ 1000) (x : ByteArray) (hx : x.size ≤ 1000) {kn kx : _ → Option R} : ∃ b : ByteArray, b.size = 1 ∧ zB4.l5 N (k, false, x, ()) kn kx = kn (k / 10, false, pCat b x, ()) := by
  unfold zB4.l5
  simp only []
  have hr : pRem k 10 = k % 10 := Int.tmod_eq_emod_of_nonneg (by omega)
  have hq : pQuo .i64 k 10 = k / 10 := IntWalk.i64_quo _ _ ⟨by omega, by omega, by omega⟩
  have hf : ∀ v : Int, pFitS (bytesOf [v]) x = true := fun v => by
    unfold pFitS
    rw [bytesOf_size]
    exact decide_eq_true (by simp; omega)
  rw [pNe_t (by omega), ifB_t, pEq_f (by omega), ifB_f, hr, pLt_f (by omega), ifB_f, hf, ifB_t, ifB_f, hq]
  exact ⟨_, bytesOf_size _, rfl⟩
theorem dec_tot (N : Nat) (hN : 5 < N) (k : Int) (h0 : 0 < k) (h1 : k ≤ 99) : Tot (fun b : ByteArray => b.size ≤ 2) (zB4 N k) := by
  obtain ⟨M, rfl⟩ : ∃ M, N = M + 5 := ⟨N - 5, by omega⟩
  unfold zB4
  rw [pEq_f (by omega), ifB_f, pLt_f (by omega), loopP_s]
  have he : (ByteArray.mk #[]).size = 0 := rfl
  obtain ⟨b1, q1, q2⟩ := dec_step (N := M + 5) k h0 (by omega) (ByteArray.mk #[]) (by omega) (R := ByteArray) (kn := fun d' => loopP (zB4.l5 (M + 5)) (M + 4) d' (fun d =>
      let x13 := d.1;
      let x14 := d.2.1;
      ifB x13 (
        ifB (pFitS (ByteArray.mk #[45]) x14) (
          some (pCat (ByteArray.mk #[45]) x14)) (
          none)) (
        some x14))) (kx := (fun d =>
      let x13 := d.1;
      let x14 := d.2.1;
      ifB x13 (
        ifB (pFitS (ByteArray.mk #[45]) x14) (
          some (pCat (ByteArray.mk #[45]) x14)) (
          none)) (
        some x14)))
  rw [q2]
  have stop : ∀ (m : Nat) (x : ByteArray), x.size ≤ 2 → Tot (fun b : ByteArray => b.size ≤ 2) (loopP (zB4.l5 (M + 5)) (m + 1) (0, false, x, ()) (fun d =>
      let x13 := d.1;
      let x14 := d.2.1;
      ifB x13 (
        ifB (pFitS (ByteArray.mk #[45]) x14) (
          some (pCat (ByteArray.mk #[45]) x14)) (
          none)) (
        some x14))) := fun m x hx => ⟨x, rfl, hx⟩
  by_cases h : k / 10 = 0
  · rw [h]
    exact stop (M + 3) _ (by rw [pCat_size]; omega)
  · rw [show M + 4 = (M + 3) + 1 by omega, loopP_s]
    obtain ⟨b2, q3, q4⟩ := dec_step (N := M + 5) (k / 10) (by omega) (by omega) (pCat b1 (ByteArray.mk #[])) (by rw [pCat_size]; omega) (R := ByteArray) (kn := fun d' => loopP (zB4.l5 (M + 5)) (M + 3) d' (fun d =>
      let x13 := d.1;
      let x14 := d.2.1;
      ifB x13 (
        ifB (pFitS (ByteArray.mk #[45]) x14) (
          some (pCat (ByteArray.mk #[45]) x14)) (
          none)) (
        some x14))) (kx := (fun d =>
      let x13 := d.1;
      let x14 := d.2.1;
      ifB x13 (
        ifB (pFitS (ByteArray.mk #[45]) x14) (
          some (pCat (ByteArray.mk #[45]) x14)) (
          none)) (
        some x14)))
    rw [q4, show k / 10 / 10 = 0 by omega]
    exact stop (M + 2) _ (by rw [pCat_size, pCat_size]; omega)
theorem Tot.fitS {B : Type} {P : B → Prop} {xs ys : ByteArray} {a : Option B} (h : xs.size + ys.size ≤ 68719476736) (h1 : Tot P a) : Tot P (ifB (pFitS xs ys) a none) := by
  unfold pFitS
  rw [decide_eq_true h]; exact h1
theorem pickT (N : Nat) (s : SrcT) (l : List ByteArray) (hs : srcOk s) (h0 : 0 < l.length) (hk : l.length ≤ 1048576) : Tot (fun r : ByteArray × SrcT => srcOk r.2 ∧ r.1 ∈ l) (zB1 N s l) := by
  obtain ⟨x, s', h1, h2, h3⟩ := pick_ok N s l hs h0 hk
  exact ⟨_, h1, h2, h3⟩
theorem pick5 {l : List ByteArray} (h : (l.all fun b => decide (b.size ≤ 5)) = true) {x : ByteArray} (hx : x ∈ l) : x.size ≤ 5 := by
  have := List.all_eq_true.1 h x hx
  exact of_decide_eq_true this
theorem keys_tot (N : Nat) (hN : 100 < N) : ∀ (n : Nat) (m : Nat) (v : Int) (x : ByteArray) (s : SrcT), 0 ≤ v → v ≤ n → n ≤ 50 → n < m → x.size ≤ (50 - n) * 20 → srcOk s →
    Tot (fun r : ByteArray × SrcT => r.1.size ≤ 1000 ∧ srcOk r.2) (loopP (zAG.l2 N) m (v, x, s, ()) (fun d => let x73 := d.1; let x74 := d.2.1; some (x73, x74))) := by
  intro n
  induction n with
  | zero =>
    intro m v x s h0 hv hn hm hx hs
    obtain ⟨m, rfl⟩ := succ_of hm
    rw [loopP_s]; unfold zAG.l2; simp only []
    rw [pGt_f (by omega), ifB_f]
    exact Tot.ret ⟨by show x.size ≤ 1000; omega, hs⟩
  | succ n ih =>
    intro m v x s h0 hv hn hm hx hs
    obtain ⟨m, rfl⟩ := succ_of hm
    rw [loopP_s]; unfold zAG.l2; simp only []
    by_cases hz : v = 0
    · rw [pGt_f (by omega), ifB_f]
      exact Tot.ret ⟨by show x.size ≤ 1000; omega, hs⟩
    rw [pGt_t (by omega), ifB_t]
    refine Tot.bind (P := fun d : Int × ByteArray × SrcT × Unit => d.1 = v ∧ d.2.1.size ≤ x.size + 20 ∧ srcOk d.2.2.1) ?_ (fun d hd => ?_)
    · have tail2 : ∀ (y : ByteArray) (s : SrcT), y.size ≤ x.size + 12 → srcOk s → Tot (fun d : Int × ByteArray × SrcT × Unit => d.1 = v ∧ d.2.1.size ≤ x.size + 20 ∧ srcOk d.2.2.1) (
          bindO (zAQ N s 30) fun y61 =>
                ifB y61.1 (
                  bindO (zB1 N y61.2 [(ByteArray.mk #[113]), (ByteArray.mk #[100, 122]), (ByteArray.mk #[100, 107]), (ByteArray.mk #[49, 48, 48, 48, 120]), (ByteArray.mk #[100, 121]), (ByteArray.mk #[0])]) fun y62 =>
                  ifB (pFitS y y62.1) (
                    some (v, (pCat y y62.1), y62.2, ())) (
                    none)) (
                  some (v, y, y61.2, ()))) := fun y s hy hs => by
        refine Tot.bind (oneT N s 30 hs (by omega)) fun o ho => ?_
        refine Tot.both ?_ (Tot.ret ⟨rfl, by show y.size ≤ _; omega, ho⟩)
        refine Tot.bind (pickT N _ _ ho (by simp) (by simp)) fun z hz => ?_
        have h5 := pick5 (by decide) hz.2
        exact Tot.fitS (by omega) (Tot.ret ⟨rfl, by show (pCat y z.1).size ≤ _; rw [pCat_size]; omega, hz.1⟩)
      have tail1 : ∀ (y : ByteArray) (s : SrcT), y.size ≤ x.size + 7 → srcOk s → Tot (fun d : Int × ByteArray × SrcT × Unit => d.1 = v ∧ d.2.1.size ≤ x.size + 20 ∧ srcOk d.2.2.1) (
          bindO (zAQ N s 30) fun y57 =>
              ifB y57.1 (
                bindO (zB1 N y57.2 [(ByteArray.mk #[105]), (ByteArray.mk #[99, 119]), (ByteArray.mk #[65]), (ByteArray.mk #[99, 99])]) fun y58 =>
                ifB (pFitS y y58.1) (
                  bindO (zAQ N y58.2 30) fun y59 =>
                  ifB y59.1 (
                    bindO (zB1 N y59.2 [(ByteArray.mk #[113]), (ByteArray.mk #[100, 122]), (ByteArray.mk #[100, 107]), (ByteArray.mk #[49, 48, 48, 48, 120]), (ByteArray.mk #[100, 121]), (ByteArray.mk #[0])]) fun y60 =>
                    ifB (pFitS (pCat y y58.1) y60.1) (
                      some (v, (pCat (pCat y y58.1) y60.1), y60.2, ())) (
                      none)) (
                    some (v, (pCat y y58.1), y59.2, ()))) (
                  none)) (
                bindO (zAQ N y57.2 30) fun y61 =>
                ifB y61.1 (
                  bindO (zB1 N y61.2 [(ByteArray.mk #[113]), (ByteArray.mk #[100, 122]), (ByteArray.mk #[100, 107]), (ByteArray.mk #[49, 48, 48, 48, 120]), (ByteArray.mk #[100, 121]), (ByteArray.mk #[0])]) fun y62 =>
                  ifB (pFitS y y62.1) (
                    some (v, (pCat y y62.1), y62.2, ())) (
                    none)) (
                  some (v, y, y61.2, ())))) := fun y s hy hs => by
        refine Tot.bind (oneT N s 30 hs (by omega)) fun o ho => ?_
        refine Tot.both ?_ (tail2 y o.2 (by omega) ho)
        refine Tot.bind (pickT N _ _ ho (by simp) (by simp)) fun z hz => ?_
        have h5 := pick5 (by decide) hz.2
        exact Tot.fitS (by omega) (tail2 (pCat y z.1) z.2 (by rw [pCat_size]; omega) hz.1)
      refine Tot.bind (oneT N s 5 hs (by omega)) fun o ho => ?_
      refine Tot.both ?_ ?_
      · refine Tot.bind (nT N _ 12 ho (by omega)) fun q hq => ?_
        have hq2 := hq.2.2.2 (by omega)
        have hq1 := hq.2.1
        rw [pAdd_i (by omega) (by omega)]
        refine Tot.bind (dec_tot N (by omega) (1 + q.1) (by omega) (by omega)) fun dd hdd => ?_
        refine Tot.fitS (by omega) ?_
        refine Tot.bind (pickT N _ _ hq.1 (by simp) (by simp)) fun z hz => ?_
        have h5 := pick5 (by decide) hz.2
        refine Tot.fitS (by rw [pCat_size]; omega) ?_
        exact tail1 (pCat (pCat x dd) z.1) z.2 (by rw [pCat_size, pCat_size]; omega) hz.1
      · refine Tot.bind (pickT N _ _ ho (by simp) (by simp)) fun z hz => ?_
        have h5 := pick5 (by decide) hz.2
        refine Tot.fitS (by omega) ?_
        exact tail1 (pCat x z.1) z.2 (by rw [pCat_size]; omega) hz.1
    · have e : pSub .i64 d.1 1 = v - 1 := by rw [hd.1]; exact pSub_i (by omega) (by omega)
      rw [e]
      exact ih m (v - 1) d.2.1 d.2.2.1 (by omega) (by omega) (by omega) (by omega) (by have := hd.2.1; omega) hd.2.2
end Go.AE.F
namespace Go.AE.F
open Go.AE
theorem dvido_tot (N : Nat) (hN : 100200 < N) (a : List Int) (ha : a.length ≤ 1048576) : Tot (fun r : BufT × RingT × ByteArray => r.1.1.length ≤ 1000 ∧ r.2.1.1.length ≤ 60 ∧ (∀ x ∈ r.2.1.1, x.length ≤ 400)) (zCC N a) := by
  unfold zCC
  obtain ⟨s, h1, hs⟩ := source_ok N a ha (by omega)
  rw [h1, bindO_s]
  refine Tot.bind (dbuf_tot N (by omega) s hs) fun b hb => ?_
  refine Tot.bind (dring_tot N (by omega) b.2 hb.1) fun r hr => ?_
  refine Tot.bind (nT N _ _ hr.1 (by omega)) fun q hq => ?_
  have hq1 := hq.2.1
  have hq2 := hq.2.2.2 (by omega)
  rw [pAdd_i (by omega) (by omega)]
  refine Tot.bind (P := fun r : ByteArray × SrcT => r.1.size ≤ 1000 ∧ srcOk r.2) ?_ fun k hk => ?_
  · exact keys_tot N (by omega) 50 N (1 + q.1) (ByteArray.mk #[]) q.2 (by omega) (by omega) (by omega) (by omega) (Nat.zero_le _) hq.1
  refine Tot.bind (oneT N _ 8 hk.2 (by omega)) fun o ho => ?_
  refine Tot.both ?_ (Tot.ret ⟨hb.2, hr.2.1, hr.2.2⟩)
  exact Tot.bind (pickT N _ _ ho (by simp) (by simp)) fun z hz => Tot.ret ⟨hb.2, hr.2.1, hr.2.2⟩
theorem at_tot (N : Nat) (l : List Int) (hl : l.length ≤ 1048576) (hb : ∀ x ∈ l, IntKind.u8.min ≤ x ∧ x ≤ IntKind.u8.max) : Tot (fun v => 0 ≤ v ∧ v < 10) (zCS N l 0 10) := by
  unfold zCS
  rw [pLe_f (by omega), ifB_f, bindO_s, pLen_d]
  by_cases h0 : l.length = 0
  · rw [pEq_t (by omega), ifB_t]; exact ⟨0, rfl, by omega, by omega⟩
  · have e : pRem 0 (l.length : Int) = ((0 : Nat) : Int) := by unfold pRem; simp
    have hlt : 0 < l.length := by omega
    rw [pEq_f (by omega), ifB_f, ifB_f, e, idx_lt hlt, bindO_s, pEq_f (by omega), ifB_f]
    have hu := hb _ (List.getElem_mem hlt)
    have h1 : IntKind.u8.min = 0 := rfl
    have h2 : IntKind.u8.max = 255 := rfl
    rw [h1, h2] at hu
    have e2 : pConv .i64 l[0] = l[0] := wrap_i64 (by omega) (by omega)
    have e3 : pRem l[0] 10 = l[0] % 10 := Int.tmod_eq_emod_of_nonneg hu.1
    rw [e2, e3]
    exact ⟨_, rfl, by omega, by omega⟩
def delK (L : List Int) : Prop := ∃ a c : Int, (a = 100 ∨ (1 ≤ kindG a ∧ kindG a ≤ 6)) ∧ (1 ≤ c ∧ c ≤ 999) ∧ ∀ (t : Bool) (b : BufT) (r : RingT), viM t b r L = vopV b r 100 a c (L.length : Int)
theorem delK_all : ∀ k ∈ [(ByteArray.mk #[100, 104]), (ByteArray.mk #[100, 108]), (ByteArray.mk #[100, 98]), (ByteArray.mk #[100, 119]), (ByteArray.mk #[100, 48]), (ByteArray.mk #[100, 36]), (ByteArray.mk #[100, 100]), (ByteArray.mk #[120]), (ByteArray.mk #[50, 100, 119]), (ByteArray.mk #[51, 120])], (bl k).length ≤ 20000 ∧ delK (bl k) := by
  intro k hk
  simp only [List.mem_cons, List.not_mem_nil, or_false] at hk
  rcases hk with rfl | rfl | rfl | rfl | rfl | rfl | rfl | rfl | rfl | rfl
  · exact ⟨by decide, 104, 1, by decide, by decide, fun t b r => rfl⟩
  · exact ⟨by decide, 108, 1, by decide, by decide, fun t b r => rfl⟩
  · exact ⟨by decide, 98, 1, by decide, by decide, fun t b r => rfl⟩
  · exact ⟨by decide, 119, 1, by decide, by decide, fun t b r => rfl⟩
  · exact ⟨by decide, 48, 1, by decide, by decide, fun t b r => rfl⟩
  · exact ⟨by decide, 36, 1, by decide, by decide, fun t b r => rfl⟩
  · exact ⟨by decide, 100, 1, by decide, by decide, fun t b r => rfl⟩
  · exact ⟨by decide, 108, 1, by decide, by decide, fun t b r => rfl⟩
  · exact ⟨by decide, 119, 2, by decide, by decide, fun t b r => rfl⟩
  · exact ⟨by decide, 108, 3, by decide, by decide, fun t b r => rfl⟩
theorem opV_cut {b : BufT} (hb : bufG b = true) (r : RingT) (k a c u : Int) (ha : a = k ∨ (1 ≤ kindG a ∧ kindG a ≤ 6)) (hc : 1 ≤ c ∧ c ≤ 999) : ∃ i j : Int, 0 ≤ i ∧ i ≤ j ∧ j ≤ b.1.length ∧ vopV b r k a c u = vcutG b r k i j u := by
  unfold vopV
  by_cases h1 : a = k
  · obtain ⟨q0, q1, q2⟩ := se_in hb
    rw [if_pos h1]; exact ⟨_, _, q0, q1, q2, rfl⟩
  · have h2 := ha.resolve_left h1
    have hm := motG_in b hb (kindG a) c (by omega) (by omega)
    obtain ⟨q0, q1, q2⟩ := mm_in hb hm.1 hm.2
    rw [if_neg h1, if_pos h2]; exact ⟨_, _, q0, q1, q2, rfl⟩
theorem put_back {b : BufT} {r : RingT} (hb : bufG b = true) (hr : ringG r = true) {i j : Int} (h0 : 0 ≤ i) (h1 : i < j) (h2 : j ≤ b.1.length) :
    (viM false (delB b i j) (rpushG r (sub b.1 i j)) [80]).2.2.2.2.1 = 0 ∧ (viM false (delB b i j) (rpushG r (sub b.1 i j)) [80]).1.1 = b.1 ∧
    (rpushG r (sub b.1 i j)).1.length ≠ 0 ∧ atG (rpushG r (sub b.1 i j)) (rpushG r (sub b.1 i j)).2.1 = sub b.1 i j := by
  have hl := ptsG_len (bufG_iff.1 hb).1
  have hsl : (sub b.1 i j).length = j.toNat - i.toNat := by unfold sub; simp only [List.length_drop, List.length_take]; omega
  have hsp := sub_pts hb i j
  have hit : itemG (sub b.1 i j) = true := itemG_of hsp (by omega)
  have eg : rpushG r (sub b.1 i j) = ((sub b.1 i j :: r.1).take 10, (0, ())) := by
    unfold rpushG
    rw [if_neg (by omega), hr, hit, if_neg (by simp)]
  have hR := rpush_right hr hsp
  obtain ⟨d1, d2⟩ := delB_ok hb h0 (by omega : i ≤ j) h2
  have hcur : (delB b i j).2.1 = i := rfl
  have hat : atG (rpushG r (sub b.1 i j)) (rpushG r (sub b.1 i j)).2.1 = sub b.1 i j := by rw [eg]; unfold atG; rfl
  have hne : (rpushG r (sub b.1 i j)).1.length ≠ 0 := by rw [eg]; simp
  have hdl : (delB b i j).1.length = i.toNat + (b.1.length - j.toNat) := by rw [d2]; simp only [List.length_append, List.length_take, List.length_drop]; omega
  have hcode : (yankG (rpushG r (sub b.1 i j)) (delB b i j)).2.2.2.1 = 0 := by
    unfold yankG
    rw [hR, d1, if_neg (by simp), if_neg hne, hat, hcur]
    have : (replG (delB b i j) i i (sub b.1 i j)).2.2.1 = 0 := by
      unfold replG
      rw [if_neg (by omega), if_neg (by omega)]
    rw [if_neg (by rw [this]; simp)]
  obtain ⟨y1, y2, y3⟩ := yank_right hR d1 hcode
  have ev : viM false (delB b i j) (rpushG r (sub b.1 i j)) [80] = putV (delB b i j) (rpushG r (sub b.1 i j)) 80 1 1 := rfl
  have ep : putB (delB b i j) 80 = delB b i j := if_neg (by omega)
  have ey : yanks (rpushG r (sub b.1 i j)) (1 : Int).toNat (delB b i j) = (0, (yankG (rpushG r (sub b.1 i j)) (delB b i j)).1) := by
    show yanks _ 1 _ = _
    unfold yanks
    rw [if_neg (by rw [hcode]; simp)]
    rfl
  rw [ev]
  unfold putV
  rw [ep, ey]
  refine ⟨rfl, ?_, hne, hat⟩
  show (yankG (rpushG r (sub b.1 i j)) (delB b i j)).1.1 = b.1
  rw [y3, hat, hcur, d2]
  have ei : i.toNat ≤ j.toNat := by omega
  have hti : (b.1.take i.toNat).length = i.toNat := by rw [List.length_take]; omega
  rw [List.take_append_of_le_length (by omega), List.take_of_length_le (by omega), List.drop_append_of_le_length (by omega), List.drop_of_length_le (by omega), List.nil_append]
  unfold sub
  have h3 : b.1.take i.toNat = (b.1.take j.toNat).take i.toNat := by rw [List.take_take, Nat.min_eq_left ei]
  rw [h3, List.take_append_drop, List.take_append_drop]
theorem pure_FnViBack (a : List Int) (_h : a.length ≤ 9223372036854775807 ∧ ∀ x ∈ a, IntKind.u8.min ≤ x ∧ x ≤ IntKind.u8.max) (m : List Int) (hm : m.length ≤ 9223372036854775807 ∧ ∀ x ∈ m, IntKind.u8.min ≤ x ∧ x ≤ IntKind.u8.max) : ∃ N, zCI N a m = some true := by
  refine ⟨1048700, ?_⟩
  unfold zCI
  rw [pLen_d, pLen_d]
  by_cases ha : 1048576 < a.length
  · rw [pGt_t (by omega), ifB_t, bindO_s, ifB_t]
  rw [pGt_f (by omega), ifB_f, bindO_s]
  by_cases hm2 : 1048576 < m.length
  · rw [pGt_t (by omega), ifB_t]
  rw [pGt_f (by omega), ifB_f]
  obtain ⟨⟨b, r, s⟩, hd, hbl, hrl, hrx⟩ := dvido_tot 1048700 (by omega) a (by omega)
  simp only at hbl hrl hrx
  rw [hd, bindO_s]
  simp only []
  rw [spec_BufRight_eq _ b (by omega), bindO_s, spec_RingRight_eq _ (by omega), bindO_s]
  cases hb : bufG b with
  | false => rfl
  | true =>
  cases hr : ringG r with
  | false => rfl
  | true =>
  rw [show pNot true = false from rfl, ifB_f, bindO_s, ifB_f]
  obtain ⟨v, v1, v2, v3⟩ := at_tot 1048700 m (by omega) hm.2
  rw [v1, bindO_s]
  obtain ⟨k, k1, k2⟩ := idxT [(ByteArray.mk #[100, 104]), (ByteArray.mk #[100, 108]), (ByteArray.mk #[100, 98]), (ByteArray.mk #[100, 119]), (ByteArray.mk #[100, 48]), (ByteArray.mk #[100, 36]), (ByteArray.mk #[100, 100]), (ByteArray.mk #[120]), (ByteArray.mk #[50, 100, 119]), (ByteArray.mk #[51, 120])] v v2 (by simp; omega)
  obtain ⟨l1, ka, kc, q1, q2, q3⟩ := delK_all k k2
  rw [k1, bindO_s, bindO_s]
  have hl := ptsG_len (bufG_iff.1 hb).1
  obtain ⟨y, y1, y2, y3⟩ := impl_ViDo_eq 1048700 (by omega) k l1 b r hb hr
  obtain ⟨i, j, i0, i1, i2, e⟩ := opV_cut hb r 100 ka kc ((bl k).length : Int) q1 q2
  have e2 : viM false b r (bl k) = vcutG b r 100 i j ((bl k).length : Int) := (q3 false b r).trans e
  have ed : vcutG b r 100 i j ((bl k).length : Int) = okVi (delB b i j) (rpushG r (sub b.1 i j)) false ((bl k).length : Int) := rfl
  rw [e2, ed] at y3
  have hy := y3 rfl
  subst hy
  obtain ⟨d1, d2⟩ := delB_ok hb i0 i1 i2
  have hdl : (delB b i j).1.length = i.toNat + (b.1.length - j.toNat) := by rw [d2]; simp only [List.length_append, List.length_take, List.length_drop]; omega
  rw [y1, bindO_s]
  have c1 : pNe (okVi (delB b i j) (rpushG r (sub b.1 i j)) false ((bl k).length : Int)).2.2.2.2.1 0 = false := rfl
  have c2 : pNe (okVi (delB b i j) (rpushG r (sub b.1 i j)) false ((bl k).length : Int)).2.2.2.1 (pSize k) = false := pNe_f (psz k).symm
  rw [c1, ifB_f, c2, bindO_s, ifB_f, bindO_s]
  rw [show (okVi (delB b i j) (rpushG r (sub b.1 i j)) false ((bl k).length : Int)).2.2.1 = false from rfl, ifB_f]
  rw [show (okVi (delB b i j) (rpushG r (sub b.1 i j)) false ((bl k).length : Int)).1 = delB b i j from rfl, show (okVi (delB b i j) (rpushG r (sub b.1 i j)) false ((bl k).length : Int)).2.1 = rpushG r (sub b.1 i j) from rfl]
  rw [pLen_d, pLen_d]
  by_cases hij : i = j
  · subst hij
    have ep : (delB b i i).1 = b.1 := by rw [d2, List.take_append_drop]
    rw [pEq_t (by rw [ep]), ifB_t, ep, lwSame_self _ _ (by omega) (by omega), bindO_s, ifB_t]
    unfold zCT
    rw [psz, pGt_f (by omega), ifB_f, spec_BufRight_eq _ b (by omega), bindO_s, spec_RingRight_eq _ (by omega), bindO_s, hb, hr]
    rw [show pNot true = false from rfl, ifB_f, bindO_s, ifB_f, spec_do_eq _ (by omega) b r k hb hr, bindO_s, bindO_s, q3 true b r, e, ed]
    show some (pEq (pLen (delB b i i).1) (b.1.length : Int)) = some true
    rw [ep, pLen_d, pEq_t rfl]
  · obtain ⟨p1, p2, p3, p4⟩ := put_back hb hr i0 (by omega : i < j) i2
    have hR := rpush_right hr (sub_pts hb i j)
    obtain ⟨z, z1, z2, z3⟩ := impl_ViDo_eq 1048700 (by omega) (ByteArray.mk #[80]) (by decide) (delB b i j) (rpushG r (sub b.1 i j)) d1 hR
    have eb : bl (ByteArray.mk #[80]) = [80] := rfl
    rw [eb] at z2 z3
    have hz := z3 p1
    rw [pEq_f (by rw [hdl]; omega), ifB_f, z1, bindO_s, pEq_t (z2.trans p1), ifB_t, hz, p2, lwSame_self _ _ (by omega) (by omega), bindO_s, ifB_t, impl_top_eq _ (by omega) _ hR p3, bindO_s, p4, pLen_d]
    have hsl : (sub b.1 i j).length = j.toNat - i.toNat := by unfold sub; simp only [List.length_drop, List.length_take]; omega
    rw [pSub_i (by omega) (by omega), pEq_t (by rw [hsl, hdl]; omega)]
end Go.AE.F
