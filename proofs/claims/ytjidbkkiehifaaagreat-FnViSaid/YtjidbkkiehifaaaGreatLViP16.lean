/- Plain laws of those functions. -/
import Derived.Test.YtjidbkkiehifaaaGreatLViP15
namespace Go.AE.F
open Go.AE
theorem law_loop (N : Nat) (hN : 2000 < N) (s : ByteArray) (hs : (bl s).length ≤ 20000) (x59 x60 : VT) (e1 : x60.2.2.2.2.1 = x59.2.2.2.2.1) (e2 : x60.2.2.2.1 = x59.2.2.2.1) :
    ∀ (n m p : Nat) (b : BufT) (r : RingT) (i : Bool), (bl s).length - p ≤ n → n < m → p ≤ (bl s).length → bufG b = true → ringG r = true → x60 = runM false n b r i (p : Int) ((bl s).drop p) →
    loopP (zBP.l14 N) m (s, (p : Int), i, x59, x60, b, r, ()) (
          onSum (fun d =>
            let x71 := d.1;
            let x72 := d.2.1;
            let x73 := d.2.2.1;
            bindO (
              ifB (pEq x71.2.2.2.2.1 0) (
                bindO (zBD N x71.1) fun y75 =>
                some y75) (
                some false)) fun y74 =>
            bindO (
              ifB y74 (
                bindO (zB8 N x71.2.1) fun y77 =>
                some y77) (
                some false)) fun y76 =>
            bindO (
              ifB y76 (
                bindO (zCS N x71.1 x72) fun y79 =>
                some y79) (
                some false)) fun y78 =>
            bindO (
              ifB y78 (
                bindO (zCL N x71.2.1 x73) fun y81 =>
                some y81) (
                some false)) fun y80 =>
            some y80) (
          fun d =>
          let x82 := d.1;
          some x82)) = some true := by
  have slf : ∀ (b : BufT) (r : RingT), bufG b = true → ringG r = true → zCS N b b = some true ∧ zCL N r r = some true ∧ zBD N b = some true ∧ zB8 N r = some true := fun b r hb hr => by
    have hl := ptsG_len (bufG_iff.1 hb).1
    have hrl := (ringG_iff.1 hr).1
    have hrx : ∀ x ∈ r.1, x.length ≤ 300 := fun x hx => ptsG_len (itemG_pts ((ringG_iff.1 hr).2.1 x hx)).1
    refine ⟨lwBuf_self N b (by omega) hN, lwRing_self N r (by omega) (fun x hx => by have := hrx x hx; omega) hN, ?_, ?_⟩
    · rw [impl_BufRight_eq N b (by omega) (by omega), hb]
    · rw [impl_RingRight_eq N r (by omega) (by omega) (fun x hx => by have := hrx x hx; omega), hr]
  have fin : ∀ (b : BufT) (r : RingT) (i : Bool) (u : Int), bufG b = true → ringG r = true → (
            bindO (
              ifB (pEq (okVi b r i u).2.2.2.2.1 0) (
                bindO (zBD N (okVi b r i u).1) fun y75 =>
                some y75) (
                some false)) fun y74 =>
            bindO (
              ifB y74 (
                bindO (zB8 N (okVi b r i u).2.1) fun y77 =>
                some y77) (
                some false)) fun y76 =>
            bindO (
              ifB y76 (
                bindO (zCS N (okVi b r i u).1 b) fun y79 =>
                some y79) (
                some false)) fun y78 =>
            bindO (
              ifB y78 (
                bindO (zCL N (okVi b r i u).2.1 r) fun y81 =>
                some y81) (
                some false)) fun y80 =>
            some y80) = some true := fun b r i u hb hr => by
    obtain ⟨s1, s2, s3, s4⟩ := slf b r hb hr
    show (bindO (bindO (zBD N b) fun y75 => some y75) fun y74 =>
            bindO (
              ifB y74 (
                bindO (zB8 N r) fun y77 =>
                some y77) (
                some false)) fun y76 =>
            bindO (
              ifB y76 (
                bindO (zCS N b b) fun y79 =>
                some y79) (
                some false)) fun y78 =>
            bindO (
              ifB y78 (
                bindO (zCL N r r) fun y81 =>
                some y81) (
                some false)) fun y80 =>
            some y80) = some true
    rw [s3, s4, s1, s2]
    rfl
  intro n
  induction n with
  | zero =>
    intro m p b r i hp hm hpl hb hr hx
    obtain ⟨m, rfl⟩ := succ_of hm
    rw [loopP_s]; unfold zBP.l14; simp only []; rw [psz s]
    rw [pLt_f (by omega), ifB_f, bindO_s, ifB_f, hx]
    exact fin b r i (p : Int) hb hr
  | succ n ih =>
    intro m p b r i hp hm hpl hb hr hx
    obtain ⟨m, rfl⟩ := succ_of hm
    rw [loopP_s]; unfold zBP.l14; simp only []; rw [psz s]
    unfold runM at hx
    rw [List.length_drop] at hx
    by_cases h1 : (bl s).length - p = 0
    · rw [if_pos (.inl h1)] at hx
      rw [pLt_f (by omega), ifB_f, bindO_s, ifB_f, hx]
      exact fin b r i (p : Int) hb hr
    rw [pLt_t (by omega), ifB_t, bindO_s]
    cases i with
    | true =>
      rw [if_pos (.inr rfl)] at hx
      rw [show pNot true = false from rfl, ifB_f, hx]
      exact fin b r true (p : Int) hb hr
    | false =>
    rw [if_neg (by simp [h1])] at hx
    rw [show pNot false = true from rfl, ifB_t, pLe_t (by omega), ifB_t, pLe_t (by omega), ifB_t, pLe_t (by omega), ifB_t]
    have hes : bl (ssub s (p : Int) ((bl s).length : Int)) = (bl s).drop p := by
      have := bl_ssub s p
      rwa [psz] at this
    obtain ⟨y, y1, y2, y3⟩ := impl_ViDo_eq N hN (ssub s (p : Int) ((bl s).length : Int)) (by rw [hes, List.length_drop]; omega) b r hb hr
    rw [hes] at y2 y3
    rw [y1, bindO_s, y2]
    by_cases hc : (viM false b r ((bl s).drop p)).2.2.2.2.1 = 0
    · have hy := y3 hc
      obtain ⟨g1, g2, g3, g4⟩ := viM_right hb hr false _ hc
      rw [List.length_drop] at g4
      rw [if_neg (by simp [hc])] at hx
      subst hy
      rw [pNe_f hc, ifB_f, bindO_s, pLt_f (by omega), ifB_f]
      generalize viM false b r ((bl s).drop p) = y at *
      have := ih m (p + y.2.2.2.1.toNat) y.1 y.2.1 y.2.2.1 (by omega) (by omega) (by omega) g1 g2 (by
        rw [hx, List.drop_drop, show ((p + y.2.2.2.1.toNat : Nat) : Int) = (p : Int) + y.2.2.2.1 by omega])
      rw [show pAdd .i64 (p : Int) y.2.2.2.1 = ((p + y.2.2.2.1.toNat : Nat) : Int) by rw [pAdd_i (by omega) (by omega)]; omega]
      exact this
    · rw [if_pos hc] at hx
      rw [pNe_t hc, ifB_t, bindO_s, ifB_t]
      obtain ⟨s1, s2, s3, s4⟩ := slf b r hb hr
      have e3 : (viM false b r ((bl s).drop p)).2.2.2.2.1 = x59.2.2.2.2.1 := by rw [← e1, hx]
      have e4 : (p : Int) = x59.2.2.2.1 := by rw [← e2, hx]
      rw [pEq_t e3, ifB_t, pEq_t e4, bindO_s, ifB_t]
      rw [show zCS N x60.1 b = some true by rw [hx]; exact s1, bindO_s, bindO_s, ifB_t, show zCL N x60.2.1 r = some true by rw [hx]; exact s2]
      rfl
theorem bytesOf_size (l : List Int) : (bytesOf l).size = l.length := by
  unfold bytesOf ByteArray.size
  simp
theorem pCat_size (a b : ByteArray) : (pCat a b).size = a.size + b.size := ByteArray.size_append
theorem dec_step {N : Nat} {R : Type} (k : Int) (h0 : 0 < k) (h1 : k ≤ 1000) (x : ByteArray) (hx : x.size ≤ 1000) {kn kx : _ → Option R} : ∃ b : ByteArray, b.size = 1 ∧ zB5.l5 N (k, false, x, ()) kn kx = kn (k / 10, false, pCat b x, ()) := by
  unfold zB5.l5
  simp only []
  have hr : pRem k 10 = k % 10 := Int.tmod_eq_emod_of_nonneg (by omega)
  have hq : pQuo .i64 k 10 = k / 10 := IntWalk.i64_quo _ _ ⟨by omega, by omega, by omega⟩
  have hf : ∀ v : Int, pFitS (bytesOf [v]) x = true := fun v => by
    unfold pFitS
    rw [bytesOf_size]
    exact decide_eq_true (by simp; omega)
  rw [pNe_t (by omega), ifB_t, pEq_f (by omega), ifB_f, hr, pLt_f (by omega), ifB_f, hf, ifB_t, ifB_f, hq]
  exact ⟨_, bytesOf_size _, rfl⟩
theorem dec_tot (N : Nat) (hN : 5 < N) (k : Int) (h0 : 0 < k) (h1 : k ≤ 99) : Tot (fun b : ByteArray => b.size ≤ 2) (zB5 N k) := by
  obtain ⟨M, rfl⟩ : ∃ M, N = M + 5 := ⟨N - 5, by omega⟩
  unfold zB5
  rw [pEq_f (by omega), ifB_f, pLt_f (by omega), loopP_s]
  have he : (ByteArray.mk #[]).size = 0 := rfl
  obtain ⟨b1, q1, q2⟩ := dec_step (N := M + 5) k h0 (by omega) (ByteArray.mk #[]) (by omega) (R := ByteArray) (kn := fun d' => loopP (zB5.l5 (M + 5)) (M + 4) d' (fun d =>
      let x13 := d.1;
      let x14 := d.2.1;
      ifB x13 (
        ifB (pFitS (ByteArray.mk #[45]) x14) (
          some (pCat (ByteArray.mk #[45]) x14)) (
          none)) (
        some x14))) (kx := (fun d =>
      let x13 := d.1;
      let x14 := d.2.1;
      ifB x13 (
        ifB (pFitS (ByteArray.mk #[45]) x14) (
          some (pCat (ByteArray.mk #[45]) x14)) (
          none)) (
        some x14)))
  rw [q2]
  have stop : ∀ (m : Nat) (x : ByteArray), x.size ≤ 2 → Tot (fun b : ByteArray => b.size ≤ 2) (loopP (zB5.l5 (M + 5)) (m + 1) (0, false, x, ()) (fun d =>
      let x13 := d.1;
      let x14 := d.2.1;
      ifB x13 (
        ifB (pFitS (ByteArray.mk #[45]) x14) (
          some (pCat (ByteArray.mk #[45]) x14)) (
          none)) (
        some x14))) := fun m x hx => ⟨x, rfl, hx⟩
  by_cases h : k / 10 = 0
  · rw [h]
    exact stop (M + 3) _ (by rw [pCat_size]; omega)
  · rw [show M + 4 = (M + 3) + 1 by omega, loopP_s]
    obtain ⟨b2, q3, q4⟩ := dec_step (N := M + 5) (k / 10) (by omega) (by omega) (pCat b1 (ByteArray.mk #[])) (by rw [pCat_size]; omega) (R := ByteArray) (kn := fun d' => loopP (zB5.l5 (M + 5)) (M + 3) d' (fun d =>
      let x13 := d.1;
      let x14 := d.2.1;
      ifB x13 (
        ifB (pFitS (ByteArray.mk #[45]) x14) (
          some (pCat (ByteArray.mk #[45]) x14)) (
          none)) (
        some x14))) (kx := (fun d =>
      let x13 := d.1;
      let x14 := d.2.1;
      ifB x13 (
        ifB (pFitS (ByteArray.mk #[45]) x14) (
          some (pCat (ByteArray.mk #[45]) x14)) (
          none)) (
        some x14)))
    rw [q4, show k / 10 / 10 = 0 by omega]
    exact stop (M + 2) _ (by rw [pCat_size, pCat_size]; omega)
theorem Tot.fitS {B : Type} {P : B → Prop} {xs ys : ByteArray} {a : Option B} (h : xs.size + ys.size ≤ 68719476736) (h1 : Tot P a) : Tot P (ifB (pFitS xs ys) a none) := by
  unfold pFitS
  rw [decide_eq_true h]; exact h1
theorem pickT (N : Nat) (s : SrcT) (l : List ByteArray) (hs : srcOk s) (h0 : 0 < l.length) (hk : l.length ≤ 1048576) : Tot (fun r : ByteArray × SrcT => srcOk r.2 ∧ r.1 ∈ l) (zB7 N s l) := by
  obtain ⟨x, s', h1, h2, h3⟩ := pick_ok N s l hs h0 hk
  exact ⟨_, h1, h2, h3⟩
theorem pick5 {l : List ByteArray} (h : (l.all fun b => decide (b.size ≤ 5)) = true) {x : ByteArray} (hx : x ∈ l) : x.size ≤ 5 := by
  have := List.all_eq_true.1 h x hx
  exact of_decide_eq_true this
theorem keys_tot (N : Nat) (hN : 100 < N) : ∀ (n : Nat) (m : Nat) (v : Int) (x : ByteArray) (s : SrcT), 0 ≤ v → v ≤ n → n ≤ 50 → n < m → x.size ≤ (50 - n) * 20 → srcOk s →
    Tot (fun r : ByteArray × SrcT => r.1.size ≤ 1000 ∧ srcOk r.2) (loopP (zAG.l2 N) m (v, x, s, ()) (fun d => let x73 := d.1; let x74 := d.2.1; some (x73, x74))) := by
  intro n
  induction n with
  | zero =>
    intro m v x s h0 hv hn hm hx hs
    obtain ⟨m, rfl⟩ := succ_of hm
    rw [loopP_s]; unfold zAG.l2; simp only []
    rw [pGt_f (by omega), ifB_f]
    exact Tot.ret ⟨by show x.size ≤ 1000; omega, hs⟩
  | succ n ih =>
    intro m v x s h0 hv hn hm hx hs
    obtain ⟨m, rfl⟩ := succ_of hm
    rw [loopP_s]; unfold zAG.l2; simp only []
    by_cases hz : v = 0
    · rw [pGt_f (by omega), ifB_f]
      exact Tot.ret ⟨by show x.size ≤ 1000; omega, hs⟩
    rw [pGt_t (by omega), ifB_t]
    refine Tot.bind (P := fun d : Int × ByteArray × SrcT × Unit => d.1 = v ∧ d.2.1.size ≤ x.size + 20 ∧ srcOk d.2.2.1) ?_ (fun d hd => ?_)
    · have tail2 : ∀ (y : ByteArray) (s : SrcT), y.size ≤ x.size + 12 → srcOk s → Tot (fun d : Int × ByteArray × SrcT × Unit => d.1 = v ∧ d.2.1.size ≤ x.size + 20 ∧ srcOk d.2.2.1) (
          bindO (zAV N s 30) fun y61 =>
                ifB y61.1 (
                  bindO (zB7 N y61.2 [(ByteArray.mk #[113]), (ByteArray.mk #[100, 122]), (ByteArray.mk #[100, 107]), (ByteArray.mk #[49, 48, 48, 48, 120]), (ByteArray.mk #[100, 121]), (ByteArray.mk #[0])]) fun y62 =>
                  ifB (pFitS y y62.1) (
                    some (v, (pCat y y62.1), y62.2, ())) (
                    none)) (
                  some (v, y, y61.2, ()))) := fun y s hy hs => by
        refine Tot.bind (oneT N s 30 hs (by omega)) fun o ho => ?_
        refine Tot.both ?_ (Tot.ret ⟨rfl, by show y.size ≤ _; omega, ho⟩)
        refine Tot.bind (pickT N _ _ ho (by simp) (by simp)) fun z hz => ?_
        have h5 := pick5 (by decide) hz.2
        exact Tot.fitS (by omega) (Tot.ret ⟨rfl, by show (pCat y z.1).size ≤ _; rw [pCat_size]; omega, hz.1⟩)
      have tail1 : ∀ (y : ByteArray) (s : SrcT), y.size ≤ x.size + 7 → srcOk s → Tot (fun d : Int × ByteArray × SrcT × Unit => d.1 = v ∧ d.2.1.size ≤ x.size + 20 ∧ srcOk d.2.2.1) (
          bindO (zAV N s 30) fun y57 =>
              ifB y57.1 (
                bindO (zB7 N y57.2 [(ByteArray.mk #[105]), (ByteArray.mk #[99, 119]), (ByteArray.mk #[65]), (ByteArray.mk #[99, 99])]) fun y58 =>
                ifB (pFitS y y58.1) (
                  bindO (zAV N y58.2 30) fun y59 =>
                  ifB y59.1 (
                    bindO (zB7 N y59.2 [(ByteArray.mk #[113]), (ByteArray.mk #[100, 122]), (ByteArray.mk #[100, 107]), (ByteArray.mk #[49, 48, 48, 48, 120]), (ByteArray.mk #[100, 121]), (ByteArray.mk #[0])]) fun y60 =>
                    ifB (pFitS (pCat y y58.1) y60.1) (
                      some (v, (pCat (pCat y y58.1) y60.1), y60.2, ())) (
                      none)) (
                    some (v, (pCat y y58.1), y59.2, ()))) (
                  none)) (
                bindO (zAV N y57.2 30) fun y61 =>
                ifB y61.1 (
                  bindO (zB7 N y61.2 [(ByteArray.mk #[113]), (ByteArray.mk #[100, 122]), (ByteArray.mk #[100, 107]), (ByteArray.mk #[49, 48, 48, 48, 120]), (ByteArray.mk #[100, 121]), (ByteArray.mk #[0])]) fun y62 =>
                  ifB (pFitS y y62.1) (
                    some (v, (pCat y y62.1), y62.2, ())) (
                    none)) (
                  some (v, y, y61.2, ())))) := fun y s hy hs => by
        refine Tot.bind (oneT N s 30 hs (by omega)) fun o ho => ?_
        refine Tot.both ?_ (tail2 y o.2 (by omega) ho)
        refine Tot.bind (pickT N _ _ ho (by simp) (by simp)) fun z hz => ?_
        have h5 := pick5 (by decide) hz.2
        exact Tot.fitS (by omega) (tail2 (pCat y z.1) z.2 (by rw [pCat_size]; omega) hz.1)
      refine Tot.bind (oneT N s 5 hs (by omega)) fun o ho => ?_
      refine Tot.both ?_ ?_
      · refine Tot.bind (nT N _ 12 ho (by omega)) fun q hq => ?_
        have hq2 := hq.2.2.2 (by omega)
        have hq1 := hq.2.1
        rw [pAdd_i (by omega) (by omega)]
        refine Tot.bind (dec_tot N (by omega) (1 + q.1) (by omega) (by omega)) fun dd hdd => ?_
        refine Tot.fitS (by omega) ?_
        refine Tot.bind (pickT N _ _ hq.1 (by simp) (by simp)) fun z hz => ?_
        have h5 := pick5 (by decide) hz.2
        refine Tot.fitS (by rw [pCat_size]; omega) ?_
        exact tail1 (pCat (pCat x dd) z.1) z.2 (by rw [pCat_size, pCat_size]; omega) hz.1
      · refine Tot.bind (pickT N _ _ ho (by simp) (by simp)) fun z hz => ?_
        have h5 := pick5 (by decide) hz.2
        refine Tot.fitS (by omega) ?_
        exact tail1 (pCat x z.1) z.2 (by rw [pCat_size]; omega) hz.1
    · have e : pSub .i64 d.1 1 = v - 1 := by rw [hd.1]; exact pSub_i (by omega) (by omega)
      rw [e]
      exact ih m (v - 1) d.2.1 d.2.2.1 (by omega) (by omega) (by omega) (by omega) (by have := hd.2.1; omega) hd.2.2
theorem dvirun_tot (N : Nat) (hN : 100200 < N) (a : List Int) (ha : a.length ≤ 1048576) : Tot (fun r : BufT × RingT × ByteArray => r.1.1.length ≤ 1000 ∧ r.2.1.1.length ≤ 60 ∧ (∀ x ∈ r.2.1.1, x.length ≤ 400) ∧ r.2.2.size ≤ 1000) (zC5 N a) := by
  unfold zC5
  obtain ⟨s, h1, hs⟩ := source_ok N a ha (by omega)
  rw [h1, bindO_s]
  refine Tot.bind (dbuf_tot N (by omega) s hs) fun b hb => ?_
  refine Tot.bind (dring_tot N (by omega) b.2 hb.1) fun r hr => ?_
  have hz := hr.1.2.2.2
  rw [pAdd_i (by omega) (by omega)]
  refine Tot.bind (nT N _ _ hr.1 (by omega)) fun q hq => ?_
  have hq1 := hq.2.1
  have hq2 := hq.2.2.2 (by omega)
  refine Tot.bind (P := fun r : ByteArray × SrcT => r.1.size ≤ 1000 ∧ srcOk r.2) ?_ fun k hk => Tot.ret ⟨hb.2, hr.2.1, hr.2.2, hk.1⟩
  exact keys_tot N (by omega) 50 N q.1 (ByteArray.mk #[]) q.2 hq1 (by omega) (by omega) (by omega) (Nat.zero_le _) hq.1
theorem pure_FnVi (a : List Int) (_h : a.length ≤ 9223372036854775807 ∧ ∀ x ∈ a, IntKind.u8.min ≤ x ∧ x ≤ IntKind.u8.max) : ∃ N, zBP N a = some true := by
  refine ⟨1048700, ?_⟩
  unfold zBP
  rw [pLen_d]
  by_cases ha : 1048576 < a.length
  · rw [pGt_t (by omega), ifB_t]
  rw [pGt_f (by omega), ifB_f]
  obtain ⟨⟨b, r, s⟩, hd, hbl, hrl, hrx, hsl⟩ := dvirun_tot 1048700 (by omega) a (by omega)
  simp only at hbl hrl hrx hsl
  have hlen : (bl s).length = s.size := by have := psz s; unfold pSize at this; omega
  rw [hd, bindO_s]
  simp only []
  rw [spec_ViRun_eq _ (by omega) s (by omega) b r, bindO_s, impl_ViRun_eq _ (by omega) s (by omega) b r hbl (by omega) (fun x hx => by have := hrx x hx; omega), bindO_s]
  by_cases hg : bufG b = true ∧ ringG r = true
  · rw [if_pos hg, if_pos hg]
    obtain ⟨s1, s2⟩ := runM_sim true false (bl s).length b b r false 0 (bl s) hg.1 hg.1 hg.2 ⟨rfl, rfl⟩
    rw [s2, pNe_f rfl, ifB_f, bindO_s, pNe_f rfl, ifB_f, bindO_s, (show ∀ q : Bool, pBeq q q = true by decide), show pNot true = false from rfl, ifB_f]
    by_cases hc : (runM false (bl s).length b r false 0 (bl s)).2.2.2.2.1 = 1
    · rw [pEq_t hc, ifB_t]
    rw [pEq_f hc, ifB_f]
    refine law_loop 1048700 (by omega) s (by omega) _ _ ?_ ?_ (bl s).length 1048700 0 b r false (by omega) (by omega) (by omega) hg.1 hg.2 ?_
    · rw [s2]
    · rw [s2]
    · rw [List.drop_zero]; rfl
  · rw [if_neg hg, if_neg hg]
    rfl
end Go.AE.F
