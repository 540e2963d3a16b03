/- FnComplete: what matches begins with what is common. -/
import Derived.Test.YtnojkkgeefhpaaaPSrc
import Derived.Test.YtnojkkgeefhpaaaPCc
namespace Go.AE.F
open Go.AE
set_option maxRecDepth 100000
theorem first_e9 (M : Nat) : spec_l01First (M+12) (ByteArray.mk #[195, 169]) = some (233, 2) := by
  have h : pSEq (bytesOf [195,169]) (ssub (ByteArray.mk #[195, 169]) 0 2) = true := pSEq_self _
  have e : spec_l01First (M+12) (ByteArray.mk #[195, 169]) = ifB (pNot (pSEq (bytesOf [195,169]) (ssub (ByteArray.mk #[195, 169]) 0 2))) (some (65533, 1)) (some (233, 2)) := rfl
  rw [e, h]; rfl
theorem first_4e00 (M : Nat) : spec_l01First (M+12) (ByteArray.mk #[228, 184, 128, 97]) = some (19968, 3) := by
  have h : pSEq (bytesOf [228,184,128]) (ssub (ByteArray.mk #[228, 184, 128, 97]) 0 3) = true := pSEq_self _
  have e : spec_l01First (M+12) (ByteArray.mk #[228, 184, 128, 97]) = ifB (pNot (pSEq (bytesOf [228,184,128]) (ssub (ByteArray.mk #[228, 184, 128, 97]) 0 3))) (some (65533, 1)) (some (19968, 3)) := rfl
  rw [e, h]; rfl
theorem pts_step {N n : Nat} {R : Type} (s : ByteArray) (i w p : Int) (out : List Int) (k : List Int × Unit → Option R) (h0 : pLt i (pSize s) = true) (h1 : pLe 0 i = true) (h2 : pLe i (pSize s) = true) (h3 : pLe (pSize s) (pSize s) = true)
    (hf : spec_l01First N (ssub s i (pSize s)) = some (p, w)) (hl : pFit out [p] = true) :
    loopP (spec_l01Points.l3 N) (n + 1) (s, i, out, ()) k = loopP (spec_l01Points.l3 N) n (s, pAdd .i64 i w, out ++ [p], ()) k := by
  rw [loopP_s]
  unfold spec_l01Points.l3
  simp only [h0, h1, h2, h3, hf, hl, ifB_t, bindO_s]
  rfl
theorem pts_cafe (M : Nat) : spec_l01Points (M+12) (ByteArray.mk #[99, 97, 102, 195, 169]) = some [99, 97, 102, 233] := by
  have h0 := pts_step (N := M+12) (n := M+11) (R := List Int) (ByteArray.mk #[99, 97, 102, 195, 169]) 0 1 99 [] (fun d => some d.1) rfl rfl rfl rfl (rfl) rfl
  have h1 := pts_step (N := M+12) (n := M+10) (R := List Int) (ByteArray.mk #[99, 97, 102, 195, 169]) 1 1 97 [99] (fun d => some d.1) rfl rfl rfl rfl (rfl) rfl
  have h2 := pts_step (N := M+12) (n := M+9) (R := List Int) (ByteArray.mk #[99, 97, 102, 195, 169]) 2 1 102 [99,97] (fun d => some d.1) rfl rfl rfl rfl (rfl) rfl
  have h3 := pts_step (N := M+12) (n := M+8) (R := List Int) (ByteArray.mk #[99, 97, 102, 195, 169]) 3 2 233 [99,97,102] (fun d => some d.1) rfl rfl rfl rfl (first_e9 M) rfl
  unfold spec_l01Points
  exact h0.trans (h1.trans (h2.trans (h3.trans rfl)))
theorem pts_one (M : Nat) : spec_l01Points (M+12) (ByteArray.mk #[228, 184, 128, 97]) = some [19968, 97] := by
  have e : spec_l01Points (M+12) (ByteArray.mk #[228, 184, 128, 97]) = bindO (spec_l01First (M+12) (ByteArray.mk #[228, 184, 128, 97])) (fun y12 => ifB (pFit [] [y12.1]) (loopP (spec_l01Points.l3 (M+12)) (M+11) ((ByteArray.mk #[228, 184, 128, 97]), (pAdd Go.IntKind.i64 0 y12.2), (pApp [] [y12.1]), ()) (fun d =>
    let x13 := d.1;
    some x13)) none) := rfl
  rw [e, first_4e00]; rfl

/-- what is drawn is short -/
def shortP (x : Option (List Int)) : Prop := ∃ p, x = some p ∧ p.length ≤ 8
def shortQ (x : Option (List Int)) : Prop := ∃ p, x = some p ∧ p.length ≤ 8 ∧ ptsG p = true
theorem cand_words_0 (M : Nat) : shortP (spec_l01Points (M + 12) (ByteArray.mk #[97, 98])) := ⟨[97, 98], rfl, by decide⟩
theorem cand_words_1 (M : Nat) : shortP (spec_l01Points (M + 12) (ByteArray.mk #[97, 98, 99])) := ⟨[97, 98, 99], rfl, by decide⟩
theorem cand_words_2 (M : Nat) : shortP (spec_l01Points (M + 12) (ByteArray.mk #[97, 98, 100])) := ⟨[97, 98, 100], rfl, by decide⟩
theorem cand_words_3 (M : Nat) : shortP (spec_l01Points (M + 12) (ByteArray.mk #[97])) := ⟨[97], rfl, by decide⟩
theorem cand_words_4 (M : Nat) : shortP (spec_l01Points (M + 12) (ByteArray.mk #[98])) := ⟨[98], rfl, by decide⟩
theorem cand_words_5 (M : Nat) : shortP (spec_l01Points (M + 12) (ByteArray.mk #[109, 97, 107, 101])) := ⟨[109, 97, 107, 101], rfl, by decide⟩
theorem cand_words_6 (M : Nat) : shortP (spec_l01Points (M + 12) (ByteArray.mk #[109, 97, 120])) := ⟨[109, 97, 120], rfl, by decide⟩
theorem cand_words_7 (M : Nat) : shortP (spec_l01Points (M + 12) (ByteArray.mk #[109, 97, 95, 49])) := ⟨[109, 97, 95, 49], rfl, by decide⟩
theorem cand_words_8 (M : Nat) : shortP (spec_l01Points (M + 12) (ByteArray.mk #[99, 97, 102, 195, 169])) := ⟨[99, 97, 102, 233], pts_cafe M, by decide⟩
theorem cand_words_9 (M : Nat) : shortP (spec_l01Points (M + 12) (ByteArray.mk #[228, 184, 128, 97])) := ⟨[19968, 97], pts_one M, by decide⟩
theorem cand_words (M : Nat) (x : ByteArray) (h : x ∈ [(ByteArray.mk #[97, 98]), (ByteArray.mk #[97, 98, 99]), (ByteArray.mk #[97, 98, 100]), (ByteArray.mk #[97]), (ByteArray.mk #[98]), (ByteArray.mk #[109, 97, 107, 101]), (ByteArray.mk #[109, 97, 120]), (ByteArray.mk #[109, 97, 95, 49]), (ByteArray.mk #[99, 97, 102, 195, 169]), (ByteArray.mk #[228, 184, 128, 97])]) : shortP (spec_l01Points (M + 12) x) := by
  simp only [List.mem_cons, List.not_mem_nil, or_false] at h
  rcases h with h | h | h | h | h | h | h | h | h | h
  · rw [h]; exact cand_words_0 M
  · rw [h]; exact cand_words_1 M
  · rw [h]; exact cand_words_2 M
  · rw [h]; exact cand_words_3 M
  · rw [h]; exact cand_words_4 M
  · rw [h]; exact cand_words_5 M
  · rw [h]; exact cand_words_6 M
  · rw [h]; exact cand_words_7 M
  · rw [h]; exact cand_words_8 M
  · rw [h]; exact cand_words_9 M
theorem pref_words_0 (M : Nat) : shortQ (spec_l01Points (M + 12) (ByteArray.mk #[])) := ⟨[], rfl, by decide, by decide⟩
theorem pref_words_1 (M : Nat) : shortQ (spec_l01Points (M + 12) (ByteArray.mk #[97])) := ⟨[97], rfl, by decide, by decide⟩
theorem pref_words_2 (M : Nat) : shortQ (spec_l01Points (M + 12) (ByteArray.mk #[97, 98])) := ⟨[97, 98], rfl, by decide, by decide⟩
theorem pref_words_3 (M : Nat) : shortQ (spec_l01Points (M + 12) (ByteArray.mk #[109])) := ⟨[109], rfl, by decide, by decide⟩
theorem pref_words_4 (M : Nat) : shortQ (spec_l01Points (M + 12) (ByteArray.mk #[109, 97])) := ⟨[109, 97], rfl, by decide, by decide⟩
theorem pref_words_5 (M : Nat) : shortQ (spec_l01Points (M + 12) (ByteArray.mk #[120])) := ⟨[120], rfl, by decide, by decide⟩
theorem pref_words_6 (M : Nat) : shortQ (spec_l01Points (M + 12) (ByteArray.mk #[99, 97, 102])) := ⟨[99, 97, 102], rfl, by decide, by decide⟩
theorem pref_words (M : Nat) (x : ByteArray) (h : x ∈ [(ByteArray.mk #[]), (ByteArray.mk #[97]), (ByteArray.mk #[97, 98]), (ByteArray.mk #[109]), (ByteArray.mk #[109, 97]), (ByteArray.mk #[120]), (ByteArray.mk #[99, 97, 102])]) : shortQ (spec_l01Points (M + 12) x) := by
  simp only [List.mem_cons, List.not_mem_nil, or_false] at h
  rcases h with h | h | h | h | h | h | h
  · rw [h]; exact pref_words_0 M
  · rw [h]; exact pref_words_1 M
  · rw [h]; exact pref_words_2 M
  · rw [h]; exact pref_words_3 M
  · rw [h]; exact pref_words_4 M
  · rw [h]; exact pref_words_5 M
  · rw [h]; exact pref_words_6 M

theorem cand_ok (M : Nat) (s : SrcT) (hs : srcOk s) : ∃ c s', spec_l01Src_l15Cand (M + 12) s = some (c, s') ∧ srcOk s' ∧ c.length ≤ 50 := by
  obtain ⟨x, s1, h1, hs1, hm⟩ := pick_ok (M + 12) s [(ByteArray.mk #[97, 98]), (ByteArray.mk #[97, 98, 99]), (ByteArray.mk #[97, 98, 100]), (ByteArray.mk #[97]), (ByteArray.mk #[98]), (ByteArray.mk #[109, 97, 107, 101]), (ByteArray.mk #[109, 97, 120]), (ByteArray.mk #[109, 97, 95, 49]), (ByteArray.mk #[99, 97, 102, 195, 169]), (ByteArray.mk #[228, 184, 128, 97])] hs (by decide) (by decide)
  obtain ⟨p, h2, h3⟩ := cand_words M x hm
  refine ⟨p, s1, ?_, hs1, by omega⟩
  unfold spec_l01Src_l15Cand
  simp only [h1, h2, bindO_s]

theorem pref_ok (M : Nat) (s : SrcT) (hs : srcOk s) : ∃ c s', spec_l01Src_l15Prefix (M + 12) s = some (c, s') ∧ srcOk s' ∧ c.length ≤ 8 ∧ ptsG c = true := by
  obtain ⟨x, s1, h1, hs1, hm⟩ := pick_ok (M + 12) s [(ByteArray.mk #[]), (ByteArray.mk #[97]), (ByteArray.mk #[97, 98]), (ByteArray.mk #[109]), (ByteArray.mk #[109, 97]), (ByteArray.mk #[120]), (ByteArray.mk #[99, 97, 102])] hs (by decide) (by decide)
  obtain ⟨p, h2, h3, h4⟩ := pref_words M x hm
  refine ⟨p, s1, ?_, hs1, h3, h4⟩
  unfold spec_l01Src_l15Prefix
  simp only [h1, h2, bindO_s]

theorem cl5 (M : Nat) {R : Type} (k : SrcT × List (List Int) × Unit → Option R) : ∀ (m n : Nat) (s : SrcT) (out : List (List Int)), m < n → srcOk s → out.length + m ≤ 1000 → (∀ x ∈ out, x.length ≤ 50) →
    ∃ s' out', loopP (spec_l01Src_l15Cands.l5 (M + 12)) n ((m : Int), s, out, ()) k = k (s', out', ()) ∧ srcOk s' ∧ out'.length ≤ out.length + m ∧ ∀ x ∈ out', x.length ≤ 50 := by
  intro m
  induction m with
  | zero =>
    intro n s out hn hs ho hx
    obtain ⟨n, rfl⟩ := succ_of hn
    refine ⟨s, out, ?_, hs, by omega, hx⟩
    rw [loopP_s]; unfold spec_l01Src_l15Cands.l5; simp only []
    rw [pGt_f (by omega), ifB_f]
  | succ m ih =>
    intro n s out hn hs ho hx
    obtain ⟨n, rfl⟩ := succ_of hn
    obtain ⟨c, s1, h1, hs1, hc⟩ := cand_ok M s hs
    have e : pSub .i64 ((m + 1 : Nat) : Int) 1 = (m : Int) := by rw [pSub_i (by omega) (by omega)]; omega
    rw [loopP_s]; unfold spec_l01Src_l15Cands.l5; simp only []
    rw [pGt_t (by omega), ifB_t, h1, bindO_s, pFit_t (by simp; omega), ifB_t, e]
    obtain ⟨s2, o2, g1, g2, g3, g4⟩ := ih n s1 (pApp out [c]) (by omega) hs1 (by simp [pApp]; omega) (fun x h => by
      simp only [pApp, List.mem_append, List.mem_singleton] at h
      rcases h with h | h
      · exact hx x h
      · rw [h]; exact hc)
    exact ⟨s2, o2, g1, g2, by simp [pApp] at g3; omega, g4⟩

theorem cl12 (M : Nat) {R : Type} (s : SrcT) (out : List (List Int)) (k : SrcT × List (List Int) × List Int × Unit → Option R) : ∀ (m n : Nat) (z : List Int), m < n → z.length + m ≤ 1000 →
    ∃ z', loopP (spec_l01Src_l15Cands.l12 M) n ((m : Int), s, out, z, ()) k = k (s, out, z', ()) ∧ z'.length ≤ z.length + m := by
  intro m
  induction m with
  | zero =>
    intro n z hn hz
    obtain ⟨n, rfl⟩ := succ_of hn
    refine ⟨z, ?_, by omega⟩
    rw [loopP_s]; unfold spec_l01Src_l15Cands.l12; simp only []
    rw [pGt_f (by omega), ifB_f]
  | succ m ih =>
    intro n z hn hz
    obtain ⟨n, rfl⟩ := succ_of hn
    have e : pSub .i64 ((m + 1 : Nat) : Int) 1 = (m : Int) := by rw [pSub_i (by omega) (by omega)]; omega
    rw [loopP_s]; unfold spec_l01Src_l15Cands.l12; simp only []
    rw [pGt_t (by omega), ifB_t, pFit_t (by simp; omega), ifB_t, e]
    obtain ⟨z2, g1, g2⟩ := ih n (pApp z [122]) (by omega) (by simp [pApp]; omega)
    exact ⟨z2, g1, by simp [pApp] at g2; omega⟩

/-- candidates, as they are drawn -/
def drawnC (o : Option (List (List Int) × SrcT)) : Prop := ∃ l s', o = some (l, s') ∧ srcOk s' ∧ l.length ≤ 50 ∧ ∀ x ∈ l, x.length ≤ 50

theorem app_50 {out : List (List Int)} {c : List Int} (hx : ∀ x ∈ out, x.length ≤ 50) (hc : c.length ≤ 50) : ∀ x ∈ pApp out [c], x.length ≤ 50 := fun x h => by
  simp only [pApp, List.mem_append, List.mem_singleton] at h
  rcases h with h | h
  · exact hx x h
  · rw [h]; exact hc

theorem tail_ok (M : Nat) (s : SrcT) (hs : srcOk s) (out : List (List Int)) (ho : out.length ≤ 45) (hx : ∀ x ∈ out, x.length ≤ 50) : drawnC (
      bindO (spec_l01Src_one (M + 60) s 15) fun y65 =>
      ifB y65.1 (
        bindO (spec_l01Src_n (M + 60) y65.2 3) fun y66 =>
        ifB (pEq y66.1 0) (
          ifB (pFit out [[]]) (
            some ((pApp out [[]]), y66.2)) (
            none)) (
          ifB (pEq y66.1 1) (
            ifB (pFit out [[32]]) (
              some ((pApp out [[32]]), y66.2)) (
              none)) (
            bindO (spec_l01Src_n (M + 60) y66.2 3) fun y67 =>
            loopP (spec_l01Src_l15Cands.l12 (M + 60)) (M + 60) ((pAdd Go.IntKind.i64 y67.1 39), y67.2, out, [], ()) (
              fun d =>
              let x72 := d.1;
              let x73 := d.2.1;
              let x74 := d.2.2.1;
              ifB (pFit x73 [x74]) (
                some ((pApp x73 [x74]), x72)) (
                none))))) (
        some (out, y65.2))) := by
  obtain ⟨b, s1, h1, hs1⟩ := one_ok (M + 60) s 15 hs (by omega)
  rw [h1, bindO_s]
  simp only []
  cases b with
  | false => exact ⟨out, s1, rfl, hs1, by omega, hx⟩
  | true =>
    obtain ⟨v, s2, h2, hs2, v1, v2, v3⟩ := n_ok (M + 60) s1 3 hs1 (by omega)
    rw [ifB_t, h2, bindO_s]
    simp only []
    rw [pFit_t (by simp; omega), pFit_t (by simp; omega), ifB_t, ifB_t]
    cases pEq v 0 with
    | true => exact ⟨_, s2, rfl, hs2, by simp [pApp]; omega, app_50 hx (by simp)⟩
    | false =>
      rw [ifB_f]
      cases pEq v 1 with
      | true => exact ⟨_, s2, rfl, hs2, by simp [pApp]; omega, app_50 hx (by simp)⟩
      | false =>
        rw [ifB_f]
        obtain ⟨w, s3, h3, hs3, w1, w2, w3⟩ := n_ok (M + 60) s2 3 hs2 (by omega)
        rw [h3, bindO_s]
        have w4 := w3 (by omega)
        obtain ⟨q, rfl⟩ : ∃ q : Nat, w = (q : Int) := ⟨w.toNat, by omega⟩
        have e : pAdd .i64 (q : Int) 39 = ((q + 39 : Nat) : Int) := by rw [pAdd_i (by omega) (by omega)]; omega
        simp only []
        rw [e]
        obtain ⟨z, g1, g2⟩ := cl12 (M + 60) s3 out (fun d =>
              let x72 := d.1;
              let x73 := d.2.1;
              let x74 := d.2.2.1;
              ifB (pFit x73 [x74]) (
                some ((pApp x73 [x74]), x72)) (
                none)) (q + 39) (M + 60) [] (by omega) (by simp; omega)
        rw [g1]
        simp only []
        rw [pFit_t (by simp; omega), ifB_t]
        simp only [List.length_nil] at g2
        exact ⟨_, s3, rfl, hs3, by simp [pApp]; omega, app_50 hx (by omega)⟩

theorem cands_ok (M : Nat) (s : SrcT) (hs : srcOk s) : drawnC (spec_l01Src_l15Cands (M + 60) s) := by
  unfold spec_l01Src_l15Cands
  obtain ⟨v, s1, h1, hs1, v1, v2, v3⟩ := n_ok (M + 60) s 6 hs (by omega)
  obtain ⟨b, s2, h2, hs2⟩ := one_ok (M + 60) s1 30 hs1 (by omega)
  rw [h1, bindO_s]
  simp only []
  rw [h2, bindO_s]
  simp only []
  cases b with
  | true =>
    obtain ⟨w, s3, h3, hs3, w1, w2, w3⟩ := n_ok (M + 60) s2 3 hs2 (by omega)
    have w4 := w3 (by omega)
    obtain ⟨q, rfl⟩ : ∃ q : Nat, w = (q : Int) := ⟨w.toNat, by omega⟩
    have e : pAdd .i64 39 (q : Int) = ((q + 39 : Nat) : Int) := by rw [pAdd_i (by omega) (by omega)]; omega
    rw [ifB_t, h3, bindO_s]
    simp only []
    rw [e]
    obtain ⟨s4, o4, g1, g2, g3, g4⟩ := cl5 (M + 48) _ (q + 39) (M + 60) s3 [] (by omega) hs3 (by simp; omega) (fun x h => by cases h)
    rw [g1]
    exact tail_ok M s4 g2 o4 (by simp at g3; omega) g4
  | false =>
    have v4 := v3 (by omega)
    obtain ⟨q, rfl⟩ : ∃ q : Nat, v = (q : Int) := ⟨v.toNat, by omega⟩
    rw [ifB_f]
    obtain ⟨s4, o4, g1, g2, g3, g4⟩ := cl5 (M + 48) _ q (M + 60) s2 [] (by omega) hs2 (by simp; omega) (fun x h => by cases h)
    rw [g1]
    exact tail_ok M s4 g2 o4 (by simp at g3; omega) g4

theorem draw_ok (M : Nat) (a : List Int) (ha : a.length ≤ 1048576) (hM : 64 ≤ M) : ∃ l p, spec_DrawCompCommon (M + 60) a = some (l, p) ∧ l.length ≤ 50 ∧ (∀ x ∈ l, x.length ≤ 50) ∧ p.length ≤ 8 ∧ ptsG p = true := by
  obtain ⟨s, h1, hs⟩ := source_ok (M + 60) a ha (by omega)
  obtain ⟨l, s2, h2, hs2, h3, h4⟩ := cands_ok M s hs
  obtain ⟨p, s3, h5, hs3, h6, h7⟩ := pref_ok (M + 48) s2 hs2
  refine ⟨l, p, ?_, h3, h4, h6, h7⟩
  unfold spec_DrawCompCommon
  rw [h1, bindO_s, h2, bindO_s]
  show bindO (spec_l01Src_l15Prefix (M + 48 + 12) s2) _ = _
  rw [h5, bindO_s]

/-! ### the helpers of the laws -/
theorem lwCopy_eq (N : Nat) (a : List Int) (h : a.length ≤ 68719476736) : laws_lwCopy N a = some a := by
  unfold laws_lwCopy
  rw [pFit_t (by simp; exact h), ifB_t]
  rfl

theorem lwAll_loop {N : Nat} {R : Type} (l : List (List Int)) (hl : l.length ≤ 1048576) (hx : ∀ x ∈ l, x.length ≤ 68719476736) (k : List (List Int) × Unit → Option R) : ∀ (m i n : Nat), l.length - i = m → i ≤ l.length → m < n →
    loopP (laws_lwAll.l3 N) n (l, (i : Int), l.take i, ()) k = k (l, ()) := by
  intro m
  induction m with
  | zero =>
    intro i n hm hi hn
    obtain ⟨n, rfl⟩ := succ_of hn
    rw [loopP_s]; unfold laws_lwAll.l3; simp only [pLen_d]
    rw [pLt_f (by omega), ifB_f, List.take_of_length_le (by omega)]
  | succ m ih =>
    intro i n hm hi hn
    obtain ⟨n, rfl⟩ := succ_of hn
    have hlt : i < l.length := by omega
    rw [loopP_s]; unfold laws_lwAll.l3; simp only [pLen_d]
    rw [pLt_t (by omega), ifB_t, idx_lt hlt, bindO_s, lwCopy_eq N _ (hx _ (List.getElem_mem hlt)), bindO_s, pFit_t (by simp; omega), ifB_t, pAdd_i (by omega) (by omega)]
    have e : pApp (l.take i) [l[i]] = l.take (i + 1) := by rw [List.take_succ_eq_append_getElem hlt]; rfl
    rw [e]
    exact ih (i + 1) n (by omega) (by omega) (by omega)

theorem lwAll_eq (N : Nat) (l : List (List Int)) (hl : l.length ≤ 1048576) (hN : l.length < N) (hx : ∀ x ∈ l, x.length ≤ 68719476736) : laws_lwAll N l = some l := by
  unfold laws_lwAll
  exact lwAll_loop l hl hx _ _ 0 N rfl (by omega) (by omega)

theorem lwSame_eq (N : Nat) (a b : List Int) (ha : a.length ≤ 9223372036854775806) (hN : a.length < N) : laws_lwSame N a b = some (decide (a = b)) := by
  unfold laws_lwSame
  simp only [pLen_d]
  by_cases hl : a.length = b.length
  · rw [pNe_f (by omega), ifB_f]
    obtain ⟨h1, h2⟩ := eq_loop (R := Bool) (P := fun x y => some (pNe x y)) (xs := a) (ys := b) ha hl (step := laws_lwSame.l4 N) (fun i kn kx => by simp only [laws_lwSame.l4, bindO_s, pLen_d])
      (fun x _ y _ => ⟨_, rfl, by rw [pNe_d]; simp⟩) (onSum (fun _ => some true) (fun d => let x43 := d.1; some x43)) _ 0 N rfl (by omega) (by omega)
    rw [List.drop_zero, List.drop_zero] at h1 h2
    by_cases he : a = b
    · rw [decide_eq_true he]; exact h1 he
    · rw [decide_eq_false he]; exact h2 he
  · rw [pNe_t (by omega), ifB_t, decide_eq_false (fun h => hl (by rw [h]))]

theorem lwBegins_eq (N : Nat) (x p : List Int) (hx : x.length ≤ 9223372036854775806) (hN : x.length < N) : laws_lwBegins N x p = some (begG x p) := by
  unfold laws_lwBegins begG
  simp only [pLen_d]
  by_cases h : p.length ≤ x.length
  · rw [pGe_t (by omega), ifB_t, pLe_t (by omega), ifB_t, pLe_t (by omega), ifB_t, pLe_t (by omega), ifB_t, sub_take, lwSame_eq N _ p (by simp; omega) (by simp; omega), decide_eq_true h]
    rfl
  · rw [pGe_f (by omega), ifB_f, decide_eq_false h]; rfl

/-! ### what is common -/
theorem dn_pos (p : Nat → Bool) : ∀ n, dn p n = 0 ∨ p (dn p n) = true
  | 0 => .inl rfl
  | n + 1 => by
    unfold dn
    split
    · rename_i h; exact .inr h
    · exact dn_pos p n

theorem dn_max (p : Nat → Bool) (m : Nat) (hm : p m = true) : ∀ n, m ≤ n → m ≤ dn p n
  | 0, h => h
  | n + 1, h => by
    unfold dn
    split
    · exact h
    · rename_i q
      by_cases e : m = n + 1
      · rw [e] at hm; exact absurd hm q
      · exact dn_max p m hm n (by omega)

/-- the points with which all that match begin -/
def comM (l : List (List Int)) (p : List Int) : List Int := match matG p l with | [] => p | x :: f => x.take (comN x (x :: f) x.length)

theorem com_all (l : List (List Int)) (p : List Int) (x : List Int) (hx : x ∈ matG p l) : begG x (comM l p) = true := by
  unfold comM
  cases hf : matG p l with
  | nil => rw [hf] at hx; cases hx
  | cons y f =>
    rw [hf] at hx
    show begN y x (comN y (y :: f) y.length) = true
    unfold comN
    rcases dn_pos (fun i => (y :: f).all fun c => begN y c i) y.length with h | h
    · rw [h]; exact begN_0 y x
    · exact List.all_eq_true.1 h x hx

theorem com_pre (l : List (List Int)) (p : List Int) : begG (comM l p) p = true := by
  unfold comM
  cases hf : matG p l with
  | nil => unfold begG; simp
  | cons y f =>
    show begG (y.take (comN y (y :: f) y.length)) p = true
    have hall : ∀ c ∈ y :: f, begG c p = true := fun c hc => by rw [← hf] at hc; exact (List.mem_filter.1 hc).2
    have hy := hall y (by simp)
    unfold begG at hy
    simp only [Bool.and_eq_true, decide_eq_true_eq] at hy
    have hm : ((y :: f).all fun c => begN y c p.length) = true := List.all_eq_true.2 fun c hc => by
      unfold begN
      rw [hy.2]
      exact hall c hc
    have := dn_max (fun i => (y :: f).all fun c => begN y c i) p.length hm y.length hy.1
    have h2 : p.length ≤ comN y (y :: f) y.length := this
    unfold begG
    rw [List.take_take, Nat.min_eq_left h2, hy.2, List.length_take, decide_eq_true rfl, decide_eq_true (by omega)]
    rfl

theorem comM_len (l : List (List Int)) (p : List Int) (hp : p.length ≤ 50) (hx : ∀ x ∈ l, x.length ≤ 50) : (comM l p).length ≤ 50 := by
  unfold comM
  cases hf : matG p l with
  | nil => exact hp
  | cons x f =>
    have hm : x ∈ matG p l := by rw [hf]; simp
    have := hx x (List.mem_filter.1 hm).1
    show (x.take _).length ≤ _
    rw [List.length_take]
    omega

theorem last_loop {N : Nat} {R : Type} (hN : 60 < N) (l : List (List Int)) (p : List Int) (hl : l.length ≤ 50) (hx : ∀ x ∈ l, x.length ≤ 50) (k : (Int × List Int × List Int × List Int × Unit) ⊕ (Bool × Unit) → Option R) :
    ∀ (m i n at' : Nat), l.length - i = m → i ≤ l.length → m < n → at' ≤ (idxG p 0 l).length → (idxG p 0 l).drop at' = idxG p i (l.drop i) →
    loopP (laws_FnComplete.l12 N) n ((at' : Int), (i : Int), l, p, comM l p, idxG p 0 l, ()) k = k (.inl (((idxG p 0 l).length : Int), p, comM l p, idxG p 0 l, ())) := by
  intro m
  induction m with
  | zero =>
    intro i n at' hm hi hn ha hd
    obtain ⟨n, rfl⟩ := succ_of hn
    rw [loopP_s]; unfold laws_FnComplete.l12; simp only [pLen_d]
    rw [List.drop_eq_nil_of_le (show l.length ≤ i by omega)] at hd
    have h0 : (idxG p 0 l).length - at' = 0 := by
      have := congrArg List.length hd
      rw [List.length_drop] at this
      exact this
    rw [pLt_f (by omega), ifB_f, show at' = (idxG p 0 l).length by omega]
  | succ m ih =>
    intro i n at' hm hi hn ha hd
    obtain ⟨n, rfl⟩ := succ_of hn
    have hlt : i < l.length := by omega
    have hxi := hx _ (List.getElem_mem hlt)
    rw [loopP_s]; unfold laws_FnComplete.l12; simp only [pLen_d]
    rw [pLt_t (by omega), ifB_t]
    rw [drop_c hlt] at hd
    simp only [idx_lt hlt, bindO_s, lwBegins_eq N l[i] p (by omega) (by omega)]
    cases hb : begG l[i] p with
    | false =>
      have e : idxG p i (l[i] :: l.drop (i + 1)) = idxG p ((i + 1 : Nat) : Int) (l.drop (i + 1)) := by simp only [idxG, hb, Bool.false_eq_true, if_false]; rfl
      rw [e] at hd
      rw [pNot_d, Bool.not_false, ifB_t, bindO_s]
      simp only [onSum]
      rw [pAdd_i (by omega) (by omega)]
      exact ih (i + 1) n at' (by omega) (by omega) (by omega) ha hd
    | true =>
      have e : idxG p i (l[i] :: l.drop (i + 1)) = (i : Int) :: idxG p ((i + 1 : Nat) : Int) (l.drop (i + 1)) := by simp only [idxG, hb, if_true]; rfl
      rw [e] at hd
      have hat : at' < (idxG p 0 l).length := by
        have := congrArg List.length hd
        rw [List.length_drop, List.length_cons] at this
        omega
      rw [drop_c hat] at hd
      have h1 : (idxG p 0 l)[at'] = (i : Int) := (List.cons.inj hd).1
      have h2 := (List.cons.inj hd).2
      have hlen := idxG_len p l 0
      have hcm := comM_len l p (by
        have hh := hb
        unfold begG at hh
        simp only [Bool.and_eq_true, decide_eq_true_eq] at hh
        omega) hx
      have hc : begG l[i] (comM l p) = true := com_all l p _ (List.mem_filter.2 ⟨List.getElem_mem hlt, hb⟩)
      rw [pNot_d, Bool.not_true, ifB_f, pGe_f (by omega), ifB_f, idx_lt hat, bindO_s, bindO_s, h1, pNe_f rfl, bindO_s, ifB_f, lwBegins_eq N l[i] (comM l p) (by omega) (by omega), bindO_s, hc, pNot_d, Bool.not_true, bindO_s, ifB_f, bindO_s]
      simp only [onSum]
      rw [pAdd_i (by omega) (by omega), pAdd_i (by omega) (by omega)]
      exact ih (i + 1) n (at' + 1) (by omega) (by omega) (by omega) (by omega) h2

theorem pure_FnComplete (a : List Int) (_h : a.length ≤ 9223372036854775807 ∧ ∀ x ∈ a, IntKind.u8.min ≤ x ∧ x ≤ IntKind.u8.max) : ∃ N, laws_FnComplete N a = some true := by
  refine ⟨1000 + 60, ?_⟩
  unfold laws_FnComplete
  by_cases hl : a.length ≤ 1048576
  · obtain ⟨l, p, h1, h2, h3, h4, h5⟩ := draw_ok 1000 a hl (by omega)
    have hx2 : ∀ x ∈ l, x.length ≤ 1048576 ∧ x.length < 1000 + 60 := fun x h => by have := h3 x h; omega
    have hx3 : ∀ x ∈ l, x.length ≤ 9223372036854775806 ∧ x.length < 1000 + 60 := fun x h => by have := h3 x h; omega
    have hg := matchG_len l p
    have hcl := comG_len l p (by omega) (fun x h => by have := h3 x h; omega)
    have c1 : laws_lwAll (1000 + 60) l = some l := lwAll_eq _ l (by omega) (by omega) (fun x h => by have := h3 x h; omega)
    have c2 : laws_lwCopy (1000 + 60) p = some p := lwCopy_eq _ p (by omega)
    have c3 : impl_CompCommon (1000 + 60) l p = some (comG l p) := impl_CompCommon_eq _ l p (by omega) (by omega) (by omega) (by omega) (by omega) hx2
    have c4 : impl_CompMatch (1000 + 60) l p = some (matchG l p) := impl_CompMatch_eq _ l p (by omega) (by omega) (by omega) (by omega) (fun x h => ⟨(hx3 x h).2, (hx3 x h).1⟩)
    have c5 : spec_CompCommon (1000 + 60) l p = some (comG l p) := spec_CompCommon_eq _ l p (by omega) (by omega) hx2
    have c6 : spec_CompMatch (1000 + 60) l p = some (matchG l p) := spec_CompMatch_eq _ l p (by omega) hx3
    have hcl2 : (comG l p).length ≤ 50 := by
      unfold comG
      split
      · exact Nat.zero_le _
      · split
        · omega
        · exact comM_len l p (by omega) h3
    have c7 : laws_lwSame (1000 + 60) (comG l p) (comG l p) = some true := by rw [lwSame_eq _ _ _ (by omega) (by omega), decide_eq_true rfl]
    have c8 : laws_lwSame (1000 + 60) (matchG l p) (matchG l p) = some true := by rw [lwSame_eq _ _ _ (by omega) (by omega), decide_eq_true rfl]
    have c9 : spec_CandsRight (1000 + 60) l = some (candsG l) := spec_CandsRight_eq _ l (by omega)
    have e1 : pNot true = false := rfl
    have e2 : pGt (pLen a) 1048576 = false := by rw [pLen_d]; exact pGt_f (by omega)
    simp only [e2, h1, c1, c2, c3, c4, c5, c6, c7, c8, c9, bindO_s, e1, ifB_f]
    cases hc : candsG l with
    | false =>
      have : matchG l p = [] := by unfold matchG askG; rw [hc]; simp
      rw [this]; rfl
    | true =>
      have ha : askG l p = true := by
        unfold askG
        rw [decide_eq_true (show l.length ≤ 400 by omega), decide_eq_true (show p.length ≤ 400 by omega), hc, h5]; rfl
      have em : matchG l p = idxG p 0 l := by unfold matchG; rw [ha]; rfl
      have ec : comG l p = comM l p := by
        unfold comG
        rw [decide_eq_true (show l.length ≤ 400 by omega), hc, h5]; rfl
      have hlast := last_loop (N := 1000 + 60) (by omega) l p h2 h3 (onSum (fun d =>
            let x108 := d.1;
            let x109 := d.2.1;
            let x110 := d.2.2.1;
            let x111 := d.2.2.2.1;
            bindO (
              ifB (pEq x108 (pLen x111)) (
                bindO (laws_lwBegins (1000 + 60) x110 x109) fun y113 =>
                some y113) (
                some false)) fun y112 =>
            some y112) (
          fun d =>
          let x114 := d.1;
          some x114)) _ 0 (1000 + 60) 0 rfl (by omega) (by omega) (by omega) rfl
      rw [em, ec, e1, ifB_f]
      refine Eq.trans hlast ?_
      have hcm := comM_len l p (by omega) h3
      simp only [onSum, pLen_d]
      rw [pEq_t rfl, ifB_t, lwBegins_eq _ _ _ (by omega) (by omega), com_pre]
      rfl
  · rw [pLen_d, pGt_t (by omega), ifB_t]
end Go.AE.F
