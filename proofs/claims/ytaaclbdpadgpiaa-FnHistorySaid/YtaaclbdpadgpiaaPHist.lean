/- The history of lines: what the law of the history says. -/
import Derived.Test.YtaaclbdpadgpiaaPPts
import Derived.Test.YtaaclbdpadgpiaaPCpl
namespace Go.AE.F
open Go.AE
set_option maxRecDepth 100000

abbrev HistT := List (List Int) × Int × List Int × Unit

/-! ### drawing -/
theorem line_tot (N : Nat) (s : SrcT) (hs : srcOk s) (hN : 1000 < N) : Tot (fun r : List Int × SrcT => srcOk r.2) (spec_l01Src_l06Line N s) := by
  unfold spec_l01Src_l06Line
  refine Tot.bind (P := fun r : ByteArray × SrcT => srcOk r.2 ∧ r.1.size ≤ 8) ?_ fun r hr => ?_
  · obtain ⟨x, s1, h1, hs1, hm⟩ := pick_ok N s [(ByteArray.mk #[108, 115]), (ByteArray.mk #[108, 115, 32, 45, 108]), (ByteArray.mk #[99, 100, 32, 97]), (ByteArray.mk #[99, 100]), (ByteArray.mk #[109, 97, 107, 101]), (ByteArray.mk #[109, 97, 107, 101, 32, 120]), (ByteArray.mk #[108])] hs (by decide) (by decide)
    refine ⟨(x, s1), h1, hs1, ?_⟩
    simp only [List.mem_cons, List.not_mem_nil, or_false] at hm
    rcases hm with h | h | h | h | h | h | h <;> (rw [show (x, s1).1 = x from rfl, h]; decide)
  · exact Tot.bind (points_tot N r.1 (by omega) (by omega)) fun p _ => Tot.ret hr.1

theorem hist_loop {N : Nat} {R : Type} (hN : 1000 < N) (h0 : HistT) (k : SrcT × HistT × HistT × Unit → Option R) : ∀ (m n : Nat) (s : SrcT) (h : HistT), m < n → srcOk s → h.1.length + m ≤ 1000 →
    ∃ s' h', loopP (spec_l01Src_l06Hist.l5 N) n ((m : Int), s, h0, h, ()) k = k (s', h0, h', ()) ∧ srcOk s' ∧ h'.1.length ≤ h.1.length + m := by
  intro m
  induction m with
  | zero =>
    intro n s h hn hs ho
    obtain ⟨n, rfl⟩ := succ_of hn
    refine ⟨s, h, ?_, hs, by omega⟩
    rw [loopP_s]; unfold spec_l01Src_l06Hist.l5; simp only []
    rw [pGt_f (by omega), ifB_f]
  | succ m ih =>
    intro n s h hn hs ho
    obtain ⟨n, rfl⟩ := succ_of hn
    obtain ⟨⟨p, s1⟩, h1, hs1⟩ := line_tot N s hs hN
    have e : pSub .i64 ((m + 1 : Nat) : Int) 1 = (m : Int) := by rw [pSub_i (by omega) (by omega)]; omega
    rw [loopP_s]; unfold spec_l01Src_l06Hist.l5; simp only []
    rw [pGt_t (by omega), ifB_t, h1, bindO_s]
    simp only []
    rw [pFit_t (by simp; omega), ifB_t, e]
    obtain ⟨s2, h2, g1, g2, g3⟩ := ih n s1 (pApp h.1 [p], h.2) (by omega) hs1 (by simp [pApp]; omega)
    exact ⟨s2, h2, g1, g2, by simp [pApp] at g3; omega⟩

theorem htail_tot (N : Nat) (hN : 100001 < N) (s : SrcT) (hs : srcOk s) (h : HistT) (hh : h.1.length ≤ 1000) : Tot (fun r : HistT × SrcT => srcOk r.2) (
      bindO (spec_l01Src_n N s (pAdd Go.IntKind.i64 (pLen h.1) 1)) fun y93 =>
      bindO (spec_l01Src_one N y93.2 2) fun y94 =>
      ifB y94.1 (
        bindO (spec_l01Src_n N y94.2 4) fun y95 =>
        bindO (spec_l01Src_points N y95.2 y95.1) fun y96 =>
        bindO (spec_l01Src_one N y96.2 20) fun y97 =>
        ifB y97.1 (
          bindO (spec_l01Src_n N y97.2 3) fun y98 =>
          ifB (pEq y98.1 0) (
            bindO (spec_l01Src_n N y98.2 2) fun y99 =>
            bindO (idx [(-1), (pAdd Go.IntKind.i64 (pLen h.1) 1)] y99.1) fun y100 =>
            bindO (idx [(-1), (pAdd Go.IntKind.i64 (pLen h.1) 1)] y99.1) fun y101 =>
            some ((h.1, (y101, (y96.1, h.2.2.2))), y99.2)) (
            ifB (pEq y98.1 1) (
              ifB (pFit h.1 [[]]) (
                some (((pApp h.1 [[]]), ((pLen h.1), (y96.1, h.2.2.2))), y98.2)) (
                none)) (
              some ((h.1, ((pLen h.1), ([(-1)], h.2.2.2))), y98.2)))) (
          some ((h.1, ((pLen h.1), (y96.1, h.2.2.2))), y97.2))) (
        bindO (spec_l01Src_n N y94.2 4) fun y102 =>
        bindO (spec_l01Src_points N y102.2 y102.1) fun y103 =>
        bindO (spec_l01Src_one N y103.2 20) fun y104 =>
        ifB y104.1 (
          bindO (spec_l01Src_n N y104.2 3) fun y105 =>
          ifB (pEq y105.1 0) (
            bindO (spec_l01Src_n N y105.2 2) fun y106 =>
            bindO (idx [(-1), (pAdd Go.IntKind.i64 (pLen h.1) 1)] y106.1) fun y107 =>
            bindO (idx [(-1), (pAdd Go.IntKind.i64 (pLen h.1) 1)] y106.1) fun y108 =>
            some ((h.1, (y108, (y103.1, h.2.2.2))), y106.2)) (
            ifB (pEq y105.1 1) (
              ifB (pFit h.1 [[]]) (
                some (((pApp h.1 [[]]), (y93.1, (y103.1, h.2.2.2))), y105.2)) (
                none)) (
              some ((h.1, (y93.1, ([(-1)], h.2.2.2))), y105.2)))) (
          some ((h.1, (y93.1, (y103.1, h.2.2.2))), y104.2)))) := by
  have e : pAdd .i64 (pLen h.1) 1 = (h.1.length : Int) + 1 := by rw [pLen_d, pAdd_i (by omega) (by omega)]
  rw [e]
  refine Tot.bind (nT N s _ hs (by omega)) fun r hr => ?_
  refine Tot.bind (oneT N _ 2 hr.1 (by omega)) fun o ho => ?_
  refine Tot.both ?_ ?_
  all_goals
    refine Tot.bind (nT N _ 4 ho (by omega)) fun v hv => ?_
    have hv4 := hv.2.2.2 (by omega)
    refine Tot.bind (dpoints_tot N _ _ hv.1 hv.2.1 (by omega) hN) fun q hq => ?_
    refine Tot.bind (oneT N _ 20 hq.1 (by omega)) fun o2 ho2 => ?_
    refine Tot.both ?_ (Tot.ret ho2)
    refine Tot.bind (nT N _ 3 ho2 (by omega)) fun u hu => ?_
    refine Tot.both ?_ (Tot.both ?_ (Tot.ret hu.1))
    · refine Tot.bind (nT N _ 2 hu.1 (by omega)) fun w hw => ?_
      have hw2 := hw.2.2.2 (by omega)
      exact Tot.bind (idxT _ _ hw.2.1 (by simp; omega)) fun _ _ => Tot.bind (idxT _ _ hw.2.1 (by simp; omega)) fun _ _ => Tot.ret hw.1
    · exact Tot.fit (by simp; omega) (Tot.ret hu.1)

theorem dhist_tot (N : Nat) (hN : 100001 < N) (s : SrcT) (hs : srcOk s) : Tot (fun r : HistT × SrcT => srcOk r.2) (spec_l01Src_l06Hist N s) := by
  unfold spec_l01Src_l06Hist
  refine Tot.bind (nT N s 6 hs (by omega)) fun v hv => ?_
  refine Tot.bind (oneT N _ 12 hv.1 (by omega)) fun o ho => ?_
  refine Tot.both ?_ ?_
  · refine Tot.bind (nT N _ 3 ho (by omega)) fun w hw => ?_
    have hw3 := hw.2.2.2 (by omega)
    have hw0 := hw.2.1
    obtain ⟨q, hq⟩ : ∃ q : Nat, w.1 = (q : Int) := ⟨w.1.toNat, by omega⟩
    have e : pAdd .i64 29 w.1 = ((q + 29 : Nat) : Int) := by rw [hq, pAdd_i (by omega) (by omega)]; omega
    rw [e]
    obtain ⟨s4, h4, g1, g2, g3⟩ := hist_loop (N := N) (by omega) ([], (0, ([], ()))) _ (q + 29) N w.2 ([], (0, ([], ()))) (by omega) hw.1 (by simp; omega)
    rw [g1]
    simp only [List.length_nil] at g3
    exact htail_tot N hN s4 g2 h4 (by omega)
  · have hv3 := hv.2.2.2 (by omega)
    have hv0 := hv.2.1
    obtain ⟨q, hq⟩ : ∃ q : Nat, v.1 = (q : Int) := ⟨v.1.toNat, by omega⟩
    rw [hq]
    obtain ⟨s4, h4, g1, g2, g3⟩ := hist_loop (N := N) (by omega) ([], (0, ([], ()))) _ q N o.2 ([], (0, ([], ()))) (by omega) ho (by simp; omega)
    rw [g1]
    simp only [List.length_nil] at g3
    exact htail_tot N hN s4 g2 h4 (by omega)

theorem dadd_tot (N : Nat) (hN : 100001 < N) (a : List Int) (ha : a.length ≤ 1048576) : Tot (fun _ : HistT × List Int => True) (spec_DrawHistAdd N a) := by
  unfold spec_DrawHistAdd
  obtain ⟨s, h1, hs⟩ := source_ok N a ha (by omega)
  rw [h1, bindO_s]
  refine Tot.bind (dhist_tot N hN s hs) fun r hr => ?_
  refine Tot.bind (oneT N _ 4 hr (by omega)) fun o ho => ?_
  refine Tot.both ?_ ?_
  · exact Tot.bind (some_tot N _ ho hN) fun _ _ => Tot.ret trivial
  · exact Tot.bind (line_tot N _ ho (by omega)) fun _ _ => Tot.ret trivial

/-! ### a history is right -/
def itemG (x : List Int) : Bool := decide (0 < x.length) && ptsG x
def itemsG (l : List (List Int)) : Bool := decide (l.length ≤ 30) && l.all itemG
def histG (h : HistT) : Bool := itemsG h.1 && decide (0 ≤ h.2.1) && decide (h.2.1 ≤ h.1.length) && ptsG h.2.2.1

theorem items_loop {N : Nat} {R : Type} (hN : 301 < N) (l : List (List Int)) (hl : l.length ≤ 30) (k : Unit ⊕ (Bool × Unit) → Option R) : ∀ (m i n : Nat), l.length - i = m → i ≤ l.length → m < n →
    loopP (spec_l04Items.l4 N) n (l, (i : Int), ()) k = if (l.drop i).all itemG = true then k (.inl ()) else k (.inr (false, ())) := by
  intro m
  induction m with
  | zero =>
    intro i n hm hi hn
    obtain ⟨n, rfl⟩ := succ_of hn
    rw [loopP_s]; unfold spec_l04Items.l4; simp only [pLen_d]
    rw [pLt_f (by omega), ifB_f, List.drop_eq_nil_of_le (by omega)]
    rfl
  | succ m ih =>
    intro i n hm hi hn
    obtain ⟨n, rfl⟩ := succ_of hn
    have hlt : i < l.length := by omega
    rw [loopP_s]; unfold spec_l04Items.l4; simp only [pLen_d]
    rw [pLt_t (by omega), ifB_t]
    rw [idx_lt hlt, bindO_s, bindO_s, spec_PointsRight_eq N l[i] hN, bindO_s, ifB_or, bindO_s, drop_c hlt, List.all_cons]
    have e : (pEq (l[i].length : Int) 0 || pNot (ptsG l[i])) = !itemG l[i] := by
      unfold itemG
      rw [pNot_d, pEq_d]
      by_cases h : l[i].length = 0
      · rw [decide_eq_true (show (l[i].length : Int) = 0 by omega), decide_eq_false (show ¬ 0 < l[i].length by omega)]; rfl
      · rw [decide_eq_false (show ¬ (l[i].length : Int) = 0 by omega), decide_eq_true (show 0 < l[i].length by omega)]; simp
    rw [e]
    cases hp : itemG l[i] with
    | false => simp [ifB_t]
    | true =>
      rw [Bool.not_true, ifB_f, pAdd_i (by omega) (by omega), Bool.true_and]
      exact ih (i + 1) n (by omega) (by omega) (by omega)

theorem spec_items (N : Nat) (hN : 301 < N) (l : List (List Int)) : spec_l04Items N l 30 = some (itemsG l) := by
  unfold spec_l04Items itemsG
  rw [pLen_d]
  by_cases hl : l.length ≤ 30
  · rw [pGt_f (by omega), ifB_f, decide_eq_true hl, Bool.true_and]
    have := items_loop (N := N) hN l hl (onSum (fun d => some true) (fun d => let x23 := d.1; some x23)) _ 0 N rfl (by omega) (by omega)
    rw [List.drop_zero] at this
    refine Eq.trans this ?_
    cases l.all itemG <;> rfl
  · rw [pGt_t (by omega), ifB_t, decide_eq_false hl]; rfl

theorem spec_hist (N : Nat) (hN : 301 < N) (h : HistT) : spec_HistRight N h = some (histG h) := by
  unfold spec_HistRight histG
  simp only [spec_items N hN, spec_PointsRight_eq N _ hN, bindO_s, ifB_and, pGe_d, pLe_d, pLen_d]

theorem impl_items (N : Nat) (l : List (List Int)) (hl : l.length < N) (hb : l.length ≤ 9223372036854775806) (hx : ∀ x ∈ l, x.length < N ∧ x.length ≤ 9223372036854775806) : impl_areItems N l = some (l.all itemG) := by
  unfold impl_areItems slices_ContainsFunc_S_Sint64__Sint64__impl_areItems_c1 slices_IndexFunc_S_Sint64__Sint64__impl_areItems_c1
  rw [pLen_d, contains_all (P := impl_areItems_c1 N) (p := itemG) (step := fun {R} => slices_IndexFunc_S_Sint64__Sint64__impl_areItems_c1.l2 (R := R) N) hl hb (fun i kn kx => rfl) (fun x h => by
    unfold impl_areItems_c1 impl_isItem
    rw [impl_PointsRight_eq N x (hx x h).1 (hx x h).2, bindO_s, ifB_and, bindO_s, bindO_s, pNot_d]
    have : pGt (pLen x) 0 = decide (0 < x.length) := by rw [pLen_d, pGt_d]; congr 1; simp
    rw [this]
    rfl), bindO_s]
  simp only [pNot_d, Bool.not_not]

theorem impl_hist (N : Nat) (h : HistT) (hl : h.1.length < N) (hb : h.1.length ≤ 9223372036854775806) (hx : ∀ x ∈ h.1, x.length < N ∧ x.length ≤ 9223372036854775806) (hd : h.2.2.1.length < N) (hdb : h.2.2.1.length ≤ 9223372036854775806) : impl_HistRight N h = some (histG h) := by
  unfold impl_HistRight impl_size_SSint64 histG itemsG
  rw [impl_items N h.1 hl hb hx, impl_PointsRight_eq N _ hd hdb]
  simp only [bindO_s, impl_within_eq, pLen_d]
  have : pLe (h.1.length : Int) 30 = decide (h.1.length ≤ 30) := by rw [pLe_d]; congr 1; simp; omega
  rw [this]
  cases decide (h.1.length ≤ 30) <;> cases h.1.all itemG <;> cases decide (0 ≤ h.2.1) <;> cases decide (h.2.1 ≤ (h.1.length : Int)) <;> cases ptsG h.2.2.1 <;> rfl

theorem itemsG_bd {l : List (List Int)} (h : itemsG l = true) : l.length ≤ 30 ∧ ∀ x ∈ l, x.length ≤ 300 ∧ 0 < x.length := by
  unfold itemsG at h
  simp only [Bool.and_eq_true, decide_eq_true_eq] at h
  refine ⟨h.1, fun x hx => ?_⟩
  have := List.all_eq_true.1 h.2 x hx
  unfold itemG ptsG at this
  simp only [Bool.and_eq_true, decide_eq_true_eq] at this
  exact ⟨this.2.1, this.1⟩

theorem ptsG_bd {l : List Int} (h : ptsG l = true) : l.length ≤ 300 := by
  unfold ptsG at h
  simp only [Bool.and_eq_true, decide_eq_true_eq] at h
  exact h.1

theorem own_loop {N : Nat} {R : Type} (l : List (List Int)) (hl : l.length ≤ 1048576) (hx : ∀ x ∈ l, x.length ≤ 68719476736) (k : List (List Int) × Unit → Option R) : ∀ (m i n : Nat), l.length - i = m → i ≤ l.length → m < n →
    loopP (impl_ownLists.l3 N) n (l, (l.length : Int), (i : Int), l.take i, ()) k = k (l, ()) := by
  intro m
  induction m with
  | zero =>
    intro i n hm hi hn
    obtain ⟨n, rfl⟩ := succ_of hn
    rw [loopP_s]; unfold impl_ownLists.l3; simp only []
    rw [pLt_f (by omega), ifB_f, List.take_of_length_le (by omega)]
  | succ m ih =>
    intro i n hm hi hn
    obtain ⟨n, rfl⟩ := succ_of hn
    have hlt : i < l.length := by omega
    rw [loopP_s]; unfold impl_ownLists.l3; simp only []
    rw [pLt_t (by omega), ifB_t, idx_lt hlt, bindO_s, clone_eq N _ (hx _ (List.getElem_mem hlt)), bindO_s, pFit_t (by simp; omega), ifB_t, pAdd_i (by omega) (by omega)]
    have e : pApp (l.take i) [l[i]] = l.take (i + 1) := by rw [List.take_succ_eq_append_getElem hlt]; rfl
    rw [e]
    exact ih (i + 1) n (by omega) (by omega) (by omega)

theorem own_hist (N : Nat) (hN : 301 < N) (h : HistT) (hl : h.1.length ≤ 30) (hx : ∀ x ∈ h.1, x.length ≤ 300) (hd : h.2.2.1.length ≤ 300) : impl_ownHist N h = some h := by
  unfold impl_ownHist impl_ownLists
  rw [pLen_d]
  have := own_loop (N := N) h.1 (by omega) (fun x q => by have := hx x q; omega) (fun d => let x21 := d.1; some x21) _ 0 N rfl (by omega) (by omega)
  rw [List.take_zero] at this
  rw [show ((0 : Nat) : Int) = 0 from rfl] at this
  rw [this, bindO_s, clone_eq N _ (by omega), bindO_s]

theorem many_no (N : Nat) (l : List Int) (h : l.length ≤ 300) : impl_isMany N (pLen l) = some false := by
  unfold impl_isMany
  rw [pLen_d, pGt_f (by omega)]

/-- what an adding leaves: the line is the last one -/
theorem add_ok (N : Nat) (hN : 500 < N) (h : HistT) (a : List Int) (hh : histG h = true) (ha : ptsG a = true) (h0 : 0 < a.length) :
    ∃ l0 : List (List Int), impl_HistAdd N h a = some (l0 ++ [a], ((l0.length + 1 : Nat) : Int), [], ()) ∧ itemsG (l0 ++ [a]) = true := by
  have hh' := hh
  unfold histG at hh'
  simp only [Bool.and_eq_true, decide_eq_true_eq] at hh'
  obtain ⟨⟨⟨hi, hp0⟩, hp1⟩, hd⟩ := hh'
  obtain ⟨hl, hx⟩ := itemsG_bd hi
  have hdl := ptsG_bd hd
  have hal := ptsG_bd ha
  have hia : itemG a = true := by unfold itemG; rw [ha, decide_eq_true h0]; rfl
  have hall : h.1.all itemG = true := by
    unfold itemsG at hi
    simp only [Bool.and_eq_true] at hi
    exact hi.2
  unfold impl_HistAdd impl_size_SSint64
  rw [many_no N a hal, bindO_s, ifB_f, own_hist N (by omega) h hl (fun x q => (hx x q).1) hdl, bindO_s, impl_hist N h (by omega) (by omega) (fun x q => by have := hx x q; omega) (by omega) (by omega), bindO_s, hh, impl_PointsRight_eq N a (by omega) (by omega)]
  simp only [bindO_s, pNot_d, ha, Bool.not_true, ifB_f]
  rw [pLen_d, pGt_t (by omega), ifB_t]
  have goal1 : ∃ l0 : List (List Int), (bindO (slices_Clone_Sint64_int64 N a) fun y21 =>
        ifB (pFit h.1 [y21]) (
          ifB (pLe 0 (pMax (pSub Go.IntKind.i64 (pLen (pApp h.1 [y21])) 30) 0)) (
            ifB (pLe (pMax (pSub Go.IntKind.i64 (pLen (pApp h.1 [y21])) 30) 0) (pLen (pApp h.1 [y21]))) (
              ifB (pLe (pLen (pApp h.1 [y21])) (pLen (pApp h.1 [y21]))) (
                some ((sub (pApp h.1 [y21]) (pMax (pSub Go.IntKind.i64 (pLen (pApp h.1 [y21])) 30) 0) (pLen (pApp h.1 [y21]))), (pLen (sub (pApp h.1 [y21]) (pMax (pSub Go.IntKind.i64 (pLen (pApp h.1 [y21])) 30) 0) (pLen (pApp h.1 [y21]))), ([], ())))) (
                none)) (
              none)) (
            none)) (
          none)) = some ((l0 ++ [a], ((l0.length + 1 : Nat) : Int), [], ()) : HistT) ∧ itemsG (l0 ++ [a]) = true := by
    rw [clone_eq N a (by omega), bindO_s, pFit_t (by simp; omega), ifB_t]
    have e1 : pLen (pApp h.1 [a]) = ((h.1.length + 1 : Nat) : Int) := by rw [pLen_d]; simp [pApp]
    rw [e1, pSub_i (by omega) (by omega)]
    obtain ⟨c, hc, hc1⟩ : ∃ c : Nat, pMax (((h.1.length + 1 : Nat) : Int) - 30) 0 = (c : Int) ∧ c ≤ h.1.length ∧ h.1.length + 1 - c ≤ 30 := by
      unfold pMax
      by_cases q : ((h.1.length + 1 : Nat) : Int) - 30 < 0
      · rw [if_pos q]; exact ⟨0, rfl, by omega, by omega⟩
      · rw [if_neg q]; exact ⟨h.1.length + 1 - 30, by omega, by omega, by omega⟩
    rw [hc, pLe_t (by omega), ifB_t, pLe_t (by omega), ifB_t, pLe_t (by omega), ifB_t]
    have e2 : sub (pApp h.1 [a]) (c : Int) ((h.1.length + 1 : Nat) : Int) = h.1.drop c ++ [a] := by
      unfold sub pApp
      rw [Int.toNat_natCast, Int.toNat_natCast, List.take_of_length_le (by simp), List.drop_append_of_le_length hc1.1]
    rw [e2]
    refine ⟨h.1.drop c, ?_, ?_⟩
    · rw [pLen_d]; simp
    · unfold itemsG
      rw [List.all_append]
      have : (h.1.drop c).all itemG = true := List.all_eq_true.2 fun x q => List.all_eq_true.1 hall x (List.mem_of_mem_drop q)
      rw [this]
      simp [hia]
      omega
  by_cases hn : h.1.length = 0
  · rw [pLen_d, hn, pSub_i (by omega) (by omega), pLt_t (by omega), ifB_t, bindO_s, bindO_s, ifB_t]
    exact goal1
  · rw [pLen_d, pSub_i (by omega) (by omega), pLt_f (by omega), ifB_f]
    have e3 : (h.1.length : Int) - 1 = ((h.1.length - 1 : Nat) : Int) := by omega
    have hlt : h.1.length - 1 < h.1.length := by omega
    have hxl := hx _ (List.getElem_mem hlt)
    rw [e3, idx_lt hlt, bindO_s, slices_Equal_eq N a _ (by omega) (by omega), bindO_s, bindO_s, bindO_s]
    by_cases he : a = h.1[h.1.length - 1]
    · rw [decide_eq_true he, Bool.not_true, ifB_f]
      have hs : h.1 = h.1.take (h.1.length - 1) ++ [a] := by
        rw [he, ← List.take_succ_eq_append_getElem hlt, show h.1.length - 1 + 1 = h.1.length by omega, List.take_length]
      refine ⟨h.1.take (h.1.length - 1), ?_, ?_⟩
      · rw [← hs, List.length_take, show (min (h.1.length - 1) h.1.length + 1 : Nat) = h.1.length by omega]
      · rw [← hs]; exact hi
    · rw [decide_eq_false he, Bool.not_false, ifB_t]
      exact goal1

theorem last_ok (N : Nat) (hN : 500 < N) (l0 : List (List Int)) (a : List Int) (hi : itemsG (l0 ++ [a]) = true) : impl_HistRight N (l0 ++ [a], ((l0.length + 1 : Nat) : Int), [], ()) = some true ∧ impl_HistLast N (l0 ++ [a], ((l0.length + 1 : Nat) : Int), [], ()) = some a := by
  obtain ⟨hl, hx⟩ := itemsG_bd hi
  have hll : (l0 ++ [a]).length = l0.length + 1 := by simp
  have ha := hx a (by simp)
  have h1 : impl_HistRight N (l0 ++ [a], ((l0.length + 1 : Nat) : Int), [], ()) = some true := by
    rw [impl_hist N _ (by show (l0 ++ [a]).length < N; omega) (by show (l0 ++ [a]).length ≤ _; omega) (fun x q => by have := hx x q; omega) (by simp; omega) (by simp)]
    unfold histG
    simp only [hi, hll]
    simp
    exact ⟨by omega, rfl⟩
  refine ⟨h1, ?_⟩
  unfold impl_HistLast
  rw [h1, bindO_s]
  simp only [pNot_d, Bool.not_true, pLen_d, hll]
  rw [ifB_f, bindO_s, pEq_f (by omega), ifB_f, pSub_i (by omega) (by omega), show ((l0.length + 1 : Nat) : Int) - 1 = (l0.length : Int) by omega]
  have : idx (l0 ++ [a]) (l0.length : Int) = some a := by rw [idx_n]; simp
  rw [this, bindO_s, clone_eq N a (by omega), bindO_s]

theorem up_ok (N : Nat) (hN : 500 < N) (l0 : List (List Int)) (a b : List Int) (hi : itemsG (l0 ++ [a]) = true) (hb : ptsG b = true) :
    impl_HistUp N (l0 ++ [a], ((l0.length + 1 : Nat) : Int), [], ()) b [] = some ((l0 ++ [a], (l0.length : Int), b, ()), a, 0, ()) := by
  obtain ⟨hl, hx⟩ := itemsG_bd hi
  have hll : (l0 ++ [a]).length = l0.length + 1 := by simp
  have ha := hx a (by simp)
  have hbl := ptsG_bd hb
  unfold impl_HistUp impl_size_SSint64
  rw [many_no N b hbl, many_no N [] (by simp), (last_ok N hN l0 a hi).1, impl_PointsRight_eq N b (by omega) (by omega), impl_PointsRight_eq N [] (by simp; omega) (by simp), hb, show ptsG [] = true from rfl]
  simp only [bindO_s, pNot_d, Bool.not_true, ifB_f]
  obtain ⟨n, rfl⟩ : ∃ n, N = n + 1 := ⟨N - 1, by omega⟩
  rw [loopP_s]
  unfold impl_HistUp.l6
  simp only []
  have hix : idx (l0 ++ [a]) (l0.length : Int) = some a := by rw [idx_n]; simp
  rw [pSub_i (by omega) (by omega), show ((l0.length + 1 : Nat) : Int) - 1 = (l0.length : Int) by omega, pGe_t (by omega), ifB_t, hix, bindO_s, impl_begins_eq (n + 1) a [] (by omega) (by omega), bindO_s, show begG a [] = true from by unfold begG; simp, pNot_d, Bool.not_true, bindO_s, ifB_f, pLt_f (by omega), ifB_f,
    own_hist (n + 1) (by omega) _ (by show (l0 ++ [a]).length ≤ 30; exact hl) (fun x q => (hx x q).1) (by simp), bindO_s, bindO_s, pLen_d, hll, pEq_t rfl, ifB_t, clone_eq (n + 1) b (by omega), bindO_s, bindO_s, clone_eq (n + 1) a (by omega), bindO_s]

theorem down_ok (N : Nat) (hN : 500 < N) (l0 : List (List Int)) (a b : List Int) (hi : itemsG (l0 ++ [a]) = true) (hb : ptsG b = true) :
    impl_HistDown N (l0 ++ [a], (l0.length : Int), b, ()) [] = some ((l0 ++ [a], ((l0.length + 1 : Nat) : Int), b, ()), b, 0, ()) := by
  obtain ⟨hl, hx⟩ := itemsG_bd hi
  have hll : (l0 ++ [a]).length = l0.length + 1 := by simp
  have hbl := ptsG_bd hb
  have hr : impl_HistRight N (l0 ++ [a], (l0.length : Int), b, ()) = some true := by
    rw [impl_hist N _ (by show (l0 ++ [a]).length < N; omega) (by show (l0 ++ [a]).length ≤ _; omega) (fun x q => by have := hx x q; omega) (by show b.length < N; omega) (by show b.length ≤ _; omega)]
    unfold histG
    simp only [hi, hll, hb]
    simp
    omega
  unfold impl_HistDown impl_size_SSint64
  rw [many_no N [] (by simp), hr, impl_PointsRight_eq N [] (by simp; omega) (by simp), show ptsG [] = true from rfl]
  simp only [bindO_s, pNot_d, Bool.not_true, ifB_f, pLen_d, hll]
  rw [pEq_f (by omega), ifB_f, own_hist N (by omega) _ (by show (l0 ++ [a]).length ≤ 30; exact hl) (fun x q => (hx x q).1) hbl, bindO_s]
  obtain ⟨n, rfl⟩ : ∃ n, N = n + 1 := ⟨N - 1, by omega⟩
  rw [loopP_s]
  unfold impl_HistDown.l9 impl_size_SSint64
  simp only [bindO_s, pLen_d, hll]
  rw [pAdd_i (by omega) (by omega), show (l0.length : Int) + 1 = ((l0.length + 1 : Nat) : Int) by omega, pLt_f (by omega), ifB_f, clone_eq (n + 1) b (by omega), bindO_s]

theorem at_ok (N : Nat) (l : List Int) (hl : l.length ≤ 1048576) (hb : ∀ x ∈ l, IntKind.u8.min ≤ x ∧ x ≤ IntKind.u8.max) : Tot (fun v => 0 ≤ v ∧ v ≤ (l.length : Int)) (laws_lwAt N l 0 (pAdd .i64 (pLen l) 1)) := by
  unfold laws_lwAt
  rw [pLen_d, pAdd_i (by omega) (by omega), ifB_or, bindO_s]
  refine Tot.ite (fun _ => Tot.ret ⟨by omega, by omega⟩) (fun h => ?_)
  rw [Bool.or_eq_false_iff] at h
  have h0 : l.length ≠ 0 := fun q => by have := h.2; rw [pEq_t (by omega)] at this; cases this
  have hlt : 0 < l.length := by omega
  have hy := hb _ (List.getElem_mem hlt)
  have hu : (0 : Int) ≤ l[0] ∧ l[0] ≤ 255 := hy
  have e : pRem 0 (l.length : Int) = ((0 : Nat) : Int) := by unfold pRem; simp
  rw [h.2, ifB_f, e, idx_lt hlt, bindO_s, pEq_f (by omega), ifB_f]
  have e2 : pConv .i64 l[0] = l[0] := wrap_i64 (by omega) (by omega)
  rw [e2]
  refine Tot.ret ?_
  have e3 : pRem l[0] ((l.length : Int) + 1) = l[0] % ((l.length : Int) + 1) := Int.tmod_eq_emod_of_nonneg hu.1
  rw [e3]
  exact ⟨Int.emod_nonneg _ (by omega), by have := Int.emod_lt_of_pos l[0] (show (0 : Int) < (l.length : Int) + 1 by omega); omega⟩

theorem pure_FnHistory (a : List Int) (_h : a.length ≤ 9223372036854775807 ∧ ∀ x ∈ a, IntKind.u8.min ≤ x ∧ x ≤ IntKind.u8.max) (c : List Int) (hc : c.length ≤ 9223372036854775807 ∧ ∀ x ∈ c, IntKind.u8.min ≤ x ∧ x ≤ IntKind.u8.max) : ∃ N, laws_FnHistory N a c = some true := by
  refine ⟨200000, ?_⟩
  unfold laws_FnHistory
  rw [ifB_or, bindO_s]
  by_cases hl : a.length ≤ 1048576 ∧ c.length ≤ 1048576
  · have e0 : (pGt (pLen a) 1048576 || pGt (pLen c) 1048576) = false := by rw [pLen_d, pLen_d, pGt_f (by omega), pGt_f (by omega)]; rfl
    rw [e0, ifB_f]
    obtain ⟨⟨h, b⟩, hd, _⟩ := dadd_tot 200000 (by omega) a hl.1
    rw [hd, bindO_s]
    simp only [spec_hist 200000 (by omega), spec_PointsRight_eq 200000 _ (show 301 < 200000 by omega), bindO_s, ifB_or, pLen_d, pNot_d]
    have e1 : ((!histG h || !ptsG b) || pEq (b.length : Int) 0) = !(histG h && ptsG b && decide (0 < b.length)) := by
      rw [pEq_d]
      by_cases q : b.length = 0
      · rw [decide_eq_true (show (b.length : Int) = 0 by omega), decide_eq_false (show ¬ 0 < b.length by omega)]; simp
      · rw [decide_eq_false (show ¬ (b.length : Int) = 0 by omega), decide_eq_true (show 0 < b.length by omega)]; simp
    rw [e1]
    cases hall : (histG h && ptsG b && decide (0 < b.length)) with
    | false => rw [Bool.not_false, ifB_t]
    | true =>
      rw [Bool.not_true, ifB_f]
      simp only [Bool.and_eq_true, decide_eq_true_eq] at hall
      obtain ⟨⟨hh, hbp⟩, hb0⟩ := hall
      have hbl := ptsG_bd hbp
      obtain ⟨l0, ha1, ha2⟩ := add_ok 200000 (by omega) h b hh hbp hb0
      obtain ⟨hr, hla⟩ := last_ok 200000 (by omega) l0 b ha2
      have hll : (l0 ++ [b]).length = l0.length + 1 := by simp
      have hsame : ∀ x : List Int, x.length ≤ 300 → laws_lwSame 200000 x x = some true := fun x hx => by rw [lwSame_eq _ _ _ (by omega) (by omega), decide_eq_true rfl]
      obtain ⟨v, hv, hv0, hv1⟩ := at_ok 200000 c hl.2 hc.2
      rw [pLen_d] at hv
      obtain ⟨w, hw, hwp⟩ := pointsOf_tot 200000 (bytesOf (sub c 0 v)) (by omega)
      have hwl := ptsG_bd hwp
      have eN : pNe (((l0.length + 1 : Nat)) : Int) (((l0.length + 1 : Nat)) : Int) = false := pNe_f rfl
      rw [lwCopy_eq _ b (by omega), bindO_s, ha1, bindO_s]
      simp only [hr, hla, hsame b hbl, bindO_s, Bool.not_true, ifB_f, hll, eN, hv]
      rw [pLe_t (by omega), ifB_t, pLe_t hv0, ifB_t, pLe_t hv1, ifB_t, hw, bindO_s, lwCopy_eq _ w (by omega), bindO_s, up_ok 200000 (by omega) l0 b w ha2 hwp, bindO_s]
      simp only [show pNe 0 0 = false from rfl, ifB_f, hsame b hbl, bindO_s, Bool.not_true]
      rw [down_ok 200000 (by omega) l0 b w ha2 hwp, bindO_s]
      simp only [show pEq 0 0 = true from rfl, ifB_t, hsame w hwl, bindO_s]
      rw [pEq_t rfl]
      rfl
  · have e0 : (pGt (pLen a) 1048576 || pGt (pLen c) 1048576) = true := by
      rw [pLen_d, pLen_d, pGt_d, pGt_d]
      simp
      omega
    rw [e0, ifB_t]

end Go.AE.F
