/- The longest common points of the candidates that match. -/
import Derived.Test.YtnojkkgeefhpaaaPDn
import Derived.Test.YtnojkkgeefhpaaaPCm
import Derived.Test.YtnojkkgeefhpaaaF3
namespace Go.AE.F
open Go.AE

theorem same_self {R : Type} (a : Option R) : same a a = a := if_pos rfl

theorem clone_eq (N : Nat) (a : List Int) (h : a.length ≤ 68719476736) : slices_Clone_Sint64_int64 N a = some a := by
  unfold slices_Clone_Sint64_int64 slices_Clone_Sint64_int64.g
  rw [pFit_t (by simp; exact h), pLen_d]
  simp only [ifB_t]
  cases a with
  | nil =>
    rw [pEq_t (by simp), ifB_t]
    exact same_self _
  | cons x l =>
    rw [pEq_f (by simp; omega), ifB_f]
    rfl

theorem copy_eq (N : Nat) (a : List Int) (h : a.length ≤ 68719476736) : spec_l01Copy N a = some a := by
  unfold spec_l01Copy
  rw [pFit_t (by simp; exact h), ifB_t]
  rfl

theorem idx_mat (p : List Int) : ∀ (l : List (List Int)) (i : Nat), (idxG p i l).length = (matG p l).length ∧
    ∀ (j : Nat) (h : j < (idxG p i l).length), ∃ t : Nat, (idxG p i l)[j] = ((i + t : Nat) : Int) ∧ t < l.length ∧ l[t]? = (matG p l)[j]?
  | [], i => ⟨rfl, fun j h => by simp [idxG] at h⟩
  | x :: l, i => by
    have ih := idx_mat p l (i + 1)
    cases hb : begG x p with
    | false =>
      have e1 : idxG p i (x :: l) = idxG p ((i + 1 : Nat) : Int) l := by simp only [idxG, hb, Bool.false_eq_true, if_false]; rfl
      have e2 : matG p (x :: l) = matG p l := by simp only [matG, List.filter_cons, hb, Bool.false_eq_true, if_false]
      rw [e1, e2]
      refine ⟨ih.1, fun j h => ?_⟩
      obtain ⟨t, h1, h2, h3⟩ := ih.2 j h
      exact ⟨t + 1, by rw [h1]; omega, by simp; omega, by simpa using h3⟩
    | true =>
      have e1 : idxG p i (x :: l) = (i : Int) :: idxG p ((i + 1 : Nat) : Int) l := by simp only [idxG, hb, if_true]; rfl
      have e2 : matG p (x :: l) = x :: matG p l := by simp only [matG, List.filter_cons, hb, if_true]
      rw [e2]
      refine ⟨by rw [e1, List.length_cons, List.length_cons, ih.1], fun j h => ?_⟩
      have ej : (idxG p i (x :: l))[j] = ((i : Int) :: idxG p ((i + 1 : Nat) : Int) l)[j]'(by rw [← e1]; exact h) := by simp only [e1]
      rw [ej]
      cases j with
      | zero => exact ⟨0, by simp, by simp, rfl⟩
      | succ j =>
        have hj : j < (idxG p ((i + 1 : Nat) : Int) l).length := by
          rw [e1, List.length_cons] at h; omega
        obtain ⟨t, h1, h2, h3⟩ := ih.2 j hj
        refine ⟨t + 1, ?_, by simp; omega, by simpa using h3⟩
        rw [List.getElem_cons_succ, h1]; omega

/-! ### the model -/
theorem specCut_loop {N : Nat} {R : Type} (l : List (List Int)) (ms : List Int) (i : Nat) (hi : i < ms.length) (t : Nat) (ht : t < l.length) (hm : ms[i] = (t : Int)) (x : List Int) (hc : l[t].length ≤ 9223372036854775806 ∧ l[t].length < N)
    (hx : x.length ≤ 9223372036854775806) (k : List (List Int) × Int × List Int × List Int × Unit → Option R) :
    ∀ (n fuel : Nat), n ≤ x.length → n < fuel →
    loopP (spec_CompCommon.l10 N) fuel (l, (i : Int), ms, x.take n, ()) k = k (l, (i : Int), ms, x.take (dn (begN x l[t]) n), ()) := by
  intro n
  induction n with
  | zero =>
    intro fuel hn hf
    obtain ⟨f, rfl⟩ := succ_of hf
    simp only [loopP_s, spec_CompCommon.l10]
    rw [idx_lt hi, bindO_s, bindO_s, hm, idx_lt ht, bindO_s, spec_l06Begins_eq N _ _ hc.1 hc.2, bindO_s]
    have : begG l[t] (x.take 0) = true := begN_0 x _
    rw [this, pNot_d, Bool.not_true, ifB_f]
    rfl
  | succ n ih =>
    intro fuel hn hf
    obtain ⟨f, rfl⟩ := succ_of hf
    simp only [loopP_s, spec_CompCommon.l10]
    rw [idx_lt hi, bindO_s, bindO_s, hm, idx_lt ht, bindO_s, spec_l06Begins_eq N _ _ hc.1 hc.2, bindO_s]
    cases hb : begN x l[t] (n + 1) with
    | true =>
      have : begG l[t] (x.take (n + 1)) = true := hb
      rw [this, pNot_d, Bool.not_true, ifB_f, dn_self _ _ hb]
    | false =>
      have : begG l[t] (x.take (n + 1)) = false := hb
      have e : (x.take (n + 1)).length = n + 1 := by rw [List.length_take]; omega
      rw [this, pNot_d, Bool.not_false, ifB_t, pLe_t (by omega), ifB_t, pLen_d, e, pSub_i (by omega) (by omega), pLe_t (by omega), ifB_t, pLe_t (by omega), ifB_t]
      have e2 : ((n + 1 : Nat) : Int) - 1 = (n : Int) := by omega
      rw [e2, sub_take, List.take_take, show min n (n + 1) = n from by omega]
      rw [ih f (by omega) (by omega)]
      rw [show dn (begN x l[t]) (n + 1) = dn (begN x l[t]) n from by rw [dn]; simp only [hb, Bool.false_eq_true, if_false]]

theorem specCom_loop {N : Nat} {R : Type} (p : List Int) (l : List (List Int)) (hl : l.length ≤ 400) (hx : ∀ x ∈ l, x.length ≤ 9223372036854775806 ∧ x.length < N) (x : List Int) (hx1 : x.length ≤ 9223372036854775806) (hx2 : x.length < N) (k : List Int × Unit → Option R) :
    ∀ (r i n fuel : Nat), (idxG p 0 l).length - i = r → i ≤ (idxG p 0 l).length → r < fuel → n ≤ x.length →
    loopP (spec_CompCommon.l8 N) fuel (l, (i : Int), idxG p 0 l, x.take n, ()) k = k (x.take (comN x ((matG p l).drop i) n), ()) := by
  have hm := idx_mat p l 0
  have hlen := idxG_len p l 0
  intro r
  induction r with
  | zero =>
    intro i n fuel hr hi hf hn
    obtain ⟨f, rfl⟩ := succ_of hf
    simp only [loopP_s, spec_CompCommon.l8, pLen_d]
    rw [pLt_f (by omega), ifB_f, List.drop_eq_nil_of_le (by have := hm.1; simp at this; omega), comN_nil]
  | succ r ih =>
    intro i n fuel hr hi hf hn
    obtain ⟨f, rfl⟩ := succ_of hf
    have hlt : i < (idxG p 0 l).length := by omega
    have hlt2 : i < (matG p l).length := by have := hm.1; simp at this; omega
    obtain ⟨t, h1, h2, h3⟩ := hm.2 i hlt
    have h1' : (idxG p 0 l)[i] = (t : Int) := by
      have h4 := h1
      simp only [Nat.zero_add] at h4
      exact h4
    have h5 : l[t] = (matG p l)[i] := by
      rw [List.getElem?_eq_getElem h2, List.getElem?_eq_getElem hlt2] at h3
      exact Option.some.inj h3
    have hc := hx _ (List.getElem_mem h2)
    simp only [loopP_s, spec_CompCommon.l8, pLen_d]
    rw [pLt_t (by omega), ifB_t, specCut_loop l (idxG p 0 l) i hlt t h2 h1' x hc hx1 _ n N hn (by omega)]
    simp only []
    rw [pAdd_i (by omega) (by omega), h5, drop_c hlt2, comN_cons]
    exact ih (i + 1) _ f (by omega) (by omega) (by omega) (Nat.le_trans (dn_le _ _) hn)

/-- the longest points with which all candidates that match begin -/
def comG (l : List (List Int)) (p : List Int) : List Int :=
  if (decide (l.length ≤ 400) && ptsG p) = false then [] else
  if candsG l = false then p else
  match matG p l with
  | [] => p
  | x :: f => x.take (comN x (x :: f) x.length)

theorem spec_CompCommon_eq (N : Nat) (l : List (List Int)) (p : List Int) (hN : 401 < N) (hp : p.length ≤ 68719476736) (hx : ∀ x ∈ l, x.length ≤ 1048576 ∧ x.length < N) : spec_CompCommon N l p = some (comG l p) := by
  have hx' : ∀ x ∈ l, x.length ≤ 9223372036854775806 ∧ x.length < N := fun x h => by have := hx x h; omega
  unfold spec_CompCommon comG
  simp only [pLen_d]
  rw [show (400 : Int) = ((400 : Nat) : Int) from rfl, gt_not, gt_not, ifB_or, bindO_s, spec_PointsRight_eq N p (by omega), bindO_s, ifB_or, bindO_s, pNot_d]
  have e : ((!decide (l.length ≤ 400) || !decide (p.length ≤ 400)) || !ptsG p) = !(decide (l.length ≤ 400) && ptsG p) := by
    unfold ptsG
    by_cases h : p.length ≤ 300
    · rw [decide_eq_true (show p.length ≤ 400 by omega)]
      cases decide (l.length ≤ 400) <;> cases (decide (p.length ≤ 300) && p.all ptG) <;> rfl
    · rw [decide_eq_false h]
      cases decide (l.length ≤ 400) <;> cases decide (p.length ≤ 400) <;> rfl
  rw [e]
  cases ha : (decide (l.length ≤ 400) && ptsG p) with
  | false => rw [Bool.not_false, ifB_t, if_pos rfl]
  | true =>
    rw [Bool.not_true, ifB_f, spec_CompMatch_eq N l p hN hx', bindO_s, if_neg (by simp)]
    have ha' := ha
    unfold ptsG at ha'
    simp only [Bool.and_eq_true, decide_eq_true_eq] at ha'
    have hl : l.length ≤ 400 := ha'.1
    have hpl : p.length ≤ 400 := by have := ha'.2.1; omega
    have hpt : ptsG p = true := by
      have hh := ha
      simp only [Bool.and_eq_true] at hh
      exact hh.2
    have hask : askG l p = candsG l := by
      unfold askG
      rw [decide_eq_true hl, decide_eq_true hpl, hpt]
      cases candsG l <;> rfl
    cases hcl : candsG l with
    | false =>
      have : matchG l p = [] := by unfold matchG; rw [hask, hcl]; rfl
      rw [this, pEq_t (by simp), ifB_t, copy_eq N p hp, bindO_s, if_pos rfl]
    | true =>
      have : matchG l p = idxG p 0 l := by unfold matchG; rw [hask, hcl]; rfl
      rw [this, if_neg (by simp)]
      have hm := idx_mat p l 0
      have hm1 : (idxG p 0 l).length = (matG p l).length := hm.1
      cases hf : matG p l with
      | nil =>
        rw [hf] at hm1
        rw [pEq_t (by rw [hm1]; rfl), ifB_t, copy_eq N p hp, bindO_s]
      | cons x f =>
        rw [hf, List.length_cons] at hm1
        have h0 : 0 < (idxG p 0 l).length := by omega
        obtain ⟨t, h1, h2, h3⟩ := hm.2 0 h0
        have h1' : (idxG p 0 l)[0] = (t : Int) := by
          have h4 := h1
          simp only [Nat.zero_add] at h4
          exact h4
        have h5 : l[t] = x := by
          rw [List.getElem?_eq_getElem h2, hf] at h3
          exact Option.some.inj h3
        have i0 : idx (idxG p 0 l) 0 = some (t : Int) := by
          have := idx_lt h0
          rw [h1'] at this
          exact this
        have hc := hx _ (List.getElem_mem h2)
        rw [h5] at hc
        rw [pEq_f (by omega), ifB_f, i0, bindO_s, bindO_s, idx_lt h2, bindO_s, h5, copy_eq N x (by omega), bindO_s]
        have := specCom_loop (N := N) p l hl hx' x (by omega) hc.2 (fun d => let x379 := d.1; some x379) _ 1 x.length N rfl (by omega) (by have := idxG_len p l 0; omega) (Nat.le_refl _)
        rw [List.take_length, hf] at this
        refine Eq.trans this ?_
        simp only [List.drop_succ_cons, List.drop_zero]
        rw [comN_cons]
        have hs : begN x x x.length = true := by
          unfold begN begG
          simp
        rw [dn_self _ _ hs]

/-! ### the program -/
theorem c1_eq (N : Nat) (c x : List Int) (f : List (List Int)) (n : Nat) (hn : n ≤ x.length) (hc : c.length ≤ 9223372036854775806 ∧ c.length < N) : impl_common_c1 N c (x :: f) (n : Int) = some (!begN x c n) := by
  unfold impl_common_c1
  have : idx (x :: f) 0 = some x := rfl
  rw [this, bindO_s, pLe_t (by omega), ifB_t, pLe_t (by omega), ifB_t, pLen_d, pLe_t (by omega), ifB_t, sub_take, impl_begins_eq N _ _ hc.1 hc.2, bindO_s]
  rfl

theorem comIdx_loop {N : Nat} (x : List Int) (f : List (List Int)) (n : Nat) (hn : n ≤ x.length) (cs : List (List Int)) (hcs : cs.length ≤ 400) (hx : ∀ c ∈ cs, c.length ≤ 9223372036854775806 ∧ c.length < N) :
    ∀ (m j fuel : Nat), cs.length - j = m → j ≤ cs.length → m < fuel →
    ∃ v : Int, loopP (slices_IndexFunc_S_Sint64__Sint64__impl_common_c1.l2 N) fuel (cs, x :: f, (n : Int), (cs.length : Int), (j : Int), ()) (onSum (fun _ => some (-1)) (fun d => let x55 := d.1; some x55)) = some v ∧ pGe v 0 = !((cs.drop j).all fun c => begN x c n) := by
  intro m
  induction m with
  | zero =>
    intro j fuel hm hj hf
    obtain ⟨g, rfl⟩ := succ_of hf
    refine ⟨-1, ?_, ?_⟩
    · simp only [loopP_s, slices_IndexFunc_S_Sint64__Sint64__impl_common_c1.l2]
      rw [pLt_f (by omega), ifB_f]
      rfl
    · rw [List.drop_eq_nil_of_le (by omega)]
      rfl
  | succ m ih =>
    intro j fuel hm hj hf
    obtain ⟨g, rfl⟩ := succ_of hf
    have hlt : j < cs.length := by omega
    have hc := hx _ (List.getElem_mem hlt)
    simp only [loopP_s, slices_IndexFunc_S_Sint64__Sint64__impl_common_c1.l2]
    rw [pLt_t (by omega), ifB_t, idx_lt hlt, bindO_s, c1_eq N _ x f n hn hc, bindO_s, drop_c hlt, List.all_cons]
    cases hb : begN x cs[j] n with
    | false =>
      refine ⟨(j : Int), ?_, ?_⟩
      · rw [Bool.not_false, ifB_t]; rfl
      · rw [pGe_t (by omega)]; rfl
    | true =>
      rw [Bool.not_true, ifB_f, pAdd_i (by omega) (by omega), Bool.true_and]
      exact ih (j + 1) g (by omega) (by omega) (by omega)

theorem comAny_eq (N : Nat) (x : List Int) (f : List (List Int)) (n : Nat) (hn : n ≤ x.length) (hN : 401 < N) (hcs : (x :: f).length ≤ 400) (hx : ∀ c ∈ x :: f, c.length ≤ 9223372036854775806 ∧ c.length < N) :
    slices_ContainsFunc_S_Sint64__Sint64__impl_common_c1 N (x :: f) (x :: f) (n : Int) = some (!((x :: f).all fun c => begN x c n)) := by
  unfold slices_ContainsFunc_S_Sint64__Sint64__impl_common_c1 slices_IndexFunc_S_Sint64__Sint64__impl_common_c1
  obtain ⟨v, h1, h2⟩ := comIdx_loop (N := N) x f n hn (x :: f) hcs hx _ 0 N rfl (by omega) (by omega)
  rw [pLen_d]
  refine Eq.trans (congrArg (fun m => bindO m fun y1 => some (pGe y1 0)) h1) ?_
  rw [bindO_s, h2, List.drop_zero]

theorem implCut_loop {N : Nat} {R : Type} (x : List Int) (f : List (List Int)) (hx1 : x.length ≤ 9223372036854775806) (hN : 401 < N) (hcs : (x :: f).length ≤ 400) (hx : ∀ c ∈ x :: f, c.length ≤ 9223372036854775806 ∧ c.length < N) (k : List (List Int) × Int × Unit → Option R) :
    ∀ (n fuel : Nat), n ≤ x.length → n < fuel →
    loopP (impl_common.l5 N) fuel (x :: f, (n : Int), ()) k = k (x :: f, (comN x (x :: f) n : Nat), ()) := by
  intro n
  induction n with
  | zero =>
    intro fuel hn hf
    obtain ⟨g, rfl⟩ := succ_of hf
    simp only [loopP_s, impl_common.l5]
    rw [comAny_eq N x f 0 hn hN hcs hx, bindO_s]
    have : ((x :: f).all fun c => begN x c 0) = true := by
      rw [List.all_eq_true]; intro c _; exact begN_0 x c
    rw [this, Bool.not_true, ifB_f]
    rfl
  | succ n ih =>
    intro fuel hn hf
    obtain ⟨g, rfl⟩ := succ_of hf
    simp only [loopP_s, impl_common.l5]
    rw [comAny_eq N x f (n + 1) hn hN hcs hx, bindO_s]
    cases hb : ((x :: f).all fun c => begN x c (n + 1)) with
    | true =>
      rw [Bool.not_true, ifB_f, show comN x (x :: f) (n + 1) = n + 1 from dn_self _ _ hb]
    | false =>
      rw [Bool.not_false, ifB_t, pSub_i (by omega) (by omega), show ((n + 1 : Nat) : Int) - 1 = (n : Int) from by omega, ih g (by omega) (by omega)]
      rw [show comN x (x :: f) (n + 1) = comN x (x :: f) n from by unfold comN; rw [dn]; simp only [hb, Bool.false_eq_true, if_false]]

theorem impl_common_eq (N : Nat) (l : List (List Int)) (p : List Int) (hl : l.length ≤ 400) (hN : 401 < N) (hx : ∀ x ∈ l, x.length ≤ 9223372036854775806 ∧ x.length < N) :
    impl_common N l p = some (match matG p l with | [] => p | x :: f => x.take (comN x (x :: f) x.length)) := by
  have hmm : impl_matches N l p = some (matG p l, idxG p 0 l) := by
    unfold impl_matches
    have := implMatch_loop (N := N) l p hl hx (fun d => let x110 := d.1; let x111 := d.2.1; some (x110, x111)) _ 0 N [] [] rfl (by omega) (by omega) (by simp) (by simp)
    rw [List.drop_zero, List.nil_append, List.nil_append] at this
    rw [pLen_d]
    exact this
  unfold impl_common
  rw [hmm, bindO_s]
  have hsub : (matG p l).length ≤ l.length := List.length_filter_le _ _
  have hmem : ∀ c ∈ matG p l, c.length ≤ 9223372036854775806 ∧ c.length < N := fun c hc => hx c (List.mem_filter.1 hc).1
  simp only [pLen_d]
  cases hf : matG p l with
  | nil => rfl
  | cons x f =>
    rw [hf] at hsub hmem
    have i0 : idx (x :: f) 0 = some x := rfl
    have hxx := hmem x (by simp)
    rw [pEq_f (by simp; omega), ifB_f, i0, bindO_s, bindO_s, implCut_loop x f hxx.1 hN (by omega) hmem _ x.length N (Nat.le_refl _) hxx.2]
    simp only []
    have hle : comN x (x :: f) x.length ≤ x.length := dn_le _ _
    rw [i0, bindO_s, bindO_s, pLe_t (by omega), ifB_t, pLe_t (by omega), ifB_t, pLe_t (by omega), ifB_t, sub_take]

theorem impl_CompCommon_eq (N : Nat) (l : List (List Int)) (p : List Int) (hN : 401 < N) (hl : l.length < N) (hb : l.length ≤ 9223372036854775806) (hp : p.length < N) (hpb : p.length ≤ 1048576) (hx : ∀ x ∈ l, x.length ≤ 1048576 ∧ x.length < N) : impl_CompCommon N l p = some (comG l p) := by
  have hx' : ∀ x ∈ l, x.length < N ∧ x.length ≤ 9223372036854775806 := fun x h => by have := hx x h; omega
  unfold impl_CompCommon comG impl_isMany
  simp only [pLen_d]
  rw [show (400 : Int) = ((400 : Nat) : Int) from rfl, gt_not, bindO_s, impl_PointsRight_eq N p hp (by omega), bindO_s, ifB_or, bindO_s, pNot_d]
  cases h1 : decide (l.length ≤ 400) with
  | false => rfl
  | true =>
    cases h2 : ptsG p with
    | false => rfl
    | true =>
      have hl4 : l.length ≤ 400 := of_decide_eq_true h1
      rw [show (!true || !true) = false from rfl, ifB_f, impl_CandsRight_eq N l hl hb hx', bindO_s, if_neg (by simp), pNot_d]
      cases h3 : candsG l with
      | false => rw [Bool.not_false, ifB_t, clone_eq N p (by omega), bindO_s, if_pos rfl]
      | true =>
        rw [Bool.not_true, ifB_f, impl_common_eq N l p hl4 hN (fun x h => ⟨(hx' x h).2, (hx' x h).1⟩), bindO_s, if_neg (by simp)]
        have hlen : (match matG p l with | [] => p | x :: f => x.take (comN x (x :: f) x.length)).length ≤ 68719476736 := by
          cases hf : matG p l with
          | nil => show p.length ≤ _; omega
          | cons x f =>
            have hm : x ∈ matG p l := by rw [hf]; simp
            have := hx x (List.mem_filter.1 hm).1
            show (x.take _).length ≤ _
            rw [List.length_take]
            omega
        rw [clone_eq N _ hlen, bindO_s]

theorem comG_len (l : List (List Int)) (p : List Int) (hp : p.length ≤ 1048576) (hx : ∀ x ∈ l, x.length ≤ 1048576) : (comG l p).length ≤ 1048576 := by
  unfold comG
  split
  · exact Nat.zero_le _
  · split
    · exact hp
    · cases hf : matG p l with
      | nil => exact hp
      | cons x f =>
        have hm : x ∈ matG p l := by rw [hf]; simp
        have := hx x (List.mem_filter.1 hm).1
        show (x.take _).length ≤ _
        rw [List.length_take]
        omega

theorem pure_FnExactCompCommon (l : List (List Int)) (h : l.length ≤ 9223372036854775807 ∧ ∀ x ∈ l, x.length ≤ 9223372036854775807 ∧ ∀ a ∈ x, IntKind.i64.min ≤ a ∧ a ≤ IntKind.i64.max) (p : List Int) (_h2 : p.length ≤ 9223372036854775807 ∧ ∀ a ∈ p, IntKind.i64.min ≤ a ∧ a ≤ IntKind.i64.max) : ∃ N, laws_FnExactCompCommon N l p = some true := by
  refine ⟨1048600, ?_⟩
  unfold laws_FnExactCompCommon
  rw [pLen_d]
  by_cases hp : p.length ≤ 1048576
  · rw [show pGt (p.length : Int) 1048576 = false from by rw [pGt_d]; exact decide_eq_false (by omega), ifB_f, szInt64SS_eq _ l 1048576 (by omega) (by omega) h.1 (fun x hx => (h.2 x hx).1) (by omega), bindO_s]
    by_cases hs : (1048576 : Int) - l.length - sumLen l < 0
    · rw [if_pos hs, pLt_t (by omega), ifB_t]
    · rw [if_neg hs, pLt_f (by omega), ifB_f]
      have hl : l.length ≤ 1048576 := by omega
      have hx : ∀ x ∈ l, x.length ≤ 1048576 := fun x hx => by have := mem_sum hx; omega
      have hx2 : ∀ x ∈ l, x.length ≤ 9223372036854775806 ∧ x.length < 1048600 := fun x h => by have := hx x h; omega
      have hx3 : ∀ x ∈ l, x.length ≤ 1048576 ∧ x.length < 1048600 := fun x h => by have := hx x h; omega
      have c1 : laws_toInt64SS 1048600 l = some l := toInt64SS_eq _ l (by omega) (fun x h => by have := hx x h; omega) (by omega) (fun x h => by have := hx x h; omega)
      have c2 : laws_toInt64S 1048600 p = some p := toInt64S_eq _ p (by omega) (by omega)
      have c3 : impl_CompCommon 1048600 l p = some (comG l p) := impl_CompCommon_eq _ l p (by omega) (by omega) (by omega) (by omega) hp hx3
      have hg := comG_len l p hp hx
      have c4 : laws_eqInt64S 1048600 (comG l p) (comG l p) = some (decide (comG l p = comG l p)) := eqInt64S_eq _ _ _ (by omega) (by omega)
      have c5 : laws_eqInt64S 1048600 p p = some (decide (p = p)) := eqInt64S_eq _ _ _ (by omega) (by omega)
      have c6 : laws_eqInt64SS 1048600 l l = some (decide (l = l)) := eqInt64SS_eq _ l l (by omega) (fun x h => (hx2 x h).1) (by omega) (fun x h => (hx2 x h).2)
      obtain ⟨l', c7⟩ := markInt64SS_eq 1048600 l 1 (by omega) (by omega) (by omega) (fun x h => (hx2 x h).2) (by omega) (by omega)
      have c8 : laws_markInt64S 1048600 p ((1 : Int) + sumLen l) = some ((1 : Int) + sumLen l + p.length, cnt (1 + sumLen l) p.length) := markInt64S_eq _ p _ (by omega) (by omega) (by omega)
      have c9 : laws_markInt64S 1048600 (comG l p) 1 = some ((1 : Int) + (comG l p).length, cnt 1 (comG l p).length) := markInt64S_eq _ _ _ (by omega) (by omega) (by omega)
      have c10 : laws_heldInt64S 1048600 (cnt 1 (comG l p).length) 1 = some ((1 : Int) + (comG l p).length) := heldInt64S_eq _ _ _ (by omega) (by omega) (by omega)
      simp only [c1, c2, c3, c4, c5, c6, c7, c8, c9, c10, bindO_s, spec_CompCommon_eq 1048600 l p (by omega) (by omega) hx3, pNot_same, ifB_f]
      have e : pNe (1 + ((comG l p).length : Int)) (1 + ((comG l p).length : Int)) = false := by rw [pNe_d, decide_eq_true rfl]; rfl
      have e2 : pLt (1 + ((comG l p).length : Int)) 0 = false := pLt_f (by omega)
      have e3 : pNot (decide True) = false := by rw [decide_eq_true trivial]; rfl
      have e4 : pLt ((1 : Int) + sumLen l + p.length) 0 = false := pLt_f (by omega)
      simp only [e, e2, e3, e4, ifB_f, bindO_s]
  · rw [show pGt (p.length : Int) 1048576 = true from by rw [pGt_d]; exact decide_eq_true (by omega), ifB_t]

end Go.AE.F
