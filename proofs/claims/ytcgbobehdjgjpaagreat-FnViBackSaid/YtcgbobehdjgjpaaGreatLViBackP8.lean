/- Plain laws of those functions. -/
import Derived.Test.YtcgbobehdjgjpaaGreatLViBackP7
namespace Go.AE.F
open Go.AE
abbrev RingT := List (List Int) × Int × Unit
def ringB (r : RingT × SrcT) : Prop := srcOk r.2 ∧ r.1.1.length ≤ 60 ∧ ∀ x ∈ r.1.1, x.length ≤ 400
theorem ring_app {l : List (List Int)} {x : List Int} (hl : l.length ≤ 50) (hx : ∀ x ∈ l, x.length ≤ 400) (h : x.length ≤ 400) : (pApp l [x]).length ≤ 60 ∧ ∀ y ∈ pApp l [x], y.length ≤ 400 := by
  refine ⟨by simp [pApp]; omega, fun y hy => ?_⟩
  unfold pApp at hy
  rw [List.mem_append] at hy
  rcases hy with hy | hy
  · exact hx y hy
  · have : y = x := by simpa using hy
    rw [this]; exact h
theorem ring_loop {N : Nat} {R : Type} (hN : 100001 < N) (r0 : RingT) (k : SrcT × RingT × RingT × Unit → Option R) : ∀ (m n : Nat) (s : SrcT) (r : RingT), m < n → srcOk s → r.1.length + m ≤ 50 → (∀ x ∈ r.1, x.length ≤ 400) →
    ∃ s' r', loopP (zAE.l5 N) n ((m : Int), s, r0, r, ()) k = k (s', r0, r', ()) ∧ srcOk s' ∧ r'.1.length ≤ 50 ∧ ∀ x ∈ r'.1, x.length ≤ 400 := by
  intro m
  induction m with
  | zero =>
    intro n s r hn hs hl hx
    obtain ⟨n, rfl⟩ := succ_of hn
    refine ⟨s, r, ?_, hs, by omega, hx⟩
    rw [loopP_s]; unfold zAE.l5; simp only []
    rw [pGt_f (by omega), ifB_f]
  | succ m ih =>
    intro n s r hn hs hl hx
    obtain ⟨n, rfl⟩ := succ_of hn
    obtain ⟨v, h1, hv⟩ := nT N s 5 hs (by omega)
    have hv2 := hv.2.2.2 (by omega)
    have hv0 := hv.2.1
    obtain ⟨p, h2, hp⟩ := dpoints_tot N v.2 (1 + v.1) hv.1 (by omega) (by omega) hN
    have hpl := hp.2
    obtain ⟨a1, a2⟩ := ring_app (l := r.1) (x := p.1) (by omega) hx (by omega)
    obtain ⟨s', r', h3, h4, h5, h6⟩ := ih n p.2 (pApp r.1 [p.1], r.2) (by omega) hp.1 (by simp [pApp]; omega) a2
    refine ⟨s', r', ?_, h4, h5, h6⟩
    rw [loopP_s]; unfold zAE.l5; simp only []
    rw [pGt_t (by omega), ifB_t, h1, bindO_s, pAdd_i (by omega) (by omega), h2, bindO_s, pFit_t (by simp; omega), ifB_t, pSub_i (by omega) (by omega), show ((m + 1 : Nat) : Int) - 1 = (m : Int) by omega]
    exact h3
theorem rtail_tot (N : Nat) (hN : 100001 < N) (s : SrcT) (hs : srcOk s) (r : RingT) (hl : r.1.length ≤ 50) (hx : ∀ x ∈ r.1, x.length ≤ 400) : Tot ringB (
      ifB (pGt (pLen r.1) 0) (
        bindO (zAF N s (pLen r.1)) fun y71 =>
        bindO (zAQ N y71.2 20) fun y72 =>
        ifB y72.1 (
          bindO (zAF N y72.2 3) fun y73 =>
          ifB (pEq y73.1 0) (
            bindO (zAF N y73.2 2) fun y74 =>
            bindO (idx [(-1), (pLen r.1)] y74.1) fun y75 =>
            bindO (idx [(-1), (pLen r.1)] y74.1) fun y76 =>
            some ((r.1, (y76, r.2.2)), y74.2)) (
            ifB (pEq y73.1 1) (
              ifB (pFit r.1 [[]]) (
                some (((pApp r.1 [[]]), (y71.1, r.2.2)), y73.2)) (
                none)) (
              bindO (zAF N y73.2 5) fun y77 =>
              bindO (zAD N y77.2 (pAdd Go.IntKind.i64 297 y77.1)) fun y78 =>
              ifB (pFit r.1 [y78.1]) (
                some (((pApp r.1 [y78.1]), (y71.1, r.2.2)), y78.2)) (
                none)))) (
          some ((r.1, (y71.1, r.2.2)), y72.2))) (
        bindO (zAQ N s 20) fun y79 =>
        ifB y79.1 (
          bindO (zAF N y79.2 3) fun y80 =>
          ifB (pEq y80.1 0) (
            bindO (zAF N y80.2 2) fun y81 =>
            bindO (idx [(-1), (pLen r.1)] y81.1) fun y82 =>
            bindO (idx [(-1), (pLen r.1)] y81.1) fun y83 =>
            some ((r.1, (y83, r.2.2)), y81.2)) (
            ifB (pEq y80.1 1) (
              ifB (pFit r.1 [[]]) (
                some (((pApp r.1 [[]]), r.2), y80.2)) (
                none)) (
              bindO (zAF N y80.2 5) fun y84 =>
              bindO (zAD N y84.2 (pAdd Go.IntKind.i64 297 y84.1)) fun y85 =>
              ifB (pFit r.1 [y85.1]) (
                some (((pApp r.1 [y85.1]), r.2), y85.2)) (
                none)))) (
          some (r, y79.2)))) := by
  have hk : (r.1.length : Int) ≤ 4611686018427387904 := by omega
  have e0 : pLen r.1 = (r.1.length : Int) := rfl
  rw [e0]
  have hsame : ∀ v s', srcOk s' → ringB ((r.1, (v, r.2.2)), s') := fun v s' h => ⟨h, by show r.1.length ≤ 60; omega, hx⟩
  have hq : ∀ (u : Int × SrcT) (v : Int), srcOk u.2 → Tot ringB (
      bindO (zAF N u.2 5) fun y77 =>
      bindO (zAD N y77.2 (pAdd Go.IntKind.i64 297 y77.1)) fun y78 =>
      ifB (pFit r.1 [y78.1]) (some (((pApp r.1 [y78.1]), (v, r.2.2)), y78.2)) none) := fun u v hu => by
    refine Tot.bind (nT N u.2 5 hu (by omega)) fun w hw => ?_
    have hw2 := hw.2.2.2 (by omega)
    have hw0 := hw.2.1
    rw [pAdd_i (by omega) (by omega)]
    refine Tot.bind (dpoints_tot N _ _ hw.1 (by omega) (by omega) hN) fun p hp => ?_
    have hpl := hp.2
    refine Tot.fit (by simp; omega) (Tot.ret ?_)
    obtain ⟨a1, a2⟩ := ring_app (l := r.1) (x := p.1) hl hx (by omega)
    exact ⟨hp.1, a1, a2⟩
  have hz : ∀ (u : Int × SrcT), srcOk u.2 → Tot ringB (
      bindO (zAF N u.2 2) fun y74 =>
      bindO (idx [(-1), (r.1.length : Int)] y74.1) fun y75 =>
      bindO (idx [(-1), (r.1.length : Int)] y74.1) fun y76 =>
      some ((r.1, (y76, r.2.2)), y74.2)) := fun u hu => by
    refine Tot.bind (nT N _ 2 hu (by omega)) fun w hw => ?_
    have hw2 := hw.2.2.2 (by omega)
    exact Tot.bind (idxT _ _ hw.2.1 (by simp; omega)) fun _ _ => Tot.bind (idxT _ _ hw.2.1 (by simp; omega)) fun _ _ => Tot.ret (hsame _ _ hw.1)
  have hm : ∀ (u : Int × SrcT) (v : Int), srcOk u.2 → Tot ringB (ifB (pFit r.1 [[]]) (some (((pApp r.1 [[]]), (v, r.2.2)), u.2)) none) := fun u v hu => by
    obtain ⟨a1, a2⟩ := ring_app (l := r.1) (x := []) hl hx (by simp)
    exact Tot.fit (by simp; omega) (Tot.ret ⟨hu, a1, a2⟩)
  refine Tot.both ?_ ?_
  · refine Tot.bind (nT N s _ hs hk) fun a ha => ?_
    refine Tot.bind (oneT N _ 20 ha.1 (by omega)) fun o ho => ?_
    refine Tot.both ?_ (Tot.ret (hsame _ _ ho))
    refine Tot.bind (nT N _ 3 ho (by omega)) fun u hu => ?_
    exact Tot.both (hz u hu.1) (Tot.both (hm u _ hu.1) (hq u _ hu.1))
  · refine Tot.bind (oneT N _ 20 hs (by omega)) fun o ho => ?_
    refine Tot.both ?_ (Tot.ret (hsame r.2.1 _ ho))
    refine Tot.bind (nT N _ 3 ho (by omega)) fun u hu => ?_
    exact Tot.both (hz u hu.1) (Tot.both (hm u r.2.1 hu.1) (hq u r.2.1 hu.1))
theorem dring_tot (N : Nat) (hN : 100001 < N) (s : SrcT) (hs : srcOk s) : Tot ringB (zAE N s) := by
  unfold zAE
  refine Tot.bind (nT N s 4 hs (by omega)) fun a ha => ?_
  have ha2 := ha.2.2.2 (by omega)
  refine Tot.bind (oneT N _ 12 ha.1 (by omega)) fun o ho => ?_
  refine Tot.both ?_ ?_
  · refine Tot.bind (nT N _ 3 ho (by omega)) fun u hu => ?_
    have hu2 := hu.2.2.2 (by omega)
    have hu0 := hu.2.1
    rw [pAdd_i (by omega) (by omega)]
    obtain ⟨q, hq⟩ : ∃ q : Nat, 9 + u.1 = (q : Int) := ⟨(9 + u.1).toNat, by omega⟩
    rw [hq]
    obtain ⟨s', r', h3, h4, h5, h6⟩ := ring_loop hN ([], (0, ())) _ q N u.2 ([], (0, ())) (by omega) hu.1 (by simp; omega) (fun x h => by cases h)
    rw [h3]
    exact rtail_tot N hN s' h4 r' h5 h6
  · have ha0 := ha.2.1
    obtain ⟨q, hq⟩ : ∃ q : Nat, a.1 = (q : Int) := ⟨a.1.toNat, by omega⟩
    rw [hq]
    obtain ⟨s', r', h3, h4, h5, h6⟩ := ring_loop hN ([], (0, ())) _ q N o.2 ([], (0, ())) (by omega) ho (by simp; omega) (fun x h => by cases h)
    rw [h3]
    exact rtail_tot N hN s' h4 r' h5 h6
def ringG (r : RingT) : Bool := decide (r.1.length ≤ 10) && r.1.all itemG && decide (0 ≤ r.2.1) && (decide (r.2.1 < r.1.length) || (decide (r.2.1 = 0) && decide (r.1.length = 0)))
theorem spec_items_n (N : Nat) (hN : 301 < N) (l : List (List Int)) (m : Nat) (hm : m ≤ 30) : zAW N l (m : Int) = some (decide (l.length ≤ m) && l.all itemG) := by
  unfold zAW
  rw [pLen_d]
  by_cases hl : l.length ≤ m
  · rw [pGt_f (by omega), ifB_f, decide_eq_true hl, Bool.true_and]
    have := items_loop (N := N) hN l (by omega) (onSum (fun d => some true) (fun d => let x23 := d.1; some x23)) _ 0 N rfl (by omega) (by omega)
    rw [List.drop_zero] at this
    refine Eq.trans this ?_
    cases l.all itemG <;> rfl
  · rw [pGt_t (by omega), ifB_t, decide_eq_false hl]; rfl
theorem spec_RingRight_eq (N : Nat) (hN : 301 < N) (r : RingT) : zB7 N r = some (ringG r) := by
  unfold zB7 ringG
  rw [show (10 : Int) = ((10 : Nat) : Int) from rfl, spec_items_n N hN r.1 10 (by omega)]
  simp only [bindO_s, ifB_and, ifB_or, pGe_d, pLt_d, pEq_d, pLen_d, ge_iff_le]
  congr 3
  simp
theorem impl_RingRight_eq (N : Nat) (r : RingT) (hl : r.1.length < N) (hb : r.1.length ≤ 1048576) (hx : ∀ x ∈ r.1, x.length < N ∧ x.length ≤ 9223372036854775806) : zBG N r = some (ringG r) := by
  unfold zBG ringG zBO
  rw [impl_items N r.1 hl (by omega) hx]
  simp only [bindO_s, impl_within_eq, pLen_d]
  have e1 : pLe (r.1.length : Int) 10 = decide (r.1.length ≤ 10) := by rw [pLe_d]; congr 1; simp; omega
  rw [e1, pSub_i (by omega) (by omega)]
  have e2 : (decide (0 ≤ r.2.1) && decide (r.2.1 ≤ pMax ((r.1.length : Int) - 1) 0)) = (decide (0 ≤ r.2.1) && (decide (r.2.1 < r.1.length) || (decide (r.2.1 = 0) && decide (r.1.length = 0)))) := by
    unfold pMax
    by_cases h0 : 0 ≤ r.2.1
    · rw [decide_eq_true h0, Bool.true_and, Bool.true_and]
      by_cases h1 : (r.1.length : Int) - 1 < 0
      · rw [if_pos h1]
        have hz : r.1.length = 0 := by omega
        rw [decide_eq_false (show ¬ r.2.1 < (r.1.length : Int) by omega), decide_eq_true hz, Bool.false_or, Bool.and_true]
        congr 1; simp; omega
      · rw [if_neg h1, decide_eq_false (show ¬ r.1.length = 0 by omega), Bool.and_false, Bool.or_false]
        congr 1; simp; omega
    · rw [decide_eq_false h0]; rfl
  rw [e2]
  cases decide (r.1.length ≤ 10) <;> cases r.1.all itemG <;> rfl
theorem ringG_iff {r : RingT} : ringG r = true ↔ r.1.length ≤ 10 ∧ (∀ x ∈ r.1, itemG x = true) ∧ 0 ≤ r.2.1 ∧ (r.2.1 < r.1.length ∨ (r.2.1 = 0 ∧ r.1.length = 0)) := by
  unfold ringG
  simp only [Bool.and_eq_true, Bool.or_eq_true, decide_eq_true_eq, List.all_eq_true, and_assoc]
theorem itemG_pts {x : List Int} (h : itemG x = true) : ptsG x = true ∧ 0 < x.length := by
  unfold itemG at h
  simp only [Bool.and_eq_true, decide_eq_true_eq] at h
  exact ⟨h.2, h.1⟩
def atG (r : RingT) (i : Int) : List Int := (r.1[i.toNat]?).getD []
theorem atG_ok {r : RingT} (h : ringG r = true) {i : Int} (h0 : 0 ≤ i) (h1 : i < r.1.length) : idx r.1 i = some (atG r i) ∧ ptsG (atG r i) = true ∧ 0 < (atG r i).length ∧ (atG r i).length ≤ 300 := by
  obtain ⟨g1, g2, g3, g4⟩ := ringG_iff.1 h
  have hlt : i.toNat < r.1.length := by omega
  have e : r.1[i.toNat]? = some r.1[i.toNat] := List.getElem?_eq_getElem hlt
  have ea : atG r i = r.1[i.toNat] := by unfold atG; rw [e]; rfl
  obtain ⟨p1, p2⟩ := itemG_pts (g2 _ (List.getElem_mem hlt))
  refine ⟨?_, ?_, ?_, ?_⟩
  · unfold idx; rw [if_pos h0, e, ea]
  · rw [ea]; exact p1
  · rw [ea]; exact p2
  · rw [ea]; exact ptsG_len p1
abbrev YankT := BufT × Int × Int × Int × Unit
def failY (c : Int) : YankT := (([], (0, (0, ()))), (0, (0, (c, ()))))
def yankG (r : RingT) (b : BufT) : YankT :=
  if (ringG r && bufG b) = false then failY 1 else if r.1.length = 0 then failY 4 else
  if (replG b b.2.1 b.2.1 (atG r r.2.1)).2.2.1 ≠ 0 then failY (replG b b.2.1 b.2.1 (atG r r.2.1)).2.2.1 else
  ((replG b b.2.1 b.2.1 (atG r r.2.1)).1, (b.2.1, (b.2.1 + (atG r r.2.1).length, (0, ()))))
theorem spec_top_eq (N : Nat) (hN : 301 < N) (r : RingT) (h : ringG r = true) (hn : r.1.length ≠ 0) : zCM N r = some (atG r r.2.1) := by
  obtain ⟨g1, g2, g3, g4⟩ := ringG_iff.1 h
  obtain ⟨a1, a2, a3, a4⟩ := atG_ok h g3 (by omega)
  unfold zCM
  rw [spec_RingRight_eq N hN, bindO_s, h, show pNot true = false from rfl, ifB_f, bindO_s, pLen_d, pEq_f (by omega), ifB_f, a1, bindO_s, copy_eq N _ (by omega), bindO_s]
theorem impl_top_eq (N : Nat) (hN : 301 < N) (r : RingT) (h : ringG r = true) (hn : r.1.length ≠ 0) : zCL N r = some (atG r r.2.1) := by
  obtain ⟨g1, g2, g3, g4⟩ := ringG_iff.1 h
  obtain ⟨a1, a2, a3, a4⟩ := atG_ok h g3 (by omega)
  unfold zCL
  rw [impl_RingRight_eq N r (by omega) (by omega) (fun x hx => by have := ptsG_len (itemG_pts (g2 x hx)).1; omega), bindO_s, h, show pNot true = false from rfl, ifB_f, bindO_s, pLen_d, pEq_f (by omega), ifB_f, a1, bindO_s, clone_eq N _ (by omega), bindO_s]
theorem copyAll_loop {N : Nat} {R : Type} (l : List (List Int)) (hl : l.length ≤ 1048576) (hx : ∀ x ∈ l, x.length ≤ 68719476736) (k : List (List Int) × Unit → Option R) : ∀ (m i n : Nat), l.length - i = m → i ≤ l.length → m < n →
    loopP (zAL.l3 N) n (l, (i : Int), l.take i, ()) k = k (l, ()) := by
  intro m
  induction m with
  | zero =>
    intro i n hm hi hn
    obtain ⟨n, rfl⟩ := succ_of hn
    rw [loopP_s]; unfold zAL.l3; simp only [pLen_d]
    rw [pLt_f (by omega), ifB_f, List.take_of_length_le (by omega)]
  | succ m ih =>
    intro i n hm hi hn
    obtain ⟨n, rfl⟩ := succ_of hn
    have hlt : i < l.length := by omega
    rw [loopP_s]; unfold zAL.l3; simp only [pLen_d]
    rw [pLt_t (by omega), ifB_t, idx_lt hlt, bindO_s, copy_eq N _ (hx _ (List.getElem_mem hlt)), bindO_s, pFit_t (by simp; omega), ifB_t, pAdd_i (by omega) (by omega)]
    have e : pApp (l.take i) [l[i]] = l.take (i + 1) := by rw [List.take_succ_eq_append_getElem hlt]; rfl
    rw [e]
    exact ih (i + 1) n (by omega) (by omega) (by omega)
theorem copyAll_eq (N : Nat) (l : List (List Int)) (hl : l.length ≤ 1048576) (hN : l.length < N) (hx : ∀ x ∈ l, x.length ≤ 68719476736) : zAL N l = some l := by
  unfold zAL
  exact copyAll_loop l hl hx _ _ 0 N rfl (by omega) (by omega)
theorem ownLists_eq (N : Nat) (l : List (List Int)) (hl : l.length ≤ 1048576) (hN : l.length < N) (hx : ∀ x ∈ l, x.length ≤ 68719476736) : zAT N l = some l := by
  unfold zAT
  rw [pLen_d]
  exact own_loop l hl hx _ _ 0 N rfl (by omega) (by omega)
theorem impl_code_eq (N : Nat) (r : RingT) (b : BufT) (hN : 2000 < N) (hl : r.1.length ≤ 1000) (hx : ∀ x ∈ r.1, x.length ≤ 1000) (hb : b.1.length ≤ 1000) :
    zCB N r b = some (if (ringG r && bufG b) = false then 1 else if r.1.length = 0 then 4 else 0) := by
  unfold zCB
  rw [impl_RingRight_eq N r (by omega) (by omega) (fun x h => by have := hx x h; omega), bindO_s, impl_BufRight_eq N b (by omega) (by omega), bindO_s, pNot_d, pNot_d, ifB_or, bindO_s, pLen_d]
  cases ringG r <;> cases bufG b <;> try rfl
  simp only [Bool.not_true, Bool.or_false, ifB_f, Bool.and_true]
  by_cases h : r.1.length = 0
  · rw [pEq_t (by omega), ifB_t, if_pos h]; rfl
  · rw [pEq_f (by omega), ifB_f, if_neg h]; rfl
theorem spec_RingYank_eq (N : Nat) (r : RingT) (b : BufT) (hN : 2000 < N) : zC9 N r b = some (yankG r b) := by
  unfold zC9 yankG
  rw [spec_RingRight_eq N (by omega), bindO_s, spec_BufRight_eq N b (by omega), bindO_s, pNot_d, pNot_d, ifB_or, bindO_s, pLen_d]
  cases h1 : ringG r with
  | false => rfl
  | true =>
    cases h2 : bufG b with
    | false => rfl
    | true =>
      simp only [Bool.not_true, Bool.or_false, ifB_f, Bool.and_true]
      by_cases h : r.1.length = 0
      · rw [pEq_t (by omega), ifB_t, if_neg (by simp), if_pos h]; rfl
      · obtain ⟨g1, g2, g3, g4⟩ := ringG_iff.1 h1
        obtain ⟨a1, a2, a3, a4⟩ := atG_ok h1 g3 (by omega)
        obtain ⟨_, b2, b3, _, _⟩ := bufG_iff.1 h2
        have hbl := ptsG_len (bufG_iff.1 h2).1
        rw [pEq_f (by omega), ifB_f, if_neg (by simp), if_neg h, spec_top_eq N (by omega) r h1 h, bindO_s]
        unfold zC2
        rw [spec_Replace_eq N b _ _ _ h2 a2 (by omega) (by omega) (by omega), bindO_s, bindO_s]
        by_cases h0 : (replG b b.2.1 b.2.1 (atG r r.2.1)).2.2.1 = 0
        · rw [pNe_f h0, ifB_f, if_neg (by simp [h0]), pLen_d, pAdd_i (by omega) (by omega)]
        · rw [pNe_t h0, ifB_t, if_pos h0]; rfl
theorem impl_RingYank_eq (N : Nat) (r : RingT) (b : BufT) (hN : 2000 < N) (hl : r.1.length ≤ 1000) (hx : ∀ x ∈ r.1, x.length ≤ 1000) (hb : b.1.length ≤ 1000) : zC8 N r b = some (yankG r b) := by
  unfold zC8 yankG
  rw [impl_code_eq N r b hN hl hx hb, bindO_s]
  by_cases h1 : (ringG r && bufG b) = false
  · rw [if_pos h1, if_pos h1, pNe_t (by omega), ifB_t]; rfl
  rw [if_neg h1, if_neg h1]
  by_cases h : r.1.length = 0
  · rw [if_pos h, if_pos h, pNe_t (by omega), ifB_t]; rfl
  rw [if_neg h, if_neg h, pNe_f rfl, ifB_f]
  simp only [Bool.and_eq_false_iff, not_or, Bool.not_eq_false] at h1
  obtain ⟨h1, h2⟩ := h1
  obtain ⟨g1, g2, g3, g4⟩ := ringG_iff.1 h1
  obtain ⟨a1, a2, a3, a4⟩ := atG_ok h1 g3 (by omega)
  obtain ⟨_, b2, b3, _, _⟩ := bufG_iff.1 h2
  have hbl := ptsG_len (bufG_iff.1 h2).1
  rw [a1, bindO_s, impl_replace_eq N b _ _ _ h2 (by omega) (by omega) (by omega) (by omega), bindO_s]
  by_cases h0 : (replG b b.2.1 b.2.1 (atG r r.2.1)).2.2.1 = 0
  · rw [pNe_f h0, ifB_f, if_neg (by simp [h0]), impl_size_eq N _ (by omega), bindO_s, pAdd_i (by omega) (by omega)]
  · rw [pNe_t h0, ifB_t, if_pos h0]; rfl
end Go.AE.F
namespace Go.AE.F
open Go.AE
theorem sumLen_c (x : List Int) (xs : List (List Int)) : sumLen (x :: xs) = x.length + sumLen xs := rfl
def ringOk (N : Nat) (r : RingT) : Prop := r.1.length < N ∧ r.1.length ≤ 1048576 ∧ (∀ x ∈ r.1, x.length < N ∧ x.length ≤ 1048576) ∧ sumLen r.1 ≤ 4194304
def rpushG (r : RingT) (p : List Int) : RingT :=
  if 400 < p.length then ([], (0, ())) else if (ringG r && itemG p) = false then r else ((p :: r.1).take 10, (0, ()))
theorem spec_RingPush_eq (N : Nat) (r : RingT) (p : List Int) (hN : 301 < N) (h : ringOk N r) (hp : p.length ≤ 1048576) : zCD N r p = some (rpushG r p) := by
  obtain ⟨q1, q2, q3, q4⟩ := h
  unfold zCD rpushG
  rw [pLen_d]
  by_cases h1 : 400 < p.length
  · rw [pGt_t (by omega), ifB_t, if_pos h1]
  have hit : itemG p = (ptsG p && !decide (p.length = 0)) := by
    unfold itemG
    by_cases h0 : p.length = 0
    · rw [decide_eq_false (show ¬ 0 < p.length by omega), decide_eq_true h0]; simp
    · rw [decide_eq_true (show 0 < p.length by omega), decide_eq_false h0]; simp
  rw [pGt_f (by omega), ifB_f, if_neg h1, spec_RingRight_eq N hN, bindO_s, spec_PointsRight_eq N p hN, bindO_s, pNot_d, pNot_d, ifB_or, bindO_s]
  have e0 : pEq (p.length : Int) 0 = decide (p.length = 0) := by rw [pEq_d]; congr 1; simp
  rw [e0, ifB_or, bindO_s, hit]
  have ec : zBN N r = some r := by
    unfold zBN
    rw [copyAll_eq N r.1 (by omega) q1 (fun x hx => by have := q3 x hx; omega), bindO_s]
  have e3 : (!ptsG p || decide (p.length = 0)) = !(ptsG p && !decide (p.length = 0)) := by cases ptsG p <;> cases decide (p.length = 0) <;> rfl
  cases hr : ringG r with
  | false => simp only [Bool.not_false, Bool.true_or, ifB_t, Bool.false_and, if_true, ec, bindO_s]
  | true =>
    cases hpt : (ptsG p && !decide (p.length = 0)) with
    | false =>
      have e2 : (!ptsG p || decide (p.length = 0)) = true := by rw [e3, hpt]; rfl
      simp only [Bool.not_true, Bool.false_or, e2, ifB_t, Bool.true_and, if_true, ec, bindO_s]
    | true =>
      have e2 : (!ptsG p || decide (p.length = 0)) = false := by rw [e3, hpt]; rfl
      obtain ⟨g1, g2, g3, g4⟩ := ringG_iff.1 hr
      simp only [Bool.not_true, Bool.false_or, e2, ifB_f, Bool.true_and]
      rw [if_neg (by simp), copy_eq N p (by omega), bindO_s, copyAll_eq N r.1 (by omega) q1 (fun x hx => by have := q3 x hx; omega), bindO_s, pFit_t (by simp; omega), ifB_t, pLen_d]
      have ea : pApp [p] r.1 = p :: r.1 := rfl
      rw [ea]
      by_cases h10 : 10 < (p :: r.1).length
      · rw [pGt_t (by omega), ifB_t, pLe_t (by omega), ifB_t, pLe_t (by omega), ifB_t, pLe_t (by omega), ifB_t]
        rfl
      · rw [pGt_f (by omega), ifB_f, List.take_of_length_le (by omega)]
theorem impl_push_eq (N : Nat) (r : RingT) (p : List Int) (q1 : r.1.length < N) (q2 : r.1.length ≤ 1048576) (q3 : ∀ x ∈ r.1, x.length < N ∧ x.length ≤ 1048576) (hp : p.length ≤ 1048576) (h10 : r.1.length ≤ 1000) : zCR N r p = some ((p :: r.1).take 10, (0, ())) := by
  unfold zCR
  rw [ownLists_eq N r.1 (by omega) q1 (fun x hx => by have := q3 x hx; omega), bindO_s, clone_eq N p (by omega), bindO_s]
  unfold zBJ
  rw [pLe_t (by omega), ifB_t, pLen_d, pLe_t (by omega), ifB_t, pFit_t (by simp; omega), ifB_t, bindO_s]
  have ea : pApp (pApp (sub r.1 0 0) [p]) (sub r.1 0 (r.1.length : Int)) = p :: r.1 := by simp [pApp, sub]
  rw [ea, pLen_d]
  have hm : pMin ((p :: r.1).length : Int) 10 = ((min (p :: r.1).length 10 : Nat) : Int) := by unfold pMin; split <;> omega
  rw [hm]
  have b1 : pLe (0 : Int) ((min (p :: r.1).length 10 : Nat) : Int) = true := pLe_t (by omega)
  have b2 : pLe ((min (p :: r.1).length 10 : Nat) : Int) ((p :: r.1).length : Int) = true := pLe_t (by omega)
  rw [ifB_t, b1, ifB_t, b2, ifB_t]
  congr 2
  unfold sub
  rw [Int.toNat_natCast]
  show List.drop 0 _ = _
  rw [List.drop_zero]
  rcases Nat.le_total (p :: r.1).length 10 with z | z
  · rw [Nat.min_eq_left z, List.take_length, List.take_of_length_le z]
  · rw [Nat.min_eq_right z]
end Go.AE.F
