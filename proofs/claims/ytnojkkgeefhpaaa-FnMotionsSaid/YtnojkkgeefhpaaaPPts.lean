/- Reading points out of bytes; drawing, by parts. -/
import Derived.Test.YtnojkkgeefhpaaaPSrc
import Derived.Test.YtnojkkgeefhpaaaPComp
import Derived.Test.YtnojkkgeefhpaaaF8
namespace Go.AE.F
open Go.AE

/-- it comes to something of which P holds -/
def Tot {A : Type} (P : A → Prop) (o : Option A) : Prop := ∃ x, o = some x ∧ P x
theorem Tot.bind {A B : Type} {P : A → Prop} {Q : B → Prop} {o : Option A} {f : A → Option B} (h : Tot P o) (k : ∀ x, P x → Tot Q (f x)) : Tot Q (bindO o f) := by
  obtain ⟨x, h1, h2⟩ := h
  rw [h1, bindO_s]; exact k x h2
theorem Tot.ite {A : Type} {P : A → Prop} {c : Bool} {a b : Option A} (h1 : c = true → Tot P a) (h2 : c = false → Tot P b) : Tot P (ifB c a b) := by
  cases c with
  | true => exact h1 rfl
  | false => exact h2 rfl
theorem Tot.both {A : Type} {P : A → Prop} {c : Bool} {a b : Option A} (h1 : Tot P a) (h2 : Tot P b) : Tot P (ifB c a b) := Tot.ite (fun _ => h1) (fun _ => h2)
theorem Tot.ret {A : Type} {P : A → Prop} {x : A} (h : P x) : Tot P (some x) := ⟨x, rfl, h⟩
theorem Tot.fit {A B : Type} {P : B → Prop} {xs ys : List A} {a : Option B} (h : xs.length + ys.length ≤ 68719476736) (h1 : Tot P a) : Tot P (ifB (pFit xs ys) a none) := by rw [pFit_t h]; exact h1

theorem nT (N : Nat) (s : SrcT) (k : Int) (hs : srcOk s) (hk : k ≤ 4611686018427387904) : Tot (fun r : Int × SrcT => srcOk r.2 ∧ 0 ≤ r.1 ∧ (k ≤ 1 → r.1 = 0) ∧ (1 < k → r.1 < k)) (spec_l01Src_n N s k) := by
  obtain ⟨v, s', h, h1, h2, h3, h4⟩ := n_ok N s k hs hk
  exact ⟨(v, s'), h, h1, h2, h3, h4⟩
theorem oneT (N : Nat) (s : SrcT) (k : Int) (hs : srcOk s) (hk : k ≤ 4611686018427387904) : Tot (fun r : Bool × SrcT => srcOk r.2) (spec_l01Src_one N s k) := by
  obtain ⟨v, s', h, h1⟩ := one_ok N s k hs hk
  exact ⟨(v, s'), h, h1⟩
theorem idxT {A : Type} (l : List A) (i : Int) (h0 : 0 ≤ i) (h1 : i < l.length) : Tot (fun x => x ∈ l) (idx l i) := by
  obtain ⟨p, rfl⟩ : ∃ p : Nat, i = (p : Int) := ⟨i.toNat, by omega⟩
  exact ⟨_, idx_lt (by omega), List.getElem_mem _⟩

/-! ### one point -/
theorem bytes_tot (N : Nat) (a : Int) : Tot (fun _ => True) (spec_l01Bytes N a) := by
  unfold spec_l01Bytes
  simp only [show pEq 64 0 = false from rfl, show pEq 4096 0 = false from rfl, show pEq 262144 0 = false from rfl, ifB_f]
  exact Tot.both (Tot.ret trivial) (Tot.both (Tot.ret trivial) (Tot.both (Tot.ret trivial) (Tot.ret trivial)))

theorem byte_at (s : ByteArray) (i : Nat) (h : i < s.size) : Tot (fun b => 0 ≤ b ∧ b < 256) (bidx s (i : Int)) := by
  have hl : i < s.data.toList.length := by rw [Array.length_toList]; exact h
  exact ⟨_, bidx_lt hl, by omega, by have := (s.data.toList[i]).toNat_lt; omega⟩

theorem cont_loop {N : Nat} {R : Type} (s : ByteArray) (w : Nat) (hw : w ≤ s.size) (hw4 : w ≤ 4) (k : (ByteArray × Int × Int × Unit) ⊕ (Int × Int × Unit) → Option R) : ∀ (m i n : Nat) (a : Int), w - i = m → i ≤ w → m < n →
    ∃ r, loopP (spec_l01First.l18 N) n (s, (w : Int), a, (i : Int), ()) k = k r ∧ (r = .inr (65533, 1, ()) ∨ ∃ a', r = .inl (s, (w : Int), a', ())) := by
  intro m
  induction m with
  | zero =>
    intro i n a hm hi hn
    obtain ⟨n, rfl⟩ := succ_of hn
    refine ⟨_, ?_, .inr ⟨a, rfl⟩⟩
    rw [loopP_s]; unfold spec_l01First.l18; simp only []
    rw [pLt_f (by omega), ifB_f]
  | succ m ih =>
    intro i n a hm hi hn
    obtain ⟨n, rfl⟩ := succ_of hn
    obtain ⟨b, hb, _⟩ := byte_at s i (by omega)
    rw [loopP_s]; unfold spec_l01First.l18; simp only []
    rw [pLt_t (by omega), ifB_t]
    simp only [hb, bindO_s]
    rw [ifB_or, bindO_s]
    cases (pLt b 128 || pGe b 192) with
    | true => exact ⟨_, rfl, .inl rfl⟩
    | false =>
      rw [ifB_f, pAdd_i (a := (i : Int)) (b := 1) (by omega) (by omega)]
      exact ih (i + 1) n _ (by omega) (by omega) (by omega)

theorem first_tot (N : Nat) (s : ByteArray) (h0 : 0 < s.size) (hN : 5 < N) : Tot (fun r : Int × Int => ptG r.1 = true ∧ 1 ≤ r.2 ∧ r.2 ≤ (s.size : Int)) (spec_l01First N s) := by
  have bad : Tot (fun r : Int × Int => ptG r.1 = true ∧ 1 ≤ r.2 ∧ r.2 ≤ (s.size : Int)) (some (65533, 1)) := Tot.ret ⟨rfl, by omega, by show (1 : Int) ≤ _; omega⟩
  unfold spec_l01First
  refine Tot.bind (byte_at s 0 h0) fun b hb => ?_
  have hc : pConv .i64 b = b := wrap_i64 (by omega) (by omega)
  rw [hc]
  refine Tot.ite (fun h => Tot.ret ⟨?_, by omega, by show (1 : Int) ≤ _; omega⟩) (fun _ => ?_)
  · have : b < 128 := of_decide_eq_true h
    unfold ptG
    rw [decide_eq_true hb.1, decide_eq_true (show b ≤ 1114111 by omega), decide_eq_false (show ¬ 55296 ≤ b by omega)]
    rfl
  · refine Tot.bind (P := fun r : ByteArray × Int × Int × Unit => r.1 = s ∧ ∃ w : Nat, r.2.1 = (w : Int) ∧ w ≤ 4) ?_ ?_
    · simp only [ifB_and, bindO_s]
      exact Tot.both (Tot.ret ⟨rfl, 2, rfl, by omega⟩) (Tot.both (Tot.ret ⟨rfl, 3, rfl, by omega⟩) (Tot.both (Tot.ret ⟨rfl, 4, rfl, by omega⟩) (Tot.ret ⟨rfl, 0, rfl, by omega⟩)))
    · intro r hr
      obtain ⟨rs, rw', ra, _⟩ := r
      obtain ⟨h1, w, h2, h3⟩ := hr
      simp only at h1 h2
      subst h1 h2
      simp only []
      rw [ifB_or, bindO_s]
      refine Tot.ite (fun _ => bad) (fun hf => ?_)
      rw [Bool.or_eq_false_iff] at hf
      have hw0 : w ≠ 0 := fun q => by subst q; have := hf.1; rw [show pEq ((0 : Nat) : Int) 0 = true from rfl] at this; cases this
      have hws : w ≤ rs.size := by
        have := of_decide_eq_false hf.2
        have e : pSize rs = (rs.size : Int) := rfl
        rw [e] at this
        omega
      obtain ⟨r, hr, hr2⟩ := cont_loop (N := N) rs w hws h3 (onSum (fun d =>
            let x54 := d.1;
            let x55 := d.2.1;
            let x56 := d.2.2.1;
            bindO (spec_l01Point N x56) fun y57 =>
            ifB (pNot y57) (
              some (65533, 1)) (
              ifB (pLe 0 0) (
                ifB (pLe 0 x55) (
                  ifB (pLe x55 (pSize x54)) (
                    bindO (spec_l01Bytes N x56) fun y58 =>
                    ifB (pNot (pSEq (bytesOf y58) (ssub x54 0 x55))) (
                      some (65533, 1)) (
                      some (x56, x55))) (
                    none)) (
                  none)) (
                none))) (
          fun d =>
          let x59 := d.1;
          let x60 := d.2.1;
          some (x59, x60))) _ 1 N ra rfl (by omega) (by omega)
      refine (show Tot _ _ from ?_ : Tot _ _)
      rw [show ((1 : Nat) : Int) = 1 from rfl] at hr
      rw [hr]
      rcases hr2 with hr2 | ⟨a', hr2⟩
      · rw [hr2]; exact bad
      · rw [hr2]
        simp only [onSum]
        rw [spec_l01Point_eq, bindO_s]
        cases hp : ptG a' with
        | false => exact bad
        | true =>
          rw [pNot_d, Bool.not_true, ifB_f, pLe_t (by omega), ifB_t, pLe_t (by omega), ifB_t, pLe_t (by show (w : Int) ≤ (rs.size : Int); omega), ifB_t]
          refine Tot.bind (bytes_tot N a') fun l _ => ?_
          exact Tot.both bad (Tot.ret ⟨hp, by show (1 : Int) ≤ (w : Int); omega, by show (w : Int) ≤ (rs.size : Int); omega⟩)

/-! ### all points -/
theorem pts_loop {N : Nat} {R : Type} (s : ByteArray) (hs : s.size ≤ 68719476736) (hN : 5 < N) (k : List Int × Unit → Option R) : ∀ (m i n : Nat) (out : List Int), s.size - i ≤ m → i ≤ s.size → m < n → out.length ≤ i → out.all ptG = true →
    ∃ l, loopP (spec_l01Points.l3 N) n (s, (i : Int), out, ()) k = k (l, ()) ∧ l.length ≤ s.size ∧ l.all ptG = true := by
  intro m
  induction m with
  | zero =>
    intro i n out hm hi hn ho ha
    obtain ⟨n, rfl⟩ := succ_of hn
    refine ⟨out, ?_, by omega, ha⟩
    rw [loopP_s]; unfold spec_l01Points.l3; simp only [show pSize s = (s.size : Int) from rfl]
    rw [pLt_f (show (s.size : Int) ≤ (i : Int) by omega), ifB_f]
  | succ m ih =>
    intro i n out hm hi hn ho ha
    obtain ⟨n, rfl⟩ := succ_of hn
    by_cases he : i = s.size
    · refine ⟨out, ?_, by omega, ha⟩
      rw [loopP_s]; unfold spec_l01Points.l3; simp only [show pSize s = (s.size : Int) from rfl]
      rw [pLt_f (show (s.size : Int) ≤ (i : Int) by omega), ifB_f]
    · have hsz : (ssub s (i : Int) (s.size : Int)).size = s.size - i := by
        unfold ssub
        rw [Int.toNat_natCast, Int.toNat_natCast, ByteArray.size_extract]
        omega
      obtain ⟨⟨p, w⟩, h1, h2, h3, h4⟩ := first_tot N (ssub s (i : Int) (s.size : Int)) (by omega) hN
      rw [hsz] at h4
      simp only at h2 h3 h4
      obtain ⟨q, rfl⟩ : ∃ q : Nat, w = (q : Int) := ⟨w.toNat, by omega⟩
      rw [loopP_s]; unfold spec_l01Points.l3; simp only [show pSize s = (s.size : Int) from rfl]
      rw [pLt_t (show (i : Int) < (s.size : Int) by omega), ifB_t, pLe_t (by omega), ifB_t, pLe_t (show (i : Int) ≤ (s.size : Int) by omega), ifB_t, pLe_t (Int.le_refl _), ifB_t, h1, bindO_s]
      simp only []
      rw [pFit_t (by simp; omega), ifB_t, pAdd_i (by omega) (by omega)]
      exact ih (i + q) n (pApp out [p]) (by omega) (by omega) (by omega) (by simp [pApp]; omega) (by unfold pApp; rw [List.all_append, ha]; simp [h2])

theorem points_tot (N : Nat) (s : ByteArray) (hs : s.size ≤ 68719476736) (hN : s.size + 5 < N) : Tot (fun l : List Int => l.length ≤ s.size ∧ l.all ptG = true) (spec_l01Points N s) := by
  unfold spec_l01Points
  obtain ⟨l, h1, h2⟩ := pts_loop (N := N) s hs (by omega) (fun d =>
    let x13 := d.1;
    some x13) s.size 0 N [] (by omega) (by omega) (by omega) (by simp) rfl
  exact ⟨l, h1, h2⟩

theorem pointsOf_tot (N : Nat) (s : ByteArray) (hN : 20010 < N) : Tot (fun l : List Int => ptsG l = true) (spec_PointsOf N s) := by
  unfold spec_PointsOf
  refine Tot.ite (fun _ => Tot.ret rfl) (fun h => ?_)
  have hs : s.size ≤ 20000 := by
    have := of_decide_eq_false h
    have e : pSize s = (s.size : Int) := rfl
    rw [e] at this
    omega
  refine Tot.bind (points_tot N s (by omega) (by omega)) fun l hl => ?_
  refine Tot.ite (fun _ => Tot.ret rfl) (fun h => Tot.ret ?_)
  have := of_decide_eq_false h
  rw [pLen_d] at this
  unfold ptsG
  rw [hl.2, decide_eq_true (show l.length ≤ 300 by omega)]
  rfl

/-! ### drawn points -/
theorem point_tot (N : Nat) (s : SrcT) (hs : srcOk s) : Tot (fun r : Int × SrcT => srcOk r.2) (spec_l01Src_point N s) := by
  unfold spec_l01Src_point
  refine Tot.bind (nT N s 14 hs (by omega)) fun r h => ?_
  refine Tot.both (Tot.ret h.1) (Tot.both (Tot.ret h.1) (Tot.both ?_ (Tot.both ?_ (Tot.both ?_ (Tot.both ?_ (Tot.both ?_ ?_))))))
  · refine Tot.bind (nT N _ 5 h.1 (by omega)) fun q hq => ?_
    have := hq.2.2.2 (by omega)
    exact Tot.bind (idxT _ _ hq.2.1 (by simp; omega)) fun _ _ => Tot.bind (idxT _ _ hq.2.1 (by simp; omega)) fun _ _ => Tot.ret hq.1
  · refine Tot.bind (nT N _ 20 h.1 (by omega)) fun q hq => ?_
    have := hq.2.2.2 (by omega)
    exact Tot.bind (idxT _ _ hq.2.1 (by simp; omega)) fun _ _ => Tot.bind (idxT _ _ hq.2.1 (by simp; omega)) fun _ _ => Tot.ret hq.1
  · refine Tot.bind (nT N _ 8 h.1 (by omega)) fun q hq => ?_
    have := hq.2.2.2 (by omega)
    exact Tot.bind (idxT _ _ hq.2.1 (by simp; omega)) fun _ _ => Tot.bind (idxT _ _ hq.2.1 (by simp; omega)) fun _ _ => Tot.ret hq.1
  · refine Tot.bind (nT N _ 5 h.1 (by omega)) fun q hq => ?_
    have := hq.2.2.2 (by omega)
    exact Tot.bind (idxT _ _ hq.2.1 (by simp; omega)) fun _ _ => Tot.bind (idxT _ _ hq.2.1 (by simp; omega)) fun _ _ => Tot.ret hq.1
  · exact Tot.bind (nT N _ 10 h.1 (by omega)) fun q hq => Tot.ret hq.1
  · exact Tot.bind (nT N _ 6 h.1 (by omega)) fun q hq => Tot.ret hq.1

theorem dpoints_loop {N : Nat} {R : Type} (k : SrcT × List Int × Unit → Option R) : ∀ (m n : Nat) (s : SrcT) (out : List Int), m < n → srcOk s → out.length + m ≤ 100000 →
    ∃ s' l, loopP (spec_l01Src_points.l2 N) n ((m : Int), s, out, ()) k = k (s', l, ()) ∧ srcOk s' ∧ l.length ≤ out.length + m := by
  intro m
  induction m with
  | zero =>
    intro n s out hn hs ho
    obtain ⟨n, rfl⟩ := succ_of hn
    refine ⟨s, out, ?_, hs, by omega⟩
    rw [loopP_s]; unfold spec_l01Src_points.l2; simp only []
    rw [pGt_f (by omega), ifB_f]
  | succ m ih =>
    intro n s out hn hs ho
    obtain ⟨n, rfl⟩ := succ_of hn
    obtain ⟨⟨p, s1⟩, h1, hs1⟩ := point_tot N s hs
    have e : pSub .i64 ((m + 1 : Nat) : Int) 1 = (m : Int) := by rw [pSub_i (by omega) (by omega)]; omega
    rw [loopP_s]; unfold spec_l01Src_points.l2; simp only []
    rw [pGt_t (by omega), ifB_t, h1, bindO_s]
    simp only []
    rw [pFit_t (by simp; omega), ifB_t, e]
    obtain ⟨s2, l, g1, g2, g3⟩ := ih n s1 (pApp out [p]) (by omega) hs1 (by simp [pApp]; omega)
    exact ⟨s2, l, g1, g2, by simp [pApp] at g3; omega⟩

theorem dpoints_tot (N : Nat) (s : SrcT) (k : Int) (hs : srcOk s) (h0 : 0 ≤ k) (hk : k ≤ 100000) (hN : 100001 < N) : Tot (fun r : List Int × SrcT => srcOk r.2 ∧ (r.1.length : Int) ≤ k) (spec_l01Src_points N s k) := by
  obtain ⟨p, rfl⟩ : ∃ p : Nat, k = (p : Int) := ⟨k.toNat, by omega⟩
  unfold spec_l01Src_points
  obtain ⟨s', l, g1, g2, g3⟩ := dpoints_loop (N := N) (fun d =>
    let x17 := d.1;
    let x18 := d.2.1;
    some (x18, x17)) p N s [] (by omega) hs (by simp; omega)
  exact ⟨(l, s'), g1, g2, by simp at g3; show (l.length : Int) ≤ p; omega⟩

theorem some_tot (N : Nat) (s : SrcT) (hs : srcOk s) (hN : 100001 < N) : Tot (fun r : List Int × SrcT => srcOk r.2) (spec_l01Src_some N s) := by
  unfold spec_l01Src_some
  have hz := hs.2.2.2
  have e : pAdd .i64 12 s.2.2.2.1 = 12 + s.2.2.2.1 := pAdd_i (by omega) (by omega)
  rw [e]
  refine Tot.bind (nT N s _ hs (by omega)) fun r h => ?_
  have hr := h.2.2.2 (by omega)
  refine Tot.bind (dpoints_tot N _ _ h.1 h.2.1 (by omega) hN) fun p hp => ?_
  have hpl := hp.2
  refine Tot.bind (oneT N _ 50 hp.1 (by omega)) fun o ho => ?_
  refine Tot.both ?_ ?_
  · refine Tot.bind (nT N _ 3 ho (by omega)) fun v hv => ?_
    have hv3 := hv.2.2.2 (by omega)
    have hv0 := hv.2.1
    have e2 : pAdd .i64 299 v.1 = 299 + v.1 := pAdd_i (by omega) (by omega)
    rw [e2]
    refine Tot.bind (dpoints_tot N _ _ hv.1 (by omega) (by omega) hN) fun q hq => ?_
    have hql := hq.2
    refine Tot.bind (oneT N _ 20 hq.1 (by omega)) fun o2 ho2 => ?_
    refine Tot.both ?_ (Tot.ret ho2)
    refine Tot.bind (nT N _ 5 ho2 (by omega)) fun u hu => ?_
    have := hu.2.2.2 (by omega)
    refine Tot.bind (idxT _ _ hu.2.1 (by simp; omega)) fun _ _ => Tot.bind (idxT _ _ hu.2.1 (by simp; omega)) fun _ _ => ?_
    exact Tot.fit (by simp; omega) (Tot.ret hu.1)
  · refine Tot.bind (oneT N _ 20 ho (by omega)) fun o2 ho2 => ?_
    refine Tot.both ?_ (Tot.ret ho2)
    refine Tot.bind (nT N _ 5 ho2 (by omega)) fun u hu => ?_
    have := hu.2.2.2 (by omega)
    refine Tot.bind (idxT _ _ hu.2.1 (by simp; omega)) fun _ _ => Tot.bind (idxT _ _ hu.2.1 (by simp; omega)) fun _ _ => ?_
    exact Tot.fit (by simp; omega) (Tot.ret hu.1)

end Go.AE.F
