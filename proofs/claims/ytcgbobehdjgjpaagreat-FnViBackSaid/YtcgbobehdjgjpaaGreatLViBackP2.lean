/- Plain laws of those functions. -/
import Derived.Test.YtcgbobehdjgjpaaGreatLViBackP1
namespace Go.AE.F
open Go.AE
theorem wrap_u64 (a : Int) : IntKind.u64.wrap a = a % 18446744073709551616 := rfl
theorem conv_u64 (a : Int) : 0 ≤ pConv .u64 a ∧ pConv .u64 a < 18446744073709551616 := by
  unfold pConv
  rw [wrap_u64]; omega
abbrev SrcT := List Int × Int × Int × Int × Unit
def srcOk (s : SrcT) : Prop := s.1.length ≤ 1048576 ∧ 0 ≤ s.2.1 ∧ s.2.1 ≤ s.1.length ∧ 0 ≤ s.2.2.2.1 ∧ s.2.2.2.1 ≤ 12
theorem src_loop {N : Nat} {R : Type} (c : List Int) (hc : c.length ≤ 1048576) (k : List Int × SrcT × Unit → Option R) : ∀ (m i n : Nat) (st : Int), 64 - i = m → i ≤ 64 → m < n →
    ∃ st', loopP (zAR.l3 N) n (c, (i : Int), (c, (0, (st, (0, ())))), ()) k = k (c, (c, (0, (st', (0, ())))), ()) := by
  intro m
  induction m with
  | zero =>
    intro i n st hm hi hn
    obtain ⟨n, rfl⟩ := succ_of hn
    refine ⟨st, ?_⟩
    rw [loopP_s]
    unfold zAR.l3
    simp only []
    rw [ifB_and, bindO_s, pLt_f (a := (i : Int)) (b := 64) (by omega), Bool.and_false, ifB_f]
  | succ m ih =>
    intro i n st hm hi hn
    obtain ⟨n, rfl⟩ := succ_of hn
    rw [loopP_s]
    unfold zAR.l3
    simp only []
    rw [ifB_and, bindO_s, pLen_d]
    by_cases hl : i < c.length
    · rw [pLt_t (by omega), pLt_t (by omega), Bool.and_self, ifB_t, idx_lt hl, bindO_s, pAdd_i (by omega) (by omega)]
      exact ih (i + 1) n _ (by omega) (by omega) (by omega)
    · exact ⟨st, by rw [pLt_f (by omega), Bool.false_and, ifB_f]⟩
theorem source_ok (N : Nat) (c : List Int) (hc : c.length ≤ 1048576) (hN : 64 < N) : ∃ s, zAR N c = some s ∧ srcOk s := by
  unfold zAR
  obtain ⟨st, h⟩ := src_loop (N := N) c hc (fun d =>
    let x18 := d.1;
    let x19 := d.2.1;
    ifB (pEq 20 0) (
      none) (
      ifB (pGt (pQuo Go.IntKind.i64 (pLen x18) 20) 12) (
        some (x19.1, (x19.2.1, (x19.2.2.1, (12, x19.2.2.2.2))))) (
        some (x19.1, (x19.2.1, (x19.2.2.1, ((pQuo Go.IntKind.i64 (pLen x18) 20), x19.2.2.2.2))))))) _ 0 N 88172645463325252 rfl (by omega) (by omega)
  have hq : pQuo .i64 (pLen c) 20 = (c.length : Int) / 20 := IntWalk.i64_quo _ _ ⟨by rw [pLen_d]; omega, by rw [pLen_d]; omega, by omega⟩
  simp only [hq, show pEq 20 0 = false from rfl, ifB_f] at h
  by_cases hg : (c.length : Int) / 20 > 12
  · rw [pGt_t hg, ifB_t] at h
    exact ⟨_, h, hc, by simp, by simp, by simp, by simp⟩
  · rw [pGt_f (by omega), ifB_f] at h
    refine ⟨_, h, hc, by simp, by simp, ?_, ?_⟩
    · show (0 : Int) ≤ (c.length : Int) / 20
      omega
    · show (c.length : Int) / 20 ≤ 12
      omega
theorem n_ok (N : Nat) (s : SrcT) (k : Int) (hs : srcOk s) (hk : k ≤ 4611686018427387904) : ∃ v s', zAF N s k = some (v, s') ∧ srcOk s' ∧ 0 ≤ v ∧ (k ≤ 1 → v = 0) ∧ (1 < k → v < k) := by
  obtain ⟨h1, h2, h3, h4, h5⟩ := hs
  unfold zAF
  by_cases hk1 : k ≤ 1
  · rw [pLe_t hk1, ifB_t]
    exact ⟨0, s, rfl, ⟨h1, h2, h3, h4, h5⟩, by omega, fun _ => rfl, fun h => by omega⟩
  · have hc : pConv .u64 k = k := IntWalk.u64_in k ⟨by omega, by omega⟩
    have hr : ∀ x y : Int, 0 ≤ pConv .i64 (pRem (pAdd .u64 x y) k) ∧ pConv .i64 (pRem (pAdd .u64 x y) k) < k := fun x y => by
      have ⟨a, _⟩ := conv_u64 (x + y)
      have e : pRem (pAdd .u64 x y) k = (pAdd .u64 x y) % k := Int.tmod_eq_emod_of_nonneg a
      have b1 := Int.emod_nonneg (pAdd .u64 x y) (show k ≠ 0 by omega)
      have b2 := Int.emod_lt_of_pos (pAdd .u64 x y) (show 0 < k by omega)
      rw [e]
      have e2 : pConv .i64 (pAdd .u64 x y % k) = pAdd .u64 x y % k := wrap_i64 (by omega) (by omega)
      rw [e2]
      exact ⟨b1, b2⟩
    rw [pLe_f (by omega), ifB_f, hc]
    simp only [show pLt 13 0 = false from rfl, show pLt 7 0 = false from rfl, show pLt 17 0 = false from rfl, show pLt 20 0 = false from rfl, ifB_f, pEq_f (show k ≠ 0 by omega)]
    by_cases hp : s.2.1 < s.1.length
    · obtain ⟨p, hp'⟩ : ∃ p : Nat, s.2.1 = (p : Int) := ⟨s.2.1.toNat, by omega⟩
      have hlt : p < s.1.length := by omega
      have hi : idx s.1 s.2.1 = some s.1[p] := by rw [hp']; exact idx_lt hlt
      rw [pLen_d, pLt_t hp, ifB_t, hi, bindO_s]
      refine ⟨_, _, rfl, ⟨h1, ?_, ?_, h4, h5⟩, (hr _ _).1, fun h => by omega, fun _ => (hr _ _).2⟩
      · show 0 ≤ pAdd .i64 s.2.1 1
        rw [pAdd_i (by omega) (by omega)]; omega
      · show pAdd .i64 s.2.1 1 ≤ _
        rw [pAdd_i (by omega) (by omega)]
        show _ ≤ (s.1.length : Int)
        omega
    · rw [pLen_d, pLt_f (by omega), ifB_f]
      exact ⟨_, _, rfl, ⟨h1, h2, h3, h4, h5⟩, (hr _ _).1, fun h => by omega, fun _ => (hr _ _).2⟩
theorem one_ok (N : Nat) (s : SrcT) (k : Int) (hs : srcOk s) (hk : k ≤ 4611686018427387904) : ∃ b s', zAQ N s k = some (b, s') ∧ srcOk s' := by
  obtain ⟨v, s', h, hs', _⟩ := n_ok N s k hs hk
  exact ⟨_, s', by unfold zAQ; rw [h, bindO_s], hs'⟩
theorem pick_ok (N : Nat) (s : SrcT) (l : List ByteArray) (hs : srcOk s) (h0 : 0 < l.length) (hk : l.length ≤ 1048576) : ∃ x s', zB1 N s l = some (x, s') ∧ srcOk s' ∧ x ∈ l := by
  obtain ⟨v, s', h, hs', h1, h2, h3⟩ := n_ok N s (pLen l) hs (by rw [pLen_d]; omega)
  rw [pLen_d] at h2 h3
  obtain ⟨p, rfl⟩ : ∃ p : Nat, v = (p : Int) := ⟨v.toNat, by omega⟩
  have hlt : p < l.length := by
    by_cases q : l.length ≤ 1
    · have := h2 (by omega); omega
    · have := h3 (by omega); omega
  exact ⟨l[p], s', by unfold zB1; rw [h, bindO_s, idx_lt hlt, bindO_s], hs', List.getElem_mem hlt⟩
end Go.AE.F
namespace Go.AE.F
open Go.AE
set_option maxRecDepth 100000
theorem lwSame_eq (N : Nat) (a b : List Int) (ha : a.length ≤ 9223372036854775806) (hN : a.length < N) : zB5 N a b = some (decide (a = b)) := by
  unfold zB5
  simp only [pLen_d]
  by_cases hl : a.length = b.length
  · rw [pNe_f (by omega), ifB_f]
    obtain ⟨h1, h2⟩ := eq_loop (R := Bool) (P := fun x y => some (pNe x y)) (xs := a) (ys := b) ha hl (step := zB5.l4 N) (fun i kn kx => by simp only [zB5.l4, bindO_s, pLen_d])
      (fun x _ y _ => ⟨_, rfl, by rw [pNe_d]; simp⟩) (onSum (fun _ => some true) (fun d => let x43 := d.1; some x43)) _ 0 N rfl (by omega) (by omega)
    rw [List.drop_zero, List.drop_zero] at h1 h2
    by_cases he : a = b
    · rw [decide_eq_true he]; exact h1 he
    · rw [decide_eq_false he]; exact h2 he
  · rw [pNe_t (by omega), ifB_t, decide_eq_false (fun h => hl (by rw [h]))]
end Go.AE.F
namespace Go.AE.F
open Go.AE
def Tot {A : Type} (P : A → Prop) (o : Option A) : Prop := ∃ x, o = some x ∧ P x
theorem Tot.bind {A B : Type} {P : A → Prop} {Q : B → Prop} {o : Option A} {f : A → Option B} (h : Tot P o) (k : ∀ x, P x → Tot Q (f x)) : Tot Q (bindO o f) := by
  obtain ⟨x, h1, h2⟩ := h
  rw [h1, bindO_s]; exact k x h2
theorem Tot.ite {A : Type} {P : A → Prop} {c : Bool} {a b : Option A} (h1 : c = true → Tot P a) (h2 : c = false → Tot P b) : Tot P (ifB c a b) := by
  cases c with
  | true => exact h1 rfl
  | false => exact h2 rfl
theorem Tot.both {A : Type} {P : A → Prop} {c : Bool} {a b : Option A} (h1 : Tot P a) (h2 : Tot P b) : Tot P (ifB c a b) := Tot.ite (fun _ => h1) (fun _ => h2)
theorem Tot.ret {A : Type} {P : A → Prop} {x : A} (h : P x) : Tot P (some x) := ⟨x, rfl, h⟩
theorem Tot.fit {A B : Type} {P : B → Prop} {xs ys : List A} {a : Option B} (h : xs.length + ys.length ≤ 68719476736) (h1 : Tot P a) : Tot P (ifB (pFit xs ys) a none) := by rw [pFit_t h]; exact h1
theorem nT (N : Nat) (s : SrcT) (k : Int) (hs : srcOk s) (hk : k ≤ 4611686018427387904) : Tot (fun r : Int × SrcT => srcOk r.2 ∧ 0 ≤ r.1 ∧ (k ≤ 1 → r.1 = 0) ∧ (1 < k → r.1 < k)) (zAF N s k) := by
  obtain ⟨v, s', h, h1, h2, h3, h4⟩ := n_ok N s k hs hk
  exact ⟨(v, s'), h, h1, h2, h3, h4⟩
theorem oneT (N : Nat) (s : SrcT) (k : Int) (hs : srcOk s) (hk : k ≤ 4611686018427387904) : Tot (fun r : Bool × SrcT => srcOk r.2) (zAQ N s k) := by
  obtain ⟨v, s', h, h1⟩ := one_ok N s k hs hk
  exact ⟨(v, s'), h, h1⟩
theorem idxT {A : Type} (l : List A) (i : Int) (h0 : 0 ≤ i) (h1 : i < l.length) : Tot (fun x => x ∈ l) (idx l i) := by
  obtain ⟨p, rfl⟩ : ∃ p : Nat, i = (p : Int) := ⟨i.toNat, by omega⟩
  exact ⟨_, idx_lt (by omega), List.getElem_mem _⟩
theorem point_tot (N : Nat) (s : SrcT) (hs : srcOk s) : Tot (fun r : Int × SrcT => srcOk r.2) (zBK N s) := by
  unfold zBK
  refine Tot.bind (nT N s 14 hs (by omega)) fun r h => ?_
  refine Tot.both (Tot.ret h.1) (Tot.both (Tot.ret h.1) (Tot.both ?_ (Tot.both ?_ (Tot.both ?_ (Tot.both ?_ (Tot.both ?_ ?_))))))
  · refine Tot.bind (nT N _ 5 h.1 (by omega)) fun q hq => ?_
    have := hq.2.2.2 (by omega)
    exact Tot.bind (idxT _ _ hq.2.1 (by simp; omega)) fun _ _ => Tot.bind (idxT _ _ hq.2.1 (by simp; omega)) fun _ _ => Tot.ret hq.1
  · refine Tot.bind (nT N _ 20 h.1 (by omega)) fun q hq => ?_
    have := hq.2.2.2 (by omega)
    exact Tot.bind (idxT _ _ hq.2.1 (by simp; omega)) fun _ _ => Tot.bind (idxT _ _ hq.2.1 (by simp; omega)) fun _ _ => Tot.ret hq.1
  · refine Tot.bind (nT N _ 8 h.1 (by omega)) fun q hq => ?_
    have := hq.2.2.2 (by omega)
    exact Tot.bind (idxT _ _ hq.2.1 (by simp; omega)) fun _ _ => Tot.bind (idxT _ _ hq.2.1 (by simp; omega)) fun _ _ => Tot.ret hq.1
  · refine Tot.bind (nT N _ 5 h.1 (by omega)) fun q hq => ?_
    have := hq.2.2.2 (by omega)
    exact Tot.bind (idxT _ _ hq.2.1 (by simp; omega)) fun _ _ => Tot.bind (idxT _ _ hq.2.1 (by simp; omega)) fun _ _ => Tot.ret hq.1
  · exact Tot.bind (nT N _ 10 h.1 (by omega)) fun q hq => Tot.ret hq.1
  · exact Tot.bind (nT N _ 6 h.1 (by omega)) fun q hq => Tot.ret hq.1
theorem dpoints_loop {N : Nat} {R : Type} (k : SrcT × List Int × Unit → Option R) : ∀ (m n : Nat) (s : SrcT) (out : List Int), m < n → srcOk s → out.length + m ≤ 100000 →
    ∃ s' l, loopP (zAD.l2 N) n ((m : Int), s, out, ()) k = k (s', l, ()) ∧ srcOk s' ∧ l.length ≤ out.length + m := by
  intro m
  induction m with
  | zero =>
    intro n s out hn hs ho
    obtain ⟨n, rfl⟩ := succ_of hn
    refine ⟨s, out, ?_, hs, by omega⟩
    rw [loopP_s]; unfold zAD.l2; simp only []
    rw [pGt_f (by omega), ifB_f]
  | succ m ih =>
    intro n s out hn hs ho
    obtain ⟨n, rfl⟩ := succ_of hn
    obtain ⟨⟨p, s1⟩, h1, hs1⟩ := point_tot N s hs
    have e : pSub .i64 ((m + 1 : Nat) : Int) 1 = (m : Int) := by rw [pSub_i (by omega) (by omega)]; omega
    rw [loopP_s]; unfold zAD.l2; simp only []
    rw [pGt_t (by omega), ifB_t, h1, bindO_s]
    simp only []
    rw [pFit_t (by simp; omega), ifB_t, e]
    obtain ⟨s2, l, g1, g2, g3⟩ := ih n s1 (pApp out [p]) (by omega) hs1 (by simp [pApp]; omega)
    exact ⟨s2, l, g1, g2, by simp [pApp] at g3; omega⟩
theorem dpoints_tot (N : Nat) (s : SrcT) (k : Int) (hs : srcOk s) (h0 : 0 ≤ k) (hk : k ≤ 100000) (hN : 100001 < N) : Tot (fun r : List Int × SrcT => srcOk r.2 ∧ (r.1.length : Int) ≤ k) (zAD N s k) := by
  obtain ⟨p, rfl⟩ : ∃ p : Nat, k = (p : Int) := ⟨k.toNat, by omega⟩
  unfold zAD
  obtain ⟨s', l, g1, g2, g3⟩ := dpoints_loop (N := N) (fun d =>
    let x17 := d.1;
    let x18 := d.2.1;
    some (x18, x17)) p N s [] (by omega) hs (by simp; omega)
  exact ⟨(l, s'), g1, g2, by simp at g3; show (l.length : Int) ≤ p; omega⟩
end Go.AE.F
namespace Go.AE.F
open Go.AE
set_option maxRecDepth 100000
def itemG (x : List Int) : Bool := decide (0 < x.length) && ptsG x
theorem items_loop {N : Nat} {R : Type} (hN : 301 < N) (l : List (List Int)) (hl : l.length ≤ 30) (k : Unit ⊕ (Bool × Unit) → Option R) : ∀ (m i n : Nat), l.length - i = m → i ≤ l.length → m < n →
    loopP (zAW.l4 N) n (l, (i : Int), ()) k = if (l.drop i).all itemG = true then k (.inl ()) else k (.inr (false, ())) := by
  intro m
  induction m with
  | zero =>
    intro i n hm hi hn
    obtain ⟨n, rfl⟩ := succ_of hn
    rw [loopP_s]; unfold zAW.l4; simp only [pLen_d]
    rw [pLt_f (by omega), ifB_f, List.drop_eq_nil_of_le (by omega)]
    rfl
  | succ m ih =>
    intro i n hm hi hn
    obtain ⟨n, rfl⟩ := succ_of hn
    have hlt : i < l.length := by omega
    rw [loopP_s]; unfold zAW.l4; simp only [pLen_d]
    rw [pLt_t (by omega), ifB_t]
    rw [idx_lt hlt, bindO_s, bindO_s, spec_PointsRight_eq N l[i] hN, bindO_s, ifB_or, bindO_s, drop_c hlt, List.all_cons]
    have e : (pEq (l[i].length : Int) 0 || pNot (ptsG l[i])) = !itemG l[i] := by
      unfold itemG
      rw [pNot_d, pEq_d]
      by_cases h : l[i].length = 0
      · rw [decide_eq_true (show (l[i].length : Int) = 0 by omega), decide_eq_false (show ¬ 0 < l[i].length by omega)]; rfl
      · rw [decide_eq_false (show ¬ (l[i].length : Int) = 0 by omega), decide_eq_true (show 0 < l[i].length by omega)]; simp
    rw [e]
    cases hp : itemG l[i] with
    | false => simp [ifB_t]
    | true =>
      rw [Bool.not_true, ifB_f, pAdd_i (by omega) (by omega), Bool.true_and]
      exact ih (i + 1) n (by omega) (by omega) (by omega)
theorem impl_items (N : Nat) (l : List (List Int)) (hl : l.length < N) (hb : l.length ≤ 9223372036854775806) (hx : ∀ x ∈ l, x.length < N ∧ x.length ≤ 9223372036854775806) : zCA N l = some (l.all itemG) := by
  unfold zCA zA9 zA0
  rw [pLen_d, contains_all (P := zBP N) (p := itemG) (step := fun {R} => zA0.l2 (R := R) N) hl hb (fun i kn kx => rfl) (fun x h => by
    unfold zBP zCP
    rw [impl_PointsRight_eq N x (hx x h).1 (hx x h).2, bindO_s, ifB_and, bindO_s, bindO_s, pNot_d]
    have : pGt (pLen x) 0 = decide (0 < x.length) := by rw [pLen_d, pGt_d]; congr 1; simp
    rw [this]
    rfl), bindO_s]
  simp only [pNot_d, Bool.not_not]
theorem own_loop {N : Nat} {R : Type} (l : List (List Int)) (hl : l.length ≤ 1048576) (hx : ∀ x ∈ l, x.length ≤ 68719476736) (k : List (List Int) × Unit → Option R) : ∀ (m i n : Nat), l.length - i = m → i ≤ l.length → m < n →
    loopP (zAT.l3 N) n (l, (l.length : Int), (i : Int), l.take i, ()) k = k (l, ()) := by
  intro m
  induction m with
  | zero =>
    intro i n hm hi hn
    obtain ⟨n, rfl⟩ := succ_of hn
    rw [loopP_s]; unfold zAT.l3; simp only []
    rw [pLt_f (by omega), ifB_f, List.take_of_length_le (by omega)]
  | succ m ih =>
    intro i n hm hi hn
    obtain ⟨n, rfl⟩ := succ_of hn
    have hlt : i < l.length := by omega
    rw [loopP_s]; unfold zAT.l3; simp only []
    rw [pLt_t (by omega), ifB_t, idx_lt hlt, bindO_s, clone_eq N _ (hx _ (List.getElem_mem hlt)), bindO_s, pFit_t (by simp; omega), ifB_t, pAdd_i (by omega) (by omega)]
    have e : pApp (l.take i) [l[i]] = l.take (i + 1) := by rw [List.take_succ_eq_append_getElem hlt]; rfl
    rw [e]
    exact ih (i + 1) n (by omega) (by omega) (by omega)
end Go.AE.F
