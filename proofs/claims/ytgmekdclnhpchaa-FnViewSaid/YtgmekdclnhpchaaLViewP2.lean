/- Plain laws of those functions. -/
import Derived.Test.YtgmekdclnhpchaaLViewP1
namespace Go.AE.F
open Go.AE
def Tot {A : Type} (P : A → Prop) (o : Option A) : Prop := ∃ x, o = some x ∧ P x
theorem Tot.bind {A B : Type} {P : A → Prop} {Q : B → Prop} {o : Option A} {f : A → Option B} (h : Tot P o) (k : ∀ x, P x → Tot Q (f x)) : Tot Q (bindO o f) := by
  obtain ⟨x, h1, h2⟩ := h
  rw [h1, bindO_s]; exact k x h2
theorem Tot.ite {A : Type} {P : A → Prop} {c : Bool} {a b : Option A} (h1 : c = true → Tot P a) (h2 : c = false → Tot P b) : Tot P (ifB c a b) := by
  cases c with
  | true => exact h1 rfl
  | false => exact h2 rfl
theorem Tot.both {A : Type} {P : A → Prop} {c : Bool} {a b : Option A} (h1 : Tot P a) (h2 : Tot P b) : Tot P (ifB c a b) := Tot.ite (fun _ => h1) (fun _ => h2)
theorem Tot.ret {A : Type} {P : A → Prop} {x : A} (h : P x) : Tot P (some x) := ⟨x, rfl, h⟩
theorem Tot.fit {A B : Type} {P : B → Prop} {xs ys : List A} {a : Option B} (h : xs.length + ys.length ≤ 68719476736) (h1 : Tot P a) : Tot P (ifB (pFit xs ys) a none) := by rw [pFit_t h]; exact h1
theorem nT (N : Nat) (s : SrcT) (k : Int) (hs : srcOk s) (hk : k ≤ 4611686018427387904) : Tot (fun r : Int × SrcT => srcOk r.2 ∧ 0 ≤ r.1 ∧ (k ≤ 1 → r.1 = 0) ∧ (1 < k → r.1 < k)) (zAB N s k) := by
  obtain ⟨v, s', h, h1, h2, h3, h4⟩ := n_ok N s k hs hk
  exact ⟨(v, s'), h, h1, h2, h3, h4⟩
theorem oneT (N : Nat) (s : SrcT) (k : Int) (hs : srcOk s) (hk : k ≤ 4611686018427387904) : Tot (fun r : Bool × SrcT => srcOk r.2) (zAH N s k) := by
  obtain ⟨v, s', h, h1⟩ := one_ok N s k hs hk
  exact ⟨(v, s'), h, h1⟩
theorem idxT {A : Type} (l : List A) (i : Int) (h0 : 0 ≤ i) (h1 : i < l.length) : Tot (fun x => x ∈ l) (idx l i) := by
  obtain ⟨p, rfl⟩ : ∃ p : Nat, i = (p : Int) := ⟨i.toNat, by omega⟩
  exact ⟨_, idx_lt (by omega), List.getElem_mem _⟩
theorem point_tot (N : Nat) (s : SrcT) (hs : srcOk s) : Tot (fun r : Int × SrcT => srcOk r.2) (zB0 N s) := by
  unfold zB0
  refine Tot.bind (nT N s 14 hs (by omega)) fun r h => ?_
  refine Tot.both (Tot.ret h.1) (Tot.both (Tot.ret h.1) (Tot.both ?_ (Tot.both ?_ (Tot.both ?_ (Tot.both ?_ (Tot.both ?_ ?_))))))
  · refine Tot.bind (nT N _ 5 h.1 (by omega)) fun q hq => ?_
    have := hq.2.2.2 (by omega)
    exact Tot.bind (idxT _ _ hq.2.1 (by simp; omega)) fun _ _ => Tot.bind (idxT _ _ hq.2.1 (by simp; omega)) fun _ _ => Tot.ret hq.1
  · refine Tot.bind (nT N _ 20 h.1 (by omega)) fun q hq => ?_
    have := hq.2.2.2 (by omega)
    exact Tot.bind (idxT _ _ hq.2.1 (by simp; omega)) fun _ _ => Tot.bind (idxT _ _ hq.2.1 (by simp; omega)) fun _ _ => Tot.ret hq.1
  · refine Tot.bind (nT N _ 8 h.1 (by omega)) fun q hq => ?_
    have := hq.2.2.2 (by omega)
    exact Tot.bind (idxT _ _ hq.2.1 (by simp; omega)) fun _ _ => Tot.bind (idxT _ _ hq.2.1 (by simp; omega)) fun _ _ => Tot.ret hq.1
  · refine Tot.bind (nT N _ 5 h.1 (by omega)) fun q hq => ?_
    have := hq.2.2.2 (by omega)
    exact Tot.bind (idxT _ _ hq.2.1 (by simp; omega)) fun _ _ => Tot.bind (idxT _ _ hq.2.1 (by simp; omega)) fun _ _ => Tot.ret hq.1
  · exact Tot.bind (nT N _ 10 h.1 (by omega)) fun q hq => Tot.ret hq.1
  · exact Tot.bind (nT N _ 6 h.1 (by omega)) fun q hq => Tot.ret hq.1
theorem dpoints_loop {N : Nat} {R : Type} (k : SrcT × List Int × Unit → Option R) : ∀ (m n : Nat) (s : SrcT) (out : List Int), m < n → srcOk s → out.length + m ≤ 100000 →
    ∃ s' l, loopP (zA5.l2 N) n ((m : Int), s, out, ()) k = k (s', l, ()) ∧ srcOk s' ∧ l.length ≤ out.length + m := by
  intro m
  induction m with
  | zero =>
    intro n s out hn hs ho
    obtain ⟨n, rfl⟩ := succ_of hn
    refine ⟨s, out, ?_, hs, by omega⟩
    rw [loopP_s]; unfold zA5.l2; simp only []
    rw [pGt_f (by omega), ifB_f]
  | succ m ih =>
    intro n s out hn hs ho
    obtain ⟨n, rfl⟩ := succ_of hn
    obtain ⟨⟨p, s1⟩, h1, hs1⟩ := point_tot N s hs
    have e : pSub .i64 ((m + 1 : Nat) : Int) 1 = (m : Int) := by rw [pSub_i (by omega) (by omega)]; omega
    rw [loopP_s]; unfold zA5.l2; simp only []
    rw [pGt_t (by omega), ifB_t, h1, bindO_s]
    simp only []
    rw [pFit_t (by simp; omega), ifB_t, e]
    obtain ⟨s2, l, g1, g2, g3⟩ := ih n s1 (pApp out [p]) (by omega) hs1 (by simp [pApp]; omega)
    exact ⟨s2, l, g1, g2, by simp [pApp] at g3; omega⟩
theorem dpoints_tot (N : Nat) (s : SrcT) (k : Int) (hs : srcOk s) (h0 : 0 ≤ k) (hk : k ≤ 100000) (hN : 100001 < N) : Tot (fun r : List Int × SrcT => srcOk r.2 ∧ (r.1.length : Int) ≤ k) (zA5 N s k) := by
  obtain ⟨p, rfl⟩ : ∃ p : Nat, k = (p : Int) := ⟨k.toNat, by omega⟩
  unfold zA5
  obtain ⟨s', l, g1, g2, g3⟩ := dpoints_loop (N := N) (fun d =>
    let x17 := d.1;
    let x18 := d.2.1;
    some (x18, x17)) p N s [] (by omega) hs (by simp; omega)
  exact ⟨(l, s'), g1, g2, by simp at g3; show (l.length : Int) ≤ p; omega⟩
end Go.AE.F
namespace Go.AE.F
open Go.AE
def shortB (r : BufT × SrcT) : Prop := srcOk r.2 ∧ r.1.1.length ≤ 1000
theorem btail_tot (N : Nat) (l : List Int) (hl : l.length ≤ 400) (s : SrcT) (hs : srcOk s) : Tot shortB (
    bindO (zAB N s (pAdd Go.IntKind.i64 (pLen l) 1)) fun y40 =>
    bindO (zAB N y40.2 (pAdd Go.IntKind.i64 (pLen l) 1)) fun y41 =>
    bindO (zAH N y41.2 15) fun y42 =>
    ifB y42.1 (
      bindO (zAB N y42.2 3) fun y43 =>
      ifB (pEq y43.1 0) (
        bindO (zAB N y43.2 2) fun y44 =>
        bindO (idx ([(-1), (pAdd Go.IntKind.i64 (pLen l) 1)]) y44.1) fun y45 =>
        bindO (idx ([(-1), (pAdd Go.IntKind.i64 (pLen l) 1)]) y44.1) fun y46 =>
        some ((l, (y46, (y41.1, ()))), y44.2)) (
        ifB (pEq y43.1 1) (
          bindO (zAB N y43.2 2) fun y47 =>
          bindO (idx ([(-1), (pAdd Go.IntKind.i64 (pLen l) 1)]) y47.1) fun y48 =>
          bindO (idx ([(-1), (pAdd Go.IntKind.i64 (pLen l) 1)]) y47.1) fun y49 =>
          some ((l, (y40.1, (y49, ()))), y47.2)) (
          ifB (pFit l [55296]) (
            some (((pApp l [55296]), (y40.1, (y41.1, ()))), y43.2)) (
            none)))) (
      some ((l, (y40.1, (y41.1, ()))), y42.2))) := by
  have e : pAdd .i64 (pLen l) 1 = (l.length : Int) + 1 := by rw [pLen_d, pAdd_i (by omega) (by omega)]
  rw [e]
  refine Tot.bind (nT N s _ hs (by omega)) fun a ha => ?_
  refine Tot.bind (nT N _ _ ha.1 (by omega)) fun b hb => ?_
  refine Tot.bind (oneT N _ 15 hb.1 (by omega)) fun o ho => ?_
  have hlen : l.length ≤ 1000 := by omega
  refine Tot.both ?_ (Tot.ret ⟨ho, hlen⟩)
  refine Tot.bind (nT N _ 3 ho (by omega)) fun u hu => ?_
  refine Tot.both ?_ (Tot.both ?_ ?_)
  · refine Tot.bind (nT N _ 2 hu.1 (by omega)) fun w hw => ?_
    have hw2 := hw.2.2.2 (by omega)
    exact Tot.bind (idxT _ _ hw.2.1 (by simp; omega)) fun _ _ => Tot.bind (idxT _ _ hw.2.1 (by simp; omega)) fun _ _ => Tot.ret ⟨hw.1, hlen⟩
  · refine Tot.bind (nT N _ 2 hu.1 (by omega)) fun w hw => ?_
    have hw2 := hw.2.2.2 (by omega)
    exact Tot.bind (idxT _ _ hw.2.1 (by simp; omega)) fun _ _ => Tot.bind (idxT _ _ hw.2.1 (by simp; omega)) fun _ _ => Tot.ret ⟨hw.1, hlen⟩
  · exact Tot.fit (by simp; omega) (Tot.ret ⟨hu.1, by show (pApp l [55296]).length ≤ 1000; simp [pApp]; omega⟩)
theorem dbuf_tot (N : Nat) (hN : 100001 < N) (s : SrcT) (hs : srcOk s) : Tot shortB (zAX N s) := by
  unfold zAX
  have hz := hs.2.2.2
  have e1 : pMul .i64 2 s.2.2.2.1 = 2 * s.2.2.2.1 := wrap_i64 (by omega) (by omega)
  rw [e1, pAdd_i (a := 14) (by omega) (by omega)]
  refine Tot.bind (nT N s _ hs (by omega)) fun v hv => ?_
  have hv2 := hv.2.2.2 (by omega)
  refine Tot.bind (dpoints_tot N _ _ hv.1 hv.2.1 (by omega) hN) fun p hp => ?_
  have hpl := hp.2
  refine Tot.bind (oneT N _ 50 hp.1 (by omega)) fun o ho => ?_
  refine Tot.both ?_ ?_
  · refine Tot.bind (nT N _ 4 ho (by omega)) fun w hw => ?_
    have hw2 := hw.2.2.2 (by omega)
    have hw0 := hw.2.1
    have e2 : pAdd .i64 298 w.1 = 298 + w.1 := pAdd_i (by omega) (by omega)
    rw [e2]
    refine Tot.bind (dpoints_tot N _ _ hw.1 (by omega) (by omega) hN) fun q hq => ?_
    have hql := hq.2
    exact btail_tot N q.1 (by omega) q.2 hq.1
  · exact btail_tot N p.1 (by omega) o.2 ho
end Go.AE.F
namespace Go.AE.F
open Go.AE
theorem isPlace_eq (N : Nat) (b : BufT) (a : Int) (hb : bufG b = true) : zAT N b a = some (decide (0 ≤ a) && decide (a ≤ b.1.length)) := by
  have hl := ptsG_len (bufG_iff.1 hb).1
  unfold zAT
  rw [impl_size_eq N b.1 (by omega), bindO_s, impl_within_eq, bindO_s]
end Go.AE.F
namespace Go.AE.F
open Go.AE
theorem loop_tot {D E R : Type} {step : D → (D → Option R) → (E → Option R) → Option R} {k : E → Option R} {Q : R → Prop} (I : Nat → D → Prop) (X : E → Prop)
    (hk : ∀ e, X e → Tot Q (k e))
    (hs : ∀ m d (kn : D → Option R) (kx : E → Option R), I m d → (∀ m' d', m' < m → I m' d' → Tot Q (kn d')) → (∀ e, X e → Tot Q (kx e)) → Tot Q (step d kn kx)) :
    ∀ (n m : Nat) (d : D), m < n → I m d → Tot Q (loopP step n d k)
  | 0, m, d, h, _ => absurd h (Nat.not_lt_zero _)
  | n + 1, m, d, h, hi => by
    rw [loopP_s]
    exact hs m d _ _ hi (fun m' d' hm' hi' => loop_tot I X hk hs n m' d' (by omega) hi') hk
def TT {A : Type} : A → Prop := fun _ => True
end Go.AE.F
namespace Go.AE.F
open Go.AE
def ex : Nat → Nat
  | 0 => 1
  | a + 1 => 1 + 2 * ex a
end Go.AE.F
