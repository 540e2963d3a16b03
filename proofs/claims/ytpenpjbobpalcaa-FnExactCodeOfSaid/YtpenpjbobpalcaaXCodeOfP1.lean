/- Plain laws of those functions. -/
import Derived.Test.YtpenpjbobpalcaaXCodeOfF4
import Derived.IntWalk
namespace Go.AE
theorem ifB_t {R : Type} {a b : Option R} : ifB true a b = a := rfl
theorem ifB_f {R : Type} {a b : Option R} : ifB false a b = b := rfl
theorem zA8 {A R : Type} {x : A} {f : A → Option R} : bindO (some x) f = f x := rfl
theorem zBJ {D E R : Type} {step : D → (D → Option R) → (E → Option R) → Option R} {n : Nat} {d : D} {k : E → Option R} : loopP step (n + 1) d k = step d (fun d' => loopP step n d' k) k := rfl
theorem zCJ {n : Int} (h1 : -9223372036854775808 ≤ n) (h2 : n ≤ 9223372036854775807) : IntKind.i64.wrap n = n := IntWalk.i64_in n ⟨h1, h2⟩
theorem zBI {a b : Int} (h1 : -9223372036854775808 ≤ a + b) (h2 : a + b ≤ 9223372036854775807) : pAdd .i64 a b = a + b := zCJ h1 h2
theorem zE9 {a b : Int} (h1 : -9223372036854775808 ≤ a - b) (h2 : a - b ≤ 9223372036854775807) : pSub .i64 a b = a - b := zCJ h1 h2
theorem pLt_t {a b : Int} (h : a < b) : pLt a b = true := decide_eq_true h
theorem pLt_f {a b : Int} (h : b ≤ a) : pLt a b = false := decide_eq_false (by omega)
theorem pLe_t {a b : Int} (h : a ≤ b) : pLe a b = true := decide_eq_true h
theorem pGt_t {a b : Int} (h : b < a) : pGt a b = true := decide_eq_true h
theorem pGt_f {a b : Int} (h : a ≤ b) : pGt a b = false := decide_eq_false (by omega)
theorem pGe_t {a b : Int} (h : b ≤ a) : pGe a b = true := decide_eq_true h
theorem pGe_f {a b : Int} (h : a < b) : pGe a b = false := decide_eq_false (by omega)
theorem pEq_t {a b : Int} (h : a = b) : pEq a b = true := by subst h; simp [pEq]
theorem pEq_f {a b : Int} (h : a ≠ b) : pEq a b = false := by simp [pEq, h]
theorem pNe_t {a b : Int} (h : a ≠ b) : pNe a b = true := by simp [pNe, h]
theorem pNe_f {a b : Int} (h : a = b) : pNe a b = false := by subst h; simp [pNe]
theorem zDB {A : Type} {xs ys : List A} (h : xs.length + ys.length ≤ 68719476736) : pFit xs ys = true := decide_eq_true h
theorem idx_n {A : Type} (xs : List A) (i : Nat) : idx xs (i : Int) = xs[i]? := by
  unfold idx; rw [if_pos (by omega)]; rfl
theorem zBM {A : Type} {xs : List A} {i : Nat} (h : i < xs.length) : idx xs (i : Int) = some xs[i] := by rw [idx_n]; simp [h]
theorem zCH {s : ByteArray} {i : Nat} (h : i < s.data.toList.length) : bidx s (i : Int) = some ((s.data.toList[i]).toNat : Int) := by
  have h2 : i < s.data.size := by simpa using h
  unfold bidx
  rw [if_pos (by omega)]
  have e : s.data[((i : Nat) : Int).toNat]? = some (s.data.toList[i]) := by
    rw [Int.toNat_natCast, ← Array.getElem?_toList, List.getElem?_eq_getElem h]
  rw [e]; rfl
theorem zF2 (s : ByteArray) : pSize s = (s.data.toList.length : Int) := by
  show ((s.size : Nat) : Int) = _
  rw [ByteArray.size, Array.length_toList]
theorem zC7 (a : ByteArray) : pSEq a a = true := by unfold pSEq; exact beq_self_eq_true _
end Go.AE
namespace Go.AE
theorem zC0 {c d : Bool} : ifB c (some true) (some d) = some (c || d) := by cases c <;> rfl
theorem zBN {c d : Bool} : ifB c (some d) (some false) = some (c && d) := by cases c <;> rfl
theorem zEK {A : Type} {c : Bool} {a b : A} : ifB c (some a) (some b) = some (if c = true then a else b) := by cases c <;> rfl
theorem zBS {b : Bool} : pNot b = !b := rfl
theorem pGe_d {a b : Int} : pGe a b = decide (a ≥ b) := rfl
theorem pGt_d {a b : Int} : pGt a b = decide (a > b) := rfl
theorem pLe_d {a b : Int} : pLe a b = decide (a ≤ b) := rfl
theorem pLt_d {a b : Int} : pLt a b = decide (a < b) := rfl
theorem pEq_d {a b : Int} : pEq a b = decide (a = b) := by
  by_cases h : a = b
  · rw [pEq_t h, decide_eq_true h]
  · rw [pEq_f h, decide_eq_false h]
theorem pNe_d {a b : Int} : pNe a b = !decide (a = b) := by
  by_cases h : a = b
  · rw [pNe_f h, decide_eq_true h]; rfl
  · rw [pNe_t h, decide_eq_false h]; rfl
theorem zBK {A : Type} {xs : List A} : pLen xs = (xs.length : Int) := rfl
theorem zBL {m N : Nat} (h : m < N) : ∃ q, N = q + 1 := ⟨N - 1, by omega⟩
theorem zES {A : Type} {l : List A} {i : Nat} (h : i < l.length) : l.drop i = l[i] :: l.drop (i + 1) := List.drop_eq_getElem_cons h
theorem zE4 {A R : Type} {P : A → Option A} {f : A → A} {xs : List A} (hx : xs.length ≤ 9223372036854775806) {step : List A × Int × List A × Unit → (List A × Int × List A × Unit → Option R) → (List A × Unit → Option R) → Option R}
    (hs : ∀ i out kn kx, step (xs, i, out, ()) kn kx = ifB (pLt i xs.length) (bindO (idx xs i) fun y => bindO (P y) fun z => bindO (idx out i) fun _ => bindO (idx out i) fun _ => kn (xs, pAdd .i64 i 1, pSet out i z, ())) (kx (out, ())))
    (hP : ∀ x ∈ xs, P x = some (f x)) (k : List A × Unit → Option R) : ∀ (m i n : Nat) (out : List A), xs.length - i = m → i ≤ xs.length → m < n → out.length = xs.length → out.take i = (xs.map f).take i →
    loopP step n (xs, (i : Int), out, ()) k = k (xs.map f, ()) := by
  intro m
  induction m with
  | zero =>
    intro i n out hm hi hn ho ht
    obtain ⟨n, rfl⟩ := zBL hn
    have e : out = xs.map f := by
      rw [List.take_of_length_le (by omega), List.take_of_length_le (by simp; omega)] at ht
      exact ht
    rw [zBJ, hs, pLt_f (by omega), ifB_f, e]
  | succ m ih =>
    intro i n out hm hi hn ho ht
    obtain ⟨n, rfl⟩ := zBL hn
    have hlt : i < xs.length := by omega
    rw [zBJ, hs, pLt_t (by omega), ifB_t, zBM hlt, zA8, hP _ (List.getElem_mem hlt), zA8, zBM (by omega : i < out.length), zA8, zA8, zBI (by omega) (by omega)]
    refine ih (i + 1) n (pSet out (i : Int) (f xs[i])) (by omega) (by omega) (by omega) (by simp [pSet, ho]) ?_
    rw [List.take_succ_eq_append_getElem (by simp [pSet]; omega), List.take_succ_eq_append_getElem (by simp; omega)]
    congr 1
    · rw [← ht]; simp [pSet, List.take_set_of_le]
    · simp [pSet]
theorem zF9 {A R : Type} {P : A → A → Option Bool} {xs ys : List A} (hx : xs.length ≤ 9223372036854775806) (hl : xs.length = ys.length) {step : List A × List A × Int × Unit → (List A × List A × Int × Unit → Option R) → (Unit ⊕ (Bool × Unit) → Option R) → Option R}
    (hs : ∀ i kn kx, step (xs, ys, i, ()) kn kx = ifB (pLt i xs.length) (bindO (idx xs i) fun x => bindO (idx ys i) fun y => bindO (P x y) fun b => ifB b (kx (.inr (false, ()))) (kn (xs, ys, pAdd .i64 i 1, ()))) (kx (.inl ())))
    (hP : ∀ x ∈ xs, ∀ y ∈ ys, ∃ b, P x y = some b ∧ (b = true ↔ x ≠ y)) (k : Unit ⊕ (Bool × Unit) → Option R) : ∀ (m i n : Nat), xs.length - i = m → i ≤ xs.length → m < n →
    (xs.drop i = ys.drop i → loopP step n (xs, ys, (i : Int), ()) k = k (.inl ())) ∧ (xs.drop i ≠ ys.drop i → loopP step n (xs, ys, (i : Int), ()) k = k (.inr (false, ()))) := by
  intro m
  induction m with
  | zero =>
    intro i n hm hi hn
    obtain ⟨n, rfl⟩ := zBL hn
    rw [zBJ, hs, pLt_f (by omega), ifB_f, List.drop_eq_nil_of_le (by omega), List.drop_eq_nil_of_le (by omega)]
    exact ⟨fun _ => rfl, fun h => absurd rfl h⟩
  | succ m ih =>
    intro i n hm hi hn
    obtain ⟨n, rfl⟩ := zBL hn
    have hlt : i < xs.length := by omega
    have hlt2 : i < ys.length := by omega
    obtain ⟨b, hb, hbe⟩ := hP _ (List.getElem_mem hlt) _ (List.getElem_mem hlt2)
    rw [zBJ, hs, pLt_t (by omega), ifB_t, zBM hlt, zA8, zBM hlt2, zA8, hb, zA8, zES hlt, zES hlt2, List.cons.injEq]
    obtain ⟨i1, i2⟩ := ih (i + 1) n (by omega) (by omega) (by omega)
    cases b with
    | true =>
      have := hbe.1 rfl
      exact ⟨fun h => absurd h.1 this, fun _ => by rw [ifB_t]⟩
    | false =>
      have he : xs[i] = ys[i] := Classical.byContradiction fun h => by cases hbe.2 h
      rw [ifB_f, zBI (by omega) (by omega)]
      exact ⟨fun h => i1 h.2, fun h => i2 fun q => h (by rw [he, q])⟩
end Go.AE
namespace Go.AE.F
open Go.AE
theorem zEG {A : Type} (n : Nat) (x : A) : (pRepl (n : Int) x).length = n := by simp [pRepl]
end Go.AE.F
namespace Go.AE.F
open Go.AE
theorem zBO (N : Nat) (a b c : Int) : zAR N a b c = some (decide (b ≤ a) && decide (a ≤ c)) := by
  unfold zAR
  simp only [zBN, zA8, pLe_d]
end Go.AE.F
namespace Go.AE.F
open Go.AE
abbrev OpT := Int × Int × Unit
end Go.AE.F
namespace Go.AE.F
open Go.AE
theorem zDU (N : Nat) (l : List OpT) (hl : l.length ≤ 9223372036854775806) (hN : l.length < N) : zAM N l l = some true := by
  unfold zAM
  simp only [zBK]
  rw [pNe_f rfl, ifB_f]
  obtain ⟨h1, _⟩ := zF9 (R := Bool) (P := fun x y => bindO (zBH N x y) fun b => some (pNot b)) (xs := l) (ys := l) hl rfl (step := zAM.l4 N) (fun i kn kx => by
      simp only [zAM.l4, zBK]
      congr 1; congr 1; funext x; congr 1; funext y
      cases zBH N x y <;> rfl)
    (fun x _ y _ => by
      unfold zBH
      by_cases e1 : x.1 = y.1
      · by_cases e2 : x.2.1 = y.2.1
        · refine ⟨false, by rw [pNe_f e1, ifB_f, pNe_f e2, ifB_f]; rfl, ?_⟩
          have : x = y := by
            obtain ⟨a, b, c⟩ := x
            obtain ⟨a', b', c'⟩ := y
            simp only at e1 e2
            subst e1 e2
            rfl
          simp [this]
        · refine ⟨true, by rw [pNe_f e1, ifB_f, pNe_t e2, ifB_t]; rfl, ?_⟩
          simp only [true_iff]
          intro q; exact e2 (by rw [q])
      · refine ⟨true, by rw [pNe_t e1, ifB_t]; rfl, ?_⟩
        simp only [true_iff]
        intro q; exact e1 (by rw [q])) (onSum (fun _ => some true) (fun d => let x55 := d.1; some x55)) _ 0 N rfl (by omega) (by omega)
  exact h1 rfl
end Go.AE.F
namespace Go.AE.F
open Go.AE
def Tot {A : Type} (P : A → Prop) (o : Option A) : Prop := ∃ x, o = some x ∧ P x
theorem Tot.bind {A B : Type} {P : A → Prop} {Q : B → Prop} {o : Option A} {f : A → Option B} (h : Tot P o) (k : ∀ x, P x → Tot Q (f x)) : Tot Q (bindO o f) := by
  obtain ⟨x, h1, h2⟩ := h
  rw [h1, zA8]; exact k x h2
theorem Tot.ite {A : Type} {P : A → Prop} {c : Bool} {a b : Option A} (h1 : c = true → Tot P a) (h2 : c = false → Tot P b) : Tot P (ifB c a b) := by
  cases c with
  | true => exact h1 rfl
  | false => exact h2 rfl
theorem Tot.both {A : Type} {P : A → Prop} {c : Bool} {a b : Option A} (h1 : Tot P a) (h2 : Tot P b) : Tot P (ifB c a b) := Tot.ite (fun _ => h1) (fun _ => h2)
theorem Tot.ret {A : Type} {P : A → Prop} {x : A} (h : P x) : Tot P (some x) := ⟨x, rfl, h⟩
theorem Tot.fit {A B : Type} {P : B → Prop} {xs ys : List A} {a : Option B} (h : xs.length + ys.length ≤ 68719476736) (h1 : Tot P a) : Tot P (ifB (pFit xs ys) a none) := by rw [zDB h]; exact h1
theorem idxT {A : Type} (l : List A) (i : Int) (h0 : 0 ≤ i) (h1 : i < l.length) : Tot (fun x => x ∈ l) (idx l i) := by
  obtain ⟨p, rfl⟩ : ∃ p : Nat, i = (p : Int) := ⟨i.toNat, by omega⟩
  exact ⟨_, zBM (by omega), List.getElem_mem _⟩
theorem zD4 (s : ByteArray) (i : Nat) (h : i < s.size) : Tot (fun b => 0 ≤ b ∧ b < 256) (bidx s (i : Int)) := by
  have hl : i < s.data.toList.length := by rw [Array.length_toList]; exact h
  exact ⟨_, zCH hl, by omega, by have := (s.data.toList[i]).toNat_lt; omega⟩
end Go.AE.F
namespace Go.AE.F
open Go.AE
theorem zBR {D E R : Type} {step : D → (D → Option R) → (E → Option R) → Option R} {k : E → Option R} {Q : R → Prop} (I : Nat → D → Prop) (X : E → Prop)
    (hk : ∀ e, X e → Tot Q (k e))
    (hs : ∀ m d (kn : D → Option R) (kx : E → Option R), I m d → (∀ m' d', m' < m → I m' d' → Tot Q (kn d')) → (∀ e, X e → Tot Q (kx e)) → Tot Q (step d kn kx)) :
    ∀ (n m : Nat) (d : D), m < n → I m d → Tot Q (loopP step n d k)
  | 0, m, d, h, _ => absurd h (Nat.not_lt_zero _)
  | n + 1, m, d, h, hi => by
    rw [zBJ]
    exact hs m d _ _ hi (fun m' d' hm' hi' => zBR I X hk hs n m' d' (by omega) hi') hk
theorem zCD (s : ByteArray) : ∀ (n i : Nat) (r : List UInt8), s.size - i = n → (ByteArray.toList.loop s i r).length = r.length + n
  | 0, i, r, h => by
    rw [ByteArray.toList.loop, if_neg (by omega), List.length_reverse]; rfl
  | n + 1, i, r, h => by
    rw [ByteArray.toList.loop, if_pos (by omega), zCD s n (i + 1) _ (by omega), List.length_cons]; omega
theorem zDG {a b : ByteArray} (h : a.size ≠ b.size) : pSEq a b = false := by
  unfold pSEq
  rw [beq_eq_false_iff_ne]
  intro e
  have e2 := congrArg List.length e
  unfold ByteArray.toList at e2
  rw [zCD a a.size 0 [] (by omega), zCD b b.size 0 [] (by omega)] at e2
  simp only [List.length_nil] at e2
  omega
abbrev NodeT := Int × Int × ByteArray × Int × Unit
def TT {A : Type} : A → Prop := fun _ => True
theorem zCC (N : Nat) (hN : 20 < N) (s : ByteArray) : Tot TT (zA9 N s) := by
  unfold zA9 zAS
  rw [zA8]
  refine zBR (fun m d => ∃ i : Nat, d.2.1 = (i : Int) ∧ d.2.2.1.length = 11 ∧ 11 ≤ m + i) (fun _ => True) (fun e _ => ?_) (fun m d kn kx ⟨i, h1, h2, h3⟩ hn hx => ?_) N 10 _ (by omega) ⟨1, rfl, rfl, by omega⟩
  · cases e <;> exact Tot.ret trivial
  · unfold zA9.l3
    simp only [h1, zBK, h2]
    refine Tot.ite (fun h => ?_) (fun _ => hx _ trivial)
    have hlt : (i : Int) < 11 := by rw [pLt_d] at h; exact of_decide_eq_true h
    refine Tot.bind (idxT d.2.2.1 (i : Int) (by omega) (by omega)) fun x _ => Tot.bind (idxT d.2.2.1 (i : Int) (by omega) (by omega)) fun y _ => ?_
    refine Tot.both (hx _ trivial) ?_
    exact hn (m - 1) _ (by omega) ⟨i + 1, by show pAdd .i64 (i : Int) 1 = _; rw [zBI (by omega) (by omega)]; rfl, h2, by omega⟩
theorem zEP (N : Nat) (hN : 40 < N) (s : ByteArray) : Tot TT (zAF N s) := by
  unfold zAF zAX
  rw [zA8]
  refine zBR (fun m d => ∃ i : Nat, d.2.1 = (i : Int) ∧ d.2.2.1.length = 28 ∧ 28 ≤ m + i) (fun _ => True) (fun e _ => ?_) (fun m d kn kx ⟨i, h1, h2, h3⟩ hn hx => ?_) N 28 _ (by omega) ⟨2, rfl, rfl, by omega⟩
  · cases e <;> exact Tot.ret trivial
  · unfold zAF.l3
    simp only [h1, zBK, h2]
    refine Tot.ite (fun h => ?_) (fun _ => hx _ trivial)
    have hlt : (i : Int) < 28 := by rw [pLt_d] at h; exact of_decide_eq_true h
    refine Tot.bind (idxT d.2.2.1 (i : Int) (by omega) (by omega)) fun x _ => Tot.bind (idxT d.2.2.1 (i : Int) (by omega) (by omega)) fun y _ => ?_
    refine Tot.bind (P := TT) (Tot.both (Tot.ret trivial) (Tot.ret trivial)) fun c _ => ?_
    refine Tot.both (hx _ trivial) ?_
    exact hn (m - 1) _ (by omega) ⟨i + 1, by show pAdd .i64 (i : Int) 1 = _; rw [zBI (by omega) (by omega)]; rfl, h2, by omega⟩
theorem zDV (N : Nat) (hN : 30 < N) (s : ByteArray) : Tot (fun b => b = true → 1 ≤ s.size) (zAG N s) := by
  unfold zAG
  refine Tot.bind (P := fun c => c = false → 1 ≤ s.size ∧ s.size ≤ 20) ?_ fun c hc => ?_
  · refine Tot.ite (fun _ => Tot.ret (fun h => by cases h)) (fun h => Tot.ret fun h2 => ?_)
    rw [pLt_d] at h; rw [pGt_d] at h2
    have h := of_decide_eq_false h
    have h2 := of_decide_eq_false h2
    unfold pSize at h h2
    omega
  refine Tot.ite (fun _ => Tot.ret (fun h => by cases h)) (fun h => ?_)
  obtain ⟨a1, a2⟩ := hc h
  refine zBR (fun m d => ∃ i : Nat, d.2.1 = (i : Int) ∧ d.1 = s ∧ s.size ≤ m + i) (fun _ => True) (fun e _ => ?_) (fun m d kn kx ⟨i, h1, h2, h3⟩ hn hx => ?_) N 20 _ (by omega) ⟨0, rfl, rfl, by omega⟩
  · cases e <;> exact Tot.ret (fun _ => a1)
  · unfold zAG.l4
    simp only [h1, h2]
    refine Tot.ite (fun h => ?_) (fun _ => hx _ trivial)
    have hlt : (i : Int) < (s.size : Int) := by rw [pLt_d] at h; exact of_decide_eq_true h
    have hb := zD4 s i (by omega)
    refine Tot.bind hb fun x _ => ?_
    refine Tot.bind (P := TT) (Tot.both (Tot.bind hb fun _ _ => Tot.ret trivial) (Tot.ret trivial)) fun c _ => ?_
    refine Tot.bind (P := TT) (Tot.both (Tot.ret trivial) (Tot.bind hb fun _ _ => Tot.ret trivial)) fun c _ => ?_
    refine Tot.both (hx _ trivial) ?_
    exact hn (m - 1) _ (by omega) ⟨i + 1, by show pAdd .i64 (i : Int) 1 = _; rw [zBI (by omega) (by omega)]; rfl, rfl, by omega⟩
theorem zDF (N : Nat) (hN : 40 < N) (s : ByteArray) : Tot TT (zB0 N s) := by
  unfold zB0
  refine Tot.bind (zDV N (by omega) s) fun b hb => ?_
  refine Tot.bind (P := TT) (Tot.ite (fun h => Tot.bind (zD4 s 0 (hb h)) fun _ _ => Tot.ret trivial) (fun _ => Tot.ret trivial)) fun c _ => ?_
  refine Tot.bind (P := TT) (Tot.both (Tot.bind (zEP N hN s) fun _ _ => Tot.ret trivial) (Tot.ret trivial)) fun c _ => ?_
  exact Tot.ret trivial
theorem zF1 (N : Nat) (hN : 40 < N) (n : NodeT) : Tot TT (zB7 N n) := by
  unfold zB7
  have q : ∀ {o : Option Bool}, Tot TT o → Tot TT (bindO o fun y => some y) := fun h => Tot.bind h fun _ _ => Tot.ret trivial
  refine Tot.bind (P := TT) (Tot.both (Tot.ret trivial) (Tot.ret trivial)) fun c _ => Tot.both (Tot.ret trivial) ?_
  refine Tot.both ?_ (Tot.both ?_ (Tot.both ?_ (Tot.both ?_ ?_)))
  · refine Tot.bind (P := TT) (Tot.both (Tot.ret trivial) (Tot.ret trivial)) fun c _ => ?_
    exact q (Tot.both (Tot.ret trivial) (Tot.ret trivial))
  · exact q (Tot.both (q (zDF N hN _)) (Tot.ret trivial))
  · exact q (Tot.both (q (zDF N hN _)) (Tot.ret trivial))
  · exact q (Tot.both (Tot.bind (zCC N (by omega) _) fun _ _ => Tot.ret trivial) (Tot.ret trivial))
  · exact q (Tot.both (Tot.ret trivial) (Tot.ret trivial))
def chainR (R : Nat → Nat → Prop) : Nat → Nat → Nat → Prop
  | 0, a, e => a = e
  | k + 1, a, e => ∃ m, R a m ∧ chainR R k m e
theorem zC8 {R : Nat → Nat → Prop} : ∀ (k : Nat) {a m e : Nat}, chainR R k a m → R m e → chainR R (k + 1) a e
  | 0, a, m, e, h, h2 => by
    have : a = m := h
    subst this
    exact ⟨e, h2, rfl⟩
  | k + 1, a, m, e, ⟨x, h1, h3⟩, h2 => ⟨x, h1, zC8 k h3 h2⟩
def nodeOk (n : NodeT) : Prop := 0 ≤ n.2.2.2.1 ∧ n.2.2.2.1 ≤ 200 ∧ (n.1 = 3 → n.2.2.2.1 = 2 ∨ n.2.2.2.1 = 3) ∧ (n.1 = 4 → n.2.2.2.1 = 2)
def TreeR (l : List NodeT) : Nat → Nat → Nat → Prop
  | 0, _, _ => False
  | d + 1, at', e => ∃ n, l[at']? = some n ∧ nodeOk n ∧ chainR (TreeR l d) n.2.2.2.1.toNat (at' + 1) e
theorem zC2 {R : Nat → Nat → Prop} (h : ∀ a e, R a e → a < e) : ∀ (k a e : Nat), chainR R k a e → a + k ≤ e
  | 0, a, e, h1 => by have : a = e := h1; omega
  | k + 1, a, e, ⟨m, h1, h2⟩ => by have := h a m h1; have := zC2 h k m e h2; omega
theorem zBT {l : List NodeT} : ∀ (d a e : Nat), TreeR l d a e → a < e
  | 0, _, _, h => h.elim
  | d + 1, a, e, ⟨n, _, _, h⟩ => by have := zC2 (zBT (l := l) d) _ _ _ h; omega
theorem zCF (N : Nat) (n : NodeT) : ∃ s, zB4 N n = some s ∧ s.size ≤ 200 ∧ (n.1 = 3 → ((n.2.2.2.1 = 3 ∧ s.size = 3) ∨ s.size = 2)) ∧ (n.1 = 4 → s.size = 2) := by
  unfold zB4
  by_cases h3 : n.1 = 3
  · rw [h3]
    by_cases hk : n.2.2.2.1 = 3
    · rw [hk]; exact ⟨(ByteArray.mk #[101, 98, 98]), rfl, by decide, fun _ => .inl ⟨rfl, by decide⟩, fun h => by omega⟩
    · have : pEq n.2.2.2.1 3 = false := pEq_f hk
      rw [this]; exact ⟨(ByteArray.mk #[101, 98]), rfl, by decide, fun _ => .inr (by decide), fun h => by omega⟩
  by_cases h4 : n.1 = 4
  · rw [h4]; exact ⟨(ByteArray.mk #[101, 98]), rfl, by decide, fun h => by omega, fun _ => by decide⟩
  rw [pEq_f h3, pEq_f h4, ifB_f, ifB_f]
  have q : Tot (fun s : ByteArray => s.size ≤ 200) (
    ifB (pEq n.1 1) (
    some (ByteArray.mk #[42])) (
    ifB (pEq n.1 2) (
      some (ByteArray.mk #[101])) (
      ifB (pEq n.1 5) (
        some (ByteArray.mk #[101])) (
        ifB (pEq n.1 7) (
          some (ByteArray.mk #[101])) (
          ifB (pEq n.1 8) (
            some (ByteArray.mk #[101])) (
            ifB (pEq n.1 16) (
              some (ByteArray.mk #[101])) (
              ifB (pEq n.1 17) (
                some (ByteArray.mk #[101])) (
                    ifB (pEq n.1 6) (
                      some (ByteArray.mk #[101, 101])) (
                      ifB (pEq n.1 9) (
                        some (ByteArray.mk #[])) (
                        ifB (pEq n.1 10) (
                          some (ByteArray.mk #[])) (
                          ifB (pEq n.1 11) (
                            some (ByteArray.mk #[])) (
                            ifB (pEq n.1 12) (
                              some (ByteArray.mk #[])) (
                              ifB (pEq n.1 13) (
                                some (ByteArray.mk #[])) (
                                ifB (pEq n.1 14) (
                                  some (ByteArray.mk #[])) (
                                  ifB (pEq n.1 15) (
                                    some (ByteArray.mk #[])) (
                                    some (ByteArray.mk #[101, 101]))))))))))))))))) := by
    repeat (refine Tot.both (Tot.ret (by decide)) ?_)
    exact Tot.ret (by decide)
  obtain ⟨s, q1, q2⟩ := q
  exact ⟨s, q1, q2, fun h => absurd h h3, fun h => absurd h h4⟩
end Go.AE.F
