/- Plain laws of those functions. -/
import Derived.Test.YtpenpjbobpalcaaXCodeOfP6
namespace Go.AE.F
open Go.AE
abbrev MkT := List NodeT × List ByteArray × List OpT × Unit
def MP (l : List NodeT) (names : List ByteArray) (e lo hi : Nat) (r : Int × MkT) : Prop := ∃ ops : List OpT, r = ((e : Int), (l, (names, (ops, ())))) ∧ lo ≤ ops.length ∧ ops.length ≤ hi
theorem zBQ (F : Nat) (l : List NodeT) (names : List ByteArray) (ops : List OpT) (k v : Int) (h : ops.length ≤ 100000) : zAA F (l, (names, (ops, ()))) k v = some ((ops.length : Int), (l, (names, (ops ++ [(k, (v, ()))], ())))) := by
  unfold zAA
  rw [zDB (by simp; omega), ifB_t, zBK]
  have : pSub .i64 ((pApp ops [(k, (v, ()))]).length : Int) 1 = (ops.length : Int) := by
    unfold pApp
    rw [List.length_append, zE9 (by simp only [List.length_cons, List.length_nil]; omega) (by simp only [List.length_cons, List.length_nil]; omega)]
    simp
  rw [this]; rfl
theorem zD9 (F : Nat) (m : MkT) (s : ByteArray) (h : m.2.1.length ≤ 1000) (hF : m.2.1.length < F) : Tot TT (zA4 F m s) := by
  unfold zA4
  refine zBR (fun k d => ∃ i : Nat, d.1 = m ∧ d.2.2.1 = (i : Int) ∧ m.2.1.length ≤ k + i) (fun _ => True) (fun e _ => by cases e <;> exact Tot.ret trivial) ?_ F m.2.1.length _ hF ⟨0, rfl, rfl, by omega⟩
  intro k d kn kx ⟨i, h1, h2, h3⟩ hn hx
  unfold zA4.l2
  simp only [h1, h2, zBK]
  refine Tot.ite (fun hh => ?_) (fun _ => hx _ trivial)
  have hlt : i < m.2.1.length := by rw [pLt_d] at hh; have := of_decide_eq_true hh; omega
  rw [zBM hlt, zA8]
  refine Tot.both (hx _ trivial) ?_
  exact hn (k - 1) _ (by omega) ⟨i + 1, rfl, by show pAdd .i64 (i : Int) 1 = _; rw [zBI (by omega) (by omega)]; rfl, by omega⟩
theorem zDZ (F : Nat) (k : Int) : Tot TT (zB1 F k) := by
  unfold zB1
  repeat (refine Tot.both (Tot.ret trivial) ?_)
  exact Tot.ret trivial
theorem zEH (l : List NodeT) (names : List ByteArray) (d F : Nat) (n : NodeT)
    (rec' : ∀ (a e : Nat) (ops : List OpT), TreeR l d a e → e ≤ 1000 → ops.length + 4 * (e - a) ≤ 10000 → Tot (MP l names e ops.length (ops.length + 4 * (e - a))) (zA2 F (l, (names, (ops, ()))) (a : Int))) {R : Type} {Q : R → Prop} (K : Nat) (hK : n.2.2.2.1 = (K : Int)) (hK2 : K ≤ 200) (kont : Int × MkT × NodeT × Unit → Option R)
    (e lo hi : Nat) (he : e ≤ 1000) (hhi : hi ≤ 10000) (hk : ∀ ops : List OpT, lo ≤ ops.length → ops.length ≤ hi → Tot Q (kont ((e : Int), (l, (names, (ops, ()))), n, ()))) :
    ∀ (k m i a : Nat) (ops : List OpT), k + i = K → k < m → chainR (TreeR l d) k a e → lo ≤ ops.length → ops.length + 4 * (e - a) ≤ hi →
      Tot Q (loopP (zA2.l25 F (zA2 F)) m ((a : Int), (i : Int), (l, (names, (ops, ()))), n, ()) kont) := by
  intro k
  induction k with
  | zero =>
    intro m i a ops h1 h2 hc h3 h4
    obtain ⟨m, rfl⟩ := zBL h2
    have : a = e := hc
    subst this
    rw [zBJ]; unfold zA2.l25; simp only [hK]
    rw [pLt_f (by omega), ifB_f]
    exact hk ops h3 (by omega)
  | succ k ih =>
    intro m i a ops h1 h2 hc h3 h4
    obtain ⟨m, rfl⟩ := zBL h2
    obtain ⟨x, c1, c2⟩ := hc
    have hx := zBT _ _ _ c1
    have hxe := zC2 (zBT (l := l) d) _ _ _ c2
    rw [zBJ]; unfold zA2.l25; simp only [hK]
    rw [pLt_t (by omega), ifB_t]
    refine Tot.bind (rec' a x ops c1 (by omega) (by omega)) fun r hr => ?_
    obtain ⟨ops', rfl, g1, g2⟩ := hr
    rw [show pAdd .i64 (i : Int) 1 = ((i + 1 : Nat) : Int) by rw [zBI (by omega) (by omega)]; rfl]
    exact ih m (i + 1) x ops' (by omega) (by omega) c2 (by omega) (by omega)
theorem zE1 {ops : List OpT} {j : Nat} (h : j < ops.length) {l : List NodeT} {names : List ByteArray} {e : Int} {v : Int} {lo hi : Nat} {E : Nat} (he : e = (E : Int)) (h1 : lo ≤ ops.length) (h2 : ops.length ≤ hi) :
    Tot (MP l names E lo hi) (bindO (idx ops (j : Int)) fun y76 => bindO (idx ops (j : Int)) fun y77 => some (e, (l, (names, ((pSet ops (j : Int) (y77.1, (v, y77.2.2))), ()))))) := by
  rw [zBM h, zA8, zA8]
  exact Tot.ret ⟨_, by rw [he], by simp [pSet]; omega, by simp [pSet]; omega⟩
theorem zD2 (l : List NodeT) (names : List ByteArray) (hnm : names.length ≤ 250) : ∀ (d F : Nat), 300 + d < F → ∀ (a e : Nat) (ops : List OpT), TreeR l d a e → e ≤ 1000 → ops.length + 4 * (e - a) ≤ 10000 →
    Tot (MP l names e ops.length (ops.length + 4 * (e - a))) (zA2 F (l, (names, (ops, ()))) (a : Int)) := by
  intro d
  induction d with
  | zero => intro F hF a e ops h; exact h.elim
  | succ d ih =>
    intro F hF a e ops ⟨n, hg, hok, hc⟩ he hb
    obtain ⟨F, rfl⟩ := zBL hF
    have rec' := ih F (by omega)
    show Tot _ (zA2.st F (zA2 F) (l, (names, (ops, ()))) (a : Int))
    unfold zA2.st
    have hi : idx l (a : Int) = some n := by
      unfold idx
      rw [if_pos (by omega), Int.toNat_natCast, hg]
    have hal := zC2 (zBT (l := l) d) _ _ _ hc
    obtain ⟨o1, o2, o3, o4⟩ := hok
    obtain ⟨K, hK⟩ : ∃ K : Nat, n.2.2.2.1 = (K : Int) := ⟨n.2.2.2.1.toNat, by omega⟩
    rw [hK, Int.toNat_natCast] at hc hal
    have ea : pAdd .i64 (a : Int) 1 = ((a + 1 : Nat) : Int) := by rw [zBI (by omega) (by omega)]; rfl
    simp only []
    rw [hi, zA8, zBQ F l names ops 1 0 (by omega), zA8, ea]
    simp only []
    have hl1 : (ops ++ [((1 : Int), ((0 : Int), ()))]).length = ops.length + 1 := by simp
    generalize hops1 : ops ++ [((1 : Int), ((0 : Int), ()))] = ops1 at hl1
    by_cases h3 : n.1 = 3
    · rw [pEq_t h3, ifB_t]
      rcases o3 h3 with hk | hk
      · have hK2 : K = 2 := by omega
        subst hK2
        obtain ⟨x, c1, y, c2, c3⟩ := hc
        have c3 : y = e := c3
        subst c3
        have l1 := zBT _ _ _ c1
        have l2 := zBT _ _ _ c2
        refine Tot.bind (rec' (a + 1) x ops1 c1 (by omega) (by omega)) fun r hr => ?_
        obtain ⟨ops2, rfl, g1, g2⟩ := hr
        simp only []
        rw [zBQ F l names ops2 12 0 (by omega), zA8]
        simp only []
        have hl2 : (ops2 ++ [((12 : Int), ((0 : Int), ()))]).length = ops2.length + 1 := by simp
        refine Tot.bind (rec' x y (ops2 ++ [((12 : Int), ((0 : Int), ()))]) c2 (by omega) (by omega)) fun r hr => ?_
        obtain ⟨ops3, rfl, g3, g4⟩ := hr
        rw [pEq_f (show n.2.2.2.1 ≠ 3 by omega), ifB_f]
        unfold zAL
        rw [zA8]
        simp only []
        exact zE1 (by omega) rfl (by omega) (by omega)
      · have hK3 : K = 3 := by omega
        subst hK3
        obtain ⟨x, c1, y, c2, z, c3, c4⟩ := hc
        have c4 : z = e := c4
        subst c4
        have l1 := zBT _ _ _ c1
        have l2 := zBT _ _ _ c2
        have l3 := zBT _ _ _ c3
        refine Tot.bind (rec' (a + 1) x ops1 c1 (by omega) (by omega)) fun r hr => ?_
        obtain ⟨ops2, rfl, g1, g2⟩ := hr
        simp only []
        rw [zBQ F l names ops2 12 0 (by omega), zA8]
        simp only []
        have hl2 : (ops2 ++ [((12 : Int), ((0 : Int), ()))]).length = ops2.length + 1 := by simp
        refine Tot.bind (rec' x y (ops2 ++ [((12 : Int), ((0 : Int), ()))]) c2 (by omega) (by omega)) fun r hr => ?_
        obtain ⟨ops3, rfl, g3, g4⟩ := hr
        rw [pEq_t hk, ifB_t]
        simp only []
        rw [zBQ F l names ops3 11 0 (by omega), zA8]
        unfold zAL
        rw [zA8]
        simp only []
        have hl3 : (ops3 ++ [((11 : Int), ((0 : Int), ()))]).length = ops3.length + 1 := by simp
        generalize ops3 ++ [((11 : Int), ((0 : Int), ()))] = ops4 at hl3
        rw [zBM (show ops2.length < ops4.length by omega), zA8, zA8]
        have hl4 : ∀ w : OpT, (pSet ops4 (ops2.length : Int) w).length = ops4.length := fun w => by simp [pSet]
        refine Tot.bind (rec' y z (pSet ops4 (ops2.length : Int) _) c3 (by omega) (by rw [hl4]; omega)) fun r hr => ?_
        obtain ⟨ops5, rfl, g5, g6⟩ := hr
        rw [hl4] at g5 g6
        rw [zA8]
        simp only []
        exact zE1 (by omega) rfl (by omega) (by omega)
    rw [pEq_f h3, ifB_f]
    by_cases h4 : n.1 = 4
    · rw [pEq_t h4, ifB_t]
      have hk := o4 h4
      have hK2 : K = 2 := by omega
      subst hK2
      obtain ⟨x, c1, y, c2, c3⟩ := hc
      have c3 : y = e := c3
      subst c3
      have l1 := zBT _ _ _ c1
      have l2 := zBT _ _ _ c2
      unfold zAL
      rw [zA8]
      refine Tot.bind (rec' (a + 1) x ops1 c1 (by omega) (by omega)) fun r hr => ?_
      obtain ⟨ops2, rfl, g1, g2⟩ := hr
      simp only []
      rw [zBQ F l names ops2 12 0 (by omega), zA8]
      simp only []
      have hl2 : (ops2 ++ [((12 : Int), ((0 : Int), ()))]).length = ops2.length + 1 := by simp
      refine Tot.bind (rec' x y (ops2 ++ [((12 : Int), ((0 : Int), ()))]) c2 (by omega) (by omega)) fun r hr => ?_
      obtain ⟨ops3, rfl, g3, g4⟩ := hr
      simp only []
      rw [zBQ F l names ops3 11 _ (by omega), zA8, zA8]
      simp only []
      have hl3 : ∀ w : Int, (ops3 ++ [((11 : Int), (w, ()))]).length = ops3.length + 1 := fun w => by simp
      exact zE1 (by rw [hl3]; omega) rfl (by rw [hl3]; omega) (by rw [hl3]; omega)
    rw [pEq_f h4, ifB_f]
    have kl := zEH l names d F n rec' (Q := MP l names e ops.length (ops.length + 4 * (e - a))) K hK (by omega)
    refine kl _ e (ops.length + 1) (ops.length + 4 * (e - a) - 1) he (by omega) (fun ops' w1 w2 => ?_) K F 0 (a + 1) ops1 rfl (by omega) hc (by omega) (by omega)
    simp only []
    have fin : ∀ (k v : Int), Tot (MP l names e ops.length (ops.length + 4 * (e - a))) (bindO (bindO (zAA F (l, (names, (ops', ()))) k v) fun y => some (((e : Int), y.2, ()) : Int × MkT × Unit)) fun d => some (d.1, d.2.1)) := fun k v => by
      rw [zBQ F l names ops' k v (by omega), zA8, zA8]
      exact Tot.ret ⟨_, rfl, by simp; omega, by simp; omega⟩
    have pre : ∀ {o : Option Int} (k : Int), Tot TT o → Tot (MP l names e ops.length (ops.length + 4 * (e - a))) (bindO (bindO o fun v => bindO (zAA F (l, (names, (ops', ()))) k v) fun y => some (((e : Int), y.2, ()) : Int × MkT × Unit)) fun d => some (d.1, d.2.1)) := fun k ho => by
      obtain ⟨v, rfl, _⟩ := ho
      exact fin k v
    by_cases k2 : n.1 = 2
    · rw [pEq_t k2, ifB_t]; exact pre 4 (zD9 F _ _ (by show names.length ≤ 1000; omega) (by show names.length < F; omega))
    rw [pEq_f k2, ifB_f]
    by_cases k12 : n.1 = 12
    · rw [pEq_t k12, ifB_t]; exact pre 3 (zD9 F _ _ (by show names.length ≤ 1000; omega) (by show names.length < F; omega))
    rw [pEq_f k12, ifB_f]
    by_cases k11 : n.1 = 11
    · rw [pEq_t k11, ifB_t]; exact fin 2 _
    rw [pEq_f k11, ifB_f]
    by_cases k10 : n.1 = 10
    · rw [pEq_t k10, ifB_t]; exact pre 18 (zCC F (by omega) _)
    rw [pEq_f k10, ifB_f]
    by_cases k18 : 18 ≤ n.1
    · rw [pGe_t (by omega), ifB_t]; exact fin 10 _
    rw [pGe_f (by omega), ifB_f]
    obtain ⟨v, hv, _⟩ := zDZ F n.1
    rw [hv, zA8]
    by_cases hv0 : pGt v 0 = true
    · rw [hv0, ifB_t, zA8]; exact fin v 0
    · have : pGt v 0 = false := by simpa using hv0
      rw [this, ifB_f, zA8]
      exact Tot.ret ⟨ops', rfl, by omega, by omega⟩
theorem zEE (N : Nat) (hN : 2000 < N) (l : List NodeT) (hl2 : l.length ≤ 1000000) : Tot (fun ops : List OpT => ops.length ≤ 1000) (zB5 N l) := by
  unfold zB5
  rw [zBK]
  by_cases h4 : 400 < l.length
  · rw [pGt_t (by omega), ifB_t, zA8, ifB_t]; exact Tot.ret (by simp)
  rw [pGt_f (by omega), ifB_f]
  obtain ⟨c, q1, q2⟩ := zE0 N hN l (by omega)
  rw [q1, zA8, zA8]
  cases c with
  | false => exact Tot.ret (by simp)
  | true =>
    obtain ⟨w1, e, w2, w3⟩ := q2 rfl
    show Tot _ (bindO (zA5 N l) fun y6 => bindO (zA2 N (l, (y6, ([], ()))) 0) fun y7 => some y7.2.2.2.1)
    obtain ⟨v, v1, v2⟩ := zDI N hN l (by omega)
    rw [v1, zA8]
    have v3 := zD2 l v (by omega) 20 N (by omega) 0 e [] w2 (by omega) (by simp; omega)
    obtain ⟨r, r1, ops, rfl, r2, r3⟩ := v3
    have r1 : zA2 N (l, (v, ([], ()))) 0 = _ := r1
    rw [r1, zA8]
    refine Tot.ret ?_
    simp only [List.length_nil] at r3
    show ops.length ≤ 1000
    omega
end Go.AE.F
namespace Go.AE.F
open Go.AE
theorem zF3 (N : Nat) : zAO N = zAA N := rfl
theorem zCZ (N : Nat) : zB6 N = zB1 N := rfl
theorem zCX (N : Nat) (m : MkT) : zAT N m = zAL N m := rfl
theorem zCW (N : Nat) (m : MkT) (hL : m.2.1.length ≤ 1000000) (s : ByteArray) {R : Type} (k : (Unit) ⊕ (Int × Unit) → Option R) :
    ∀ (n i : Nat), i ≤ m.2.1.length → m.2.1.length < n + i → loopP (zA4.l2 N) n (m, s, (i : Int), ()) k = (match kwAt (m.2.1.drop i) i s with | some j => k (.inr ((j : Int), ())) | none => k (.inl ()))
  | 0, i, h, hn => by omega
  | n + 1, i, h, hn => by
    rw [zBJ]; unfold zA4.l2
    simp only [zBK]
    by_cases hi : i < m.2.1.length
    · rw [pLt_t (by omega), ifB_t, zBM hi, zA8, zBV, List.drop_eq_getElem_cons hi]
      unfold kwAt
      by_cases e : m.2.1[i] = s
      · rw [decide_eq_true e, ifB_t, if_pos e]
      · rw [decide_eq_false e, ifB_f, if_neg e, zBI (by omega) (by omega)]
        exact zCW N m hL s k n (i + 1) (by omega) (by omega)
    · rw [pLt_f (by omega), ifB_f, List.drop_eq_nil_of_le (by omega)]; rfl
theorem zEW (N : Nat) (m : MkT) (hL : m.2.1.length ≤ 1000000) (hN : m.2.1.length < N) (s : ByteArray) : zA4 N m s = some (atI (kwAt m.2.1 0 s) 0) := by
  unfold zA4
  refine (zCW N m hL s _ N 0 (by omega) (by omega)).trans ?_
  rw [List.drop_zero]
  cases kwAt m.2.1 0 s <;> rfl
theorem zCB : ∀ (l : List ByteArray) (i : Nat) (s : ByteArray), kwAt l (i + 1) s = (kwAt l i s).map (· + 1)
  | [], _, _ => rfl
  | w :: l, i, s => by
    unfold kwAt
    split
    · rfl
    · exact zCB l (i + 1) s
theorem zD5 (N : Nat) (hN : 40 < N) (s : ByteArray) : zAZ N s = some (motionG s) := by
  unfold zAZ motionG
  rw [zDA, zA8, zC3 N _ (by decide) (by show 10 < N; omega), zA8, zCB]
  cases h : kwAt (mvL.drop 1) 0 s with
  | none => rfl
  | some j =>
    have hj : j < 1000 := by
      have q : ∀ (l : List ByteArray) (i : Nat) (j : Nat), kwAt l i s = some j → j < i + l.length := by
        intro l
        induction l with
        | nil => intro i j h; cases h
        | cons w l ih =>
          intro i j h
          unfold kwAt at h
          split at h
          · injection h with h; simp only [List.length_cons]; omega
          · have := ih (i + 1) j h; simp only [List.length_cons]; omega
      have := q _ _ _ h
      have : (mvL.drop 1).length = 10 := by decide
      omega
    show some (pAdd .i64 (j : Int) 1) = some (((j + 1 : Nat) : Int))
    rw [zBI (by omega) (by omega)]; rfl
theorem zDH {f : Nat → Nat → Option Nat} {R : Nat → Nat → Prop} (h : ∀ a i e, f a i = some e → R a e) : ∀ (k i a e : Nat), tchainG f k i a = some e → chainR R k a e
  | 0, i, a, e, q => by unfold tchainG at q; injection q
  | k + 1, i, a, e, q => by
    unfold tchainG at q
    cases hf : f a i with
    | none => rw [hf] at q; cases q
    | some m => rw [hf] at q; exact ⟨m, h a i m hf, zDH h k (i + 1) m e q⟩
theorem zDD {n : NodeT} (h1 : ownG n = true) (h2 : kidsB n = true) : nodeOk n ∧ 1 ≤ n.1 ∧ n.1 ≤ 26 := by
  have hk : 1 ≤ n.1 ∧ n.1 ≤ 26 := by
    unfold ownG at h1
    simp only [Bool.and_eq_true, decide_eq_true_eq] at h1
    exact h1.1
  have := zD3 n hk
  rw [h2] at this
  simp only [Bool.and_eq_true, decide_eq_true_eq] at this
  have h3 := lo_in n.1
  have h4 := hi_in n.1
  refine ⟨⟨by omega, by omega, fun h => ?_, fun h => ?_⟩, hk⟩
  · rw [h] at this
    have e1 : loG 3 = 2 := rfl
    have e2 : hiG 3 = 3 := rfl
    omega
  · rw [h] at this
    have e1 : loG 4 = 2 := rfl
    have e2 : hiG 4 = 2 := rfl
    omega
theorem zCN {l : List NodeT} {d a : Nat} {c : Int} {e : Nat} (h : tendG l (d + 1) a c = some e) :
    ∃ n, l[a]? = some n ∧ ownG n = true ∧ kidsB n = true ∧ tchainG (fun a i => tendG l d a (kidC n.1 i)) n.2.2.2.1.toNat 0 (a + 1) = some e := by
  unfold tendG at h
  cases hg : l[a]? with
  | none => rw [hg] at h; cases h
  | some n =>
    rw [hg] at h
    simp only at h
    split at h
    · rename_i q
      simp only [Bool.and_eq_true] at q
      exact ⟨n, rfl, q.1.1, q.1.2, h⟩
    · cases h
theorem zC6 {l : List NodeT} : ∀ (d a : Nat) (c : Int) (e : Nat), tendG l d a c = some e → TreeR l d a e
  | 0, _, _, _, h => by cases h
  | d + 1, a, c, e, h => by
    obtain ⟨n, hg, h1, h2, h3⟩ := zCN h
    exact ⟨n, hg, (zDD h1 h2).1, zDH (fun a i e h => zC6 d a _ e h) _ _ _ _ h3⟩
theorem zD8 : ∀ (l : List NodeT) (names : List ByteArray) (s : ByteArray), hasN names s = true → hasN (l.foldl addV names) s = true
  | [], _, _, h => h
  | n :: l, names, s, h => by
    refine zD8 l _ s ?_
    unfold addV
    split
    · split
      · exact h
      · unfold hasN at h ⊢
        rw [List.any_append, h]; rfl
    · exact h
theorem zDJ : ∀ (l : List NodeT) (names : List ByteArray) (n : NodeT), n ∈ l → (n.1 = 2 ∨ n.1 = 12) → hasN (l.foldl addV names) n.2.2.1 = true
  | n :: l, names, m, h, hv => by
    rcases List.mem_cons.1 h with rfl | h
    · refine zD8 l _ _ ?_
      unfold addV
      rw [if_pos hv]
      split
      · assumption
      · unfold hasN; rw [List.any_append]; simp
    · exact zDJ l _ m h hv
theorem zCP (l : List NodeT) (names : List ByteArray) (hnm : names.length ≤ 250) (d F : Nat) (hF : 300 + d < F) (n : NodeT) (K : Nat) (hK : n.2.2.2.1 = (K : Int)) (hK2 : K ≤ 200)
    (rec' : ∀ (a e : Nat) (c : Int) (ops : List OpT), tendG l d a c = some e → e ≤ 1000 → ops.length + 4 * (e - a) ≤ 10000 → zA3 F (l, (names, (ops, ()))) (a : Int) = zA2 F (l, (names, (ops, ()))) (a : Int))
    {R : Type} (kI kS : Int × MkT × NodeT × Unit → Option R) (e : Nat) (he : e ≤ 1000) :
    ∀ (k m i a : Nat) (ops : List OpT), k + i = K → k < m → tchainG (fun a i => tendG l d a (kidC n.1 i)) k i a = some e → ops.length + 4 * (e - a) ≤ 10000 →
      ∃ ops', loopP (zA3.l25 F (zA3 F)) m ((a : Int), (K : Int), (i : Int), (l, (names, (ops, ()))), n, ()) kI = kI ((e : Int), (l, (names, (ops', ()))), n, ()) ∧
        loopP (zA2.l25 F (zA2 F)) m ((a : Int), (i : Int), (l, (names, (ops, ()))), n, ()) kS = kS ((e : Int), (l, (names, (ops', ()))), n, ())
  | 0, m, i, a, ops, h1, h2, hc, h4 => by
    obtain ⟨m, rfl⟩ := zBL h2
    unfold tchainG at hc
    injection hc with hc
    subst hc
    refine ⟨ops, ?_, ?_⟩
    · rw [zBJ]; unfold zA3.l25; simp only []
      rw [pLt_f (by omega), ifB_f]
    · rw [zBJ]; unfold zA2.l25; simp only [hK]
      rw [pLt_f (by omega), ifB_f]
  | k + 1, m, i, a, ops, h1, h2, hc, h4 => by
    obtain ⟨m, rfl⟩ := zBL h2
    unfold tchainG at hc
    cases hf : tendG l d a (kidC n.1 i) with
    | none => rw [hf] at hc; cases hc
    | some x =>
      rw [hf] at hc
      have hx := zBY d a _ x hf
      have hxe := zBU (B := l.length) (fun a i e h => zBY d a _ e h) _ _ _ _ hx.2 hc
      obtain ⟨r, r1, ops', r2, r3, r4⟩ := zD2 l names hnm d F hF a x ops (zC6 d a _ x hf) (by omega) (by omega)
      subst r2
      have rI := rec' a x _ ops hf (by omega) (by omega)
      have hii : pAdd .i64 (i : Int) 1 = ((i + 1 : Nat) : Int) := by rw [zBI (by omega) (by omega)]; rfl
      obtain ⟨ops2, q1, q2⟩ := zCP l names hnm d F hF n K hK hK2 rec' kI kS e he k m (i + 1) x ops' (by omega) (by omega) hc (by omega)
      refine ⟨ops2, ?_, ?_⟩
      · rw [zBJ]; unfold zA3.l25; simp only []
        rw [pLt_t (by omega), ifB_t, rI, r1, zA8, hii]
        exact q1
      · rw [zBJ]; unfold zA2.l25; simp only [hK]
        rw [pLt_t (by omega), ifB_t, r1, zA8, hii]
        exact q2
end Go.AE.F
