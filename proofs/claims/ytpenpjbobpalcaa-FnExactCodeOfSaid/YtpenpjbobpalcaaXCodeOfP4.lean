/- Plain laws of those functions. -/
import Derived.Test.YtpenpjbobpalcaaXCodeOfP3
namespace Go.AE.F
open Go.AE
def tchainG (f : Nat → Nat → Option Nat) : Nat → Nat → Nat → Option Nat
  | 0, _, a => some a
  | k + 1, i, a => match f a i with | some m => tchainG f k (i + 1) m | none => none
def tendG (l : List NodeT) : Nat → Nat → Int → Option Nat
  | 0, _, _ => none
  | d + 1, a, c => match l[a]? with
    | none => none
    | some n => if (ownG n && kidsB n && kindOk c n.1) = true then tchainG (fun a i => tendG l d a (kidC n.1 i)) n.2.2.2.1.toNat 0 (a + 1) else none
def toI (o : Option Nat) : Int := match o with | some e => (e : Int) | none => -1
theorem zE2 (o : Option Nat) : pLt (toI o) 0 = o.isNone := by
  cases o with
  | none => rfl
  | some e => rw [pLt_d]; exact decide_eq_false (by show ¬ (e : Int) < 0; omega)
theorem zF8 (k : Int) (i : Nat) : kidC k i = 98 ∨ kidC k i = 115 ∨ kidC k i = 101 := by
  unfold kidC
  split
  · exact .inr (.inl rfl)
  · split
    · exact .inl rfl
    · exact .inr (.inr rfl)
theorem zEX (N : Nat) (k : Int) : zB3 N k = some (decide (2 ≤ k) && decide (k ≤ 10)) := by
  unfold zB3
  rw [pGe_d, pLe_d, zBN, zA8]
theorem zF5 (N : Nat) (k : Int) : zB2 N k = some (decide (11 ≤ k) && decide (k ≤ 26)) := by
  unfold zB2
  rw [pGe_d, pLe_d, zBN, zA8]
theorem zDK (l : List NodeT) (d F : Nat) (n : NodeT) (hd : d ≤ 20) (K : Nat) (hK : n.2.2.2.1 = (K : Int)) (hK2 : K ≤ 200) (hb : kidsB n = true)
    (rec' : ∀ (a : Nat) (c : Int), (c = 98 ∨ c = 115 ∨ c = 101) → zA7 F l (a : Int) c (21 - (d : Int)) = some (toI (tendG l d a c)))
    (kont : (Int × Unit) ⊕ (Int × Unit) → Option Int) :
    ∀ (k m i e : Nat), k + i = K → k < m →
      loopP (zA7.l11 F (zA7 F)) m (l, 21 - ((d + 1 : Nat) : Int), ksG n.1 n.2.2.2.1, (e : Int), (i : Int), n, ()) kont =
        (match tchainG (fun a i => tendG l d a (kidC n.1 i)) k i e with | some x => kont (.inl ((x : Int), ())) | none => kont (.inr (-1, ())))
  | 0, m, i, e, h1, h2 => by
    obtain ⟨m, rfl⟩ := zBL h2
    rw [zBJ]; unfold zA7.l11; simp only [hK]
    rw [pLt_f (by omega), ifB_f]; rfl
  | k + 1, m, i, e, h1, h2 => by
    obtain ⟨m, rfl⟩ := zBL h2
    have ih := zDK l d F n hd K hK hK2 hb rec' kont k m (i + 1)
    rw [zBJ]; unfold zA7.l11; simp only [hK]
    rw [pLt_t (by omega), ifB_t]
    have hdd : pAdd .i64 (21 - ((d + 1 : Nat) : Int)) 1 = 21 - (d : Int) := by rw [zBI (by omega) (by omega)]; omega
    have hii : pAdd .i64 (i : Int) 1 = ((i + 1 : Nat) : Int) := by rw [zBI (by omega) (by omega)]; rfl
    rw [hdd]
    have hrec := rec' e (kidC n.1 i) (zF8 _ _)
    rw [← hK]
    have key : ∀ (c : Int), c = kidC n.1 i → (bindO (A := ((List NodeT) × Int × ByteArray × Int × Int × NodeT × Unit) ⊕ (Int × Unit)) (
        bindO (zA7 F l (e : Int) c (21 - (d : Int))) fun y73 =>
          ifB (pLt y73 0) (some (.inr ((-1), ()))) (some (.inl (l, 21 - ((d + 1 : Nat) : Int), ksG n.1 n.2.2.2.1, y73, (i : Int), n, ()))))
        (onSum (fun d' => loopP (zA7.l11 F (zA7 F)) m (d'.1, d'.2.1, d'.2.2.1, d'.2.2.2.1, (pAdd .i64 d'.2.2.2.2.1 1), d'.2.2.2.2.2.1, ()) kont) (fun d' => kont (.inr (d'.1, ()))))) =
        (match tchainG (fun a i => tendG l d a (kidC n.1 i)) (k + 1) i e with | some x => kont (.inl ((x : Int), ())) | none => kont (.inr (-1, ()))) := by
      intro c hc
      subst hc
      rw [hrec, zA8, zE2]
      unfold tchainG
      cases hq : tendG l d e (kidC n.1 i) with
      | none => rfl
      | some x =>
        show loopP _ m (l, 21 - ((d + 1 : Nat) : Int), ksG n.1 n.2.2.2.1, (x : Int), (pAdd .i64 (i : Int) 1), n, ()) kont = _
        rw [hii]
        exact ih x (by omega) (by omega)
    by_cases h1' : n.1 = 1
    · have hs : ksG n.1 n.2.2.2.1 = ByteArray.mk #[42] := by unfold ksG; rw [if_pos h1']
      have hk : (115 : Int) = kidC n.1 i := by unfold kidC; rw [if_pos h1']
      rw [hs] at key ⊢
      have e0 : pNot (pSEq (ByteArray.mk #[42]) (ByteArray.mk #[42])) = false := by rw [zC7]; rfl
      rw [e0, ifB_f]
      exact key 115 hk
    · have hsz : i < (ksG n.1 n.2.2.2.1).size := by
        unfold kidsB at hb
        rw [if_neg h1'] at hb
        have := of_decide_eq_true hb
        omega
      rw [zE5 h1']
      show (bindO (ifB true _ _) _) = _
      rw [ifB_t, ks_at h1' i hsz, zA8]
      exact key _ rfl
theorem zFF (l : List NodeT) (hl : l.length ≤ 1000) : ∀ (d F a : Nat) (c : Int), 300 + d < F → d ≤ 20 → (c = 98 ∨ c = 115 ∨ c = 101) → zA7 F l (a : Int) c (21 - (d : Int)) = some (toI (tendG l d a c)) := by
  intro d
  induction d with
  | zero =>
    intro F a c hF hd hc
    obtain ⟨F, rfl⟩ := zBL hF
    show zA7.st F (zA7 F) l (a : Int) c (21 - ((0 : Nat) : Int)) = _
    unfold zA7.st
    have e : ∀ c : Bool, (ifB c (some true) (some (pGt (21 - ((0 : Nat) : Int)) 20))) = some true := fun c => by cases c <;> rfl
    rw [e, zA8, ifB_t, zA8, ifB_t]
    rfl
  | succ d ih =>
    intro F a c hF hd hc
    obtain ⟨F, rfl⟩ := zBL hF
    show zA7.st F (zA7 F) l (a : Int) c (21 - ((d + 1 : Nat) : Int)) = _
    unfold zA7.st
    rw [zBK, pGe_d, pGt_d, decide_eq_false (by omega : ¬ (21 - ((d + 1 : Nat) : Int)) > 20)]
    unfold tendG
    by_cases hlt : a < l.length
    · rw [decide_eq_false (by omega : ¬ (a : Int) ≥ (l.length : Int)), ifB_f, zA8, ifB_f, zBM hlt, zA8, zFB F (by omega), zA8, zA8, List.getElem?_eq_getElem hlt]
      generalize l[a] = n
      simp only []
      cases ho : ownG n with
      | false => rfl
      | true =>
        rw [zBS, Bool.not_true, ifB_f, zA8]
        have hkin : 1 ≤ n.1 ∧ n.1 ≤ 26 := by
          unfold ownG at ho
          simp only [Bool.and_eq_true, decide_eq_true_eq] at ho
          exact ho.1
        have hck : (ifB (decide (c = 98)) (some (!decide (n.1 = 1))) (some false)) = some (decide (c = 98) && !decide (n.1 = 1)) := zBN
        simp only [pEq_d, pNe_d, zEX, zF5, zA8, zBS, zBN, zC0]
        have hkk : ((decide (c = 98) && !decide (n.1 = 1) || decide (c = 115) && !(decide (2 ≤ n.1) && decide (n.1 ≤ 10))) || decide (c = 101) && !(decide (11 ≤ n.1) && decide (n.1 ≤ 26))) = !kindOk c n.1 := by
          unfold kindOk
          rcases hc with rfl | rfl | rfl
          · simp
          · simp
          · simp
        rw [hkk]
        cases hko : kindOk c n.1 with
        | false => simp only [Bool.not_false, ifB_t, Bool.and_false]; rfl
        | true =>
          simp only [Bool.not_true, ifB_f, Bool.and_true, Bool.true_and]
          rw [zD6, zA8]
          have hbad : ∀ (b : Bool), b = !kidsB n → (ifB b (some (-1 : Int)) (loopP (zA7.l11 F (zA7 F)) F (l, 21 - ((d + 1 : Nat) : Int), ksG n.1 n.2.2.2.1, (pAdd .i64 (a : Int) 1), 0, n, ()) (onSum (fun d => some d.1) (fun d => some d.1)))) =
              some (toI (if kidsB n = true then tchainG (fun a i => tendG l d a (kidC n.1 i)) n.2.2.2.1.toNat 0 (a + 1) else none)) := by
            intro b hb
            subst hb
            cases hkb : kidsB n with
            | false => rfl
            | true =>
              rw [Bool.not_true, ifB_f, if_pos rfl]
              have hK0 : 0 ≤ n.2.2.2.1 ∧ n.2.2.2.1 ≤ 200 := by
                unfold kidsB at hkb
                split at hkb
                · simp only [Bool.and_eq_true, decide_eq_true_eq] at hkb; exact hkb
                · have := of_decide_eq_true hkb
                  rename_i h1
                  have hsz : (ksG n.1 n.2.2.2.1).size ≤ 200 := by
                    obtain ⟨s, q1, q2, _⟩ := zCF 0 n
                    rw [zD6] at q1
                    injection q1 with q1
                    rw [q1]; exact q2
                  omega
              obtain ⟨K, hK⟩ : ∃ K : Nat, n.2.2.2.1 = (K : Int) := ⟨n.2.2.2.1.toNat, by omega⟩
              have hi : pAdd .i64 (a : Int) 1 = ((a + 1 : Nat) : Int) := by rw [zBI (by omega) (by omega)]; rfl
              rw [hi]
              refine (zDK l d F n (by omega) K hK (by omega) hkb (fun a c hc => ih F a c (by omega) (by omega) hc) _ K F 0 (a + 1) (by omega) (by omega)).trans ?_
              rw [hK, Int.toNat_natCast]
              cases tchainG (fun a i => tendG l d a (kidC n.1 i)) K 0 (a + 1) <;> rfl
          refine (hbad _ ?_)
          unfold kidsB
          rw [pLt_d, pGt_d, pSize]
          by_cases h1 : n.1 = 1
          · have hs : ksG n.1 n.2.2.2.1 = ByteArray.mk #[42] := by unfold ksG; rw [if_pos h1]
            rw [hs, zC7, if_pos h1]
            simp only [Bool.not_true, Bool.false_and, Bool.false_or, Bool.not_and]
            congr 1
            · rw [← decide_not]; exact decide_eq_decide.2 (by omega)
            · rw [← decide_not]; exact decide_eq_decide.2 (by omega)
          · rw [zE5 h1, if_neg h1]
            simp only [Bool.not_false, Bool.true_and]
            have hsz : (ksG n.1 n.2.2.2.1).size ≤ 200 := by
              obtain ⟨s, q1, q2, _⟩ := zCF 0 n
              rw [zD6] at q1
              injection q1 with q1
              rw [q1]; exact q2
            by_cases hq : n.2.2.2.1 = ((ksG n.1 n.2.2.2.1).size : Int)
            · rw [decide_eq_true hq, decide_eq_false (by omega : ¬ n.2.2.2.1 < 0), decide_eq_false (by omega : ¬ n.2.2.2.1 > 200)]; rfl
            · rw [decide_eq_false hq]; rfl
    · rw [decide_eq_true (by omega : (a : Int) ≥ (l.length : Int)), ifB_t, zA8, ifB_t, zA8, ifB_t, List.getElem?_eq_none (by omega)]
      rfl
end Go.AE.F
namespace Go.AE.F
open Go.AE
def hasN (names : List ByteArray) (s : ByteArray) : Bool := names.any fun w => decide (w = s)
def addV (names : List ByteArray) (n : NodeT) : List ByteArray :=
  if n.1 = 2 ∨ n.1 = 12 then (if hasN names n.2.2.1 = true then names else names ++ [n.2.2.1]) else names
def varsG (l : List NodeT) : List ByteArray := l.foldl addV []
theorem zCI (names : List ByteArray) (n : NodeT) : names.length ≤ (addV names n).length ∧ (addV names n).length ≤ names.length + 1 := by
  unfold addV
  split
  · split
    · omega
    · simp
  · omega
theorem zCG : ∀ (l : List NodeT) (names : List ByteArray), (l.foldl addV names).length ≤ names.length + l.length
  | [], names => by simp
  | n :: l, names => by
    have := zCG l (addV names n)
    have := (zCI names n).2
    simp only [List.foldl_cons, List.length_cons]; omega
theorem zCE (N : Nat) (l : List NodeT) (i : Nat) (hi : i < l.length) (names : List ByteArray) (hn : names.length ≤ 100000) {R : Type} (k : List NodeT × Int × Bool × List ByteArray × Unit → Option R) :
    ∀ (m j : Nat) (b : Bool), j ≤ names.length → names.length < m + j → loopP (zA5.l8 N) m (l, (i : Int), b, (j : Int), names, ()) k = k (l, (i : Int), (b || (names.drop j).any fun w => decide (w = l[i].2.2.1)), names, ())
  | 0, j, b, h1, h2 => by omega
  | m + 1, j, b, h1, h2 => by
    rw [zBJ]; unfold zA5.l8; simp only [zBK]
    by_cases hj : j < names.length
    · rw [pLt_t (by omega), ifB_t, zBM hj, zBM hi]
      have hjj : pAdd .i64 (j : Int) 1 = ((j + 1 : Nat) : Int) := by rw [zBI (by omega) (by omega)]; rfl
      rw [List.drop_eq_getElem_cons hj, List.any_cons]
      cases b with
      | true =>
        rw [ifB_t, zA8]
        simp only [hjj]
        exact (zCE N l i hi names hn k m (j + 1) true (by omega) (by omega)).trans (by rfl)
      | false =>
        rw [ifB_f, zA8, zA8, zA8, zA8, zBV]
        simp only [hjj]
        exact (zCE N l i hi names hn k m (j + 1) _ (by omega) (by omega)).trans (by rfl)
    · rw [pLt_f (by omega), ifB_f, List.drop_eq_nil_of_le (by omega)]
      simp
theorem zEA (N : Nat) (l : List NodeT) (i : Nat) (hi : i < l.length) (names : List ByteArray) (hn : names.length ≤ 100000) (hN : 100000 < N ∨ names.length < N) {R : Type} (k : List NodeT × Int × Bool × List ByteArray × Unit → Option R) :
    loopP (zA5.l8 N) N (l, (i : Int), false, 0, names, ()) k = k (l, (i : Int), hasN names l[i].2.2.1, names, ()) :=
  (zCE N l i hi names hn k N 0 false (by omega) (by omega)).trans rfl
theorem zCU (N : Nat) (hN : 2000 < N) (l : List NodeT) (hl : l.length ≤ 1000) {R : Type} (k : List ByteArray × Unit → Option R) :
    ∀ (m i : Nat) (names : List ByteArray), i ≤ l.length → l.length < m + i → names.length ≤ i → loopP (zA5.l3 N) m (l, (i : Int), names, ()) k = k ((l.drop i).foldl addV names, ())
  | 0, i, names, h1, h2, h3 => by omega
  | m + 1, i, names, h1, h2, h3 => by
    rw [zBJ]; unfold zA5.l3; simp only [zBK]
    by_cases hi : i < l.length
    · have hii : pAdd .i64 (i : Int) 1 = ((i + 1 : Nat) : Int) := by rw [zBI (by omega) (by omega)]; rfl
      rw [pLt_t (by omega), ifB_t, zBM hi, zA8, zA8, List.drop_eq_getElem_cons hi, List.foldl_cons]
      have step := zCU N hN l hl k m (i + 1) (addV names l[i]) (by omega) (by omega) (by have := (zCI names l[i]).2; omega)
      refine Eq.trans ?_ step
      have hval : ∀ (nm : List ByteArray), nm = addV names l[i] → (bindO (A := List NodeT × Int × List ByteArray × Unit) (some (l, (i : Int), nm, ())) fun d => loopP (zA5.l3 N) m (d.1, (pAdd .i64 d.2.1 1), d.2.2.1, ()) k) = loopP (zA5.l3 N) m (l, ((i + 1 : Nat) : Int), addV names l[i], ()) k := by
        intro nm h
        rw [zA8, ← h]
        simp only [hii]
      rw [pNe_d, pNe_d, zBN, zA8]
      by_cases hv : l[i].1 = 2 ∨ l[i].1 = 12
      · have e : (!decide (l[i].1 = 2) && !decide (l[i].1 = 12)) = false := by
          rcases hv with h | h
          · rw [decide_eq_true h]; rfl
          · rw [decide_eq_true h]; simp
        rw [e, ifB_f, zEA N l i hi names (by omega) (by omega)]
        simp only []
        rw [zBM hi]
        cases hb : hasN names l[i].2.2.1 with
        | true =>
          rw [zBS, Bool.not_true, ifB_f]
          exact hval names (by unfold addV; rw [if_pos hv, hb, if_pos rfl])
        | false =>
          rw [zBS, Bool.not_false, ifB_t, zA8, zDB (by simp; omega), ifB_t]
          exact hval _ (by unfold addV; rw [if_pos hv, hb, if_neg (by simp)]; rfl)
      · have e : (!decide (l[i].1 = 2) && !decide (l[i].1 = 12)) = true := by
          rw [decide_eq_false (fun h => hv (.inl h)), decide_eq_false (fun h => hv (.inr h))]; rfl
        rw [e, ifB_t]
        exact hval names (by unfold addV; rw [if_neg hv])
    · rw [pLt_f (by omega), ifB_f, List.drop_eq_nil_of_le (by omega)]; rfl
theorem zDW (N : Nat) (hN : 2000 < N) (l : List NodeT) (hl : l.length ≤ 1000) : zA5 N l = some (varsG l) := by
  unfold zA5
  refine (zCU N hN l hl _ N 0 [] (by omega) (by omega) (by simp)).trans ?_
  rfl
def rightG (l : List NodeT) : Bool := (decide (l.length ≤ 200) && decide (tendG l 20 0 98 = some l.length)) && decide ((varsG l).length ≤ 8)
theorem zEI (N : Nat) (hN : 2000 < N) (l : List NodeT) (hl : l.length ≤ 1000) : zAV N l = some (rightG l) := by
  unfold zAV rightG
  have e1 : pLe (pLen l) 200 = decide (l.length ≤ 200) := by rw [pLe_d, zBK]; exact decide_eq_decide.2 (by omega)
  have e2 : zA7 N l 0 98 1 = some (toI (tendG l 20 0 98)) := zFF l hl 20 N 0 98 (by omega) (by omega) (.inl rfl)
  rw [e1, e2, zA8, zBN, zA8, zDW N hN l hl, zA8, zBN, zA8]
  have e3 : pEq (toI (tendG l 20 0 98)) (pLen l) = decide (tendG l 20 0 98 = some l.length) := by
    rw [pEq_d, zBK]
    cases tendG l 20 0 98 with
    | none => rw [decide_eq_false (by show ¬ (-1 : Int) = _; omega), decide_eq_false (by simp)]
    | some e => exact decide_eq_decide.2 ⟨fun h => by have h : (e : Int) = l.length := h; congr 1; omega, fun h => by injection h with h; rw [h]; rfl⟩
  have e4 : pLe (pLen (varsG l)) 8 = decide ((varsG l).length ≤ 8) := by rw [pLe_d, zBK]; exact decide_eq_decide.2 (by omega)
  rw [e3, e4]
end Go.AE.F
