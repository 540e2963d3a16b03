/- Plain laws of those functions. -/
import Derived.Test.YtpenpjbobpalcaaXCodeOfP4
namespace Go.AE.F
open Go.AE
theorem zC9 (N : Nat) (L : List ByteArray) (hL : L.length ≤ 1000000) (s : ByteArray) {R : Type} (k : (Unit) ⊕ (Int × Unit) → Option R) :
    ∀ (n i : Nat), i ≤ L.length → L.length < n + i → loopP (zA1.l2 N) n (L, s, (L.length : Int), (i : Int), ()) k = (match kwAt (L.drop i) i s with | some j => k (.inr ((j : Int), ())) | none => k (.inl ()))
  | 0, i, h, hn => by omega
  | n + 1, i, h, hn => by
    rw [zBJ]; unfold zA1.l2
    simp only []
    by_cases hi : i < L.length
    · rw [pLt_t (by omega), ifB_t, zBM hi, zA8, zBV, List.drop_eq_getElem_cons hi]
      unfold kwAt
      by_cases e : L[i] = s
      · rw [decide_eq_true e.symm, ifB_t, if_pos e]
      · rw [decide_eq_false (fun q => e q.symm), ifB_f, if_neg e, zBI (by omega) (by omega)]
        exact zC9 N L hL s k n (i + 1) (by omega) (by omega)
    · rw [pLt_f (by omega), ifB_f, List.drop_eq_nil_of_le (by omega)]; rfl
def atI (o : Option Nat) (z : Int) : Int := match o with | some j => (j : Int) | none => z
theorem zC3 (N : Nat) (L : List ByteArray) (hL : L.length ≤ 1000000) (hN : L.length < N) (s : ByteArray) : zA1 N L s = some (atI (kwAt L 0 s) (-1)) := by
  unfold zA1
  rw [zBK]
  refine (zC9 N L hL s _ N 0 (by omega) (by omega)).trans ?_
  rw [List.drop_zero]
  cases kwAt L 0 s <;> rfl
theorem zBZ (N : Nat) (L : List ByteArray) (hL : L.length ≤ 1000000) (hN : L.length < N) (s : ByteArray) : zA6 N L s = some (hasN L s) := by
  unfold zA6
  rw [zC3 N L hL hN, zA8]
  have := zBW L 0 s
  unfold hasN
  rw [← this]
  cases kwAt L 0 s with
  | none => rfl
  | some j => rw [pGe_d]; exact congrArg some (decide_eq_true (by show (j : Int) ≥ 0; omega))
theorem zCQ (N : Nat) (s : ByteArray) (hs : s.size ≤ 100000000) {R : Type} (k : (ByteArray × Unit) ⊕ (Bool × Unit) → Option R) :
    ∀ (n i : Nat), i ≤ s.size → s.size < n + i → loopP (zAC.l2 N) n (s, (s.size : Int), (i : Int), ()) k = (if (s.data.toList.drop i).all okB = true then k (.inl (s, ())) else k (.inr (false, ())))
  | 0, i, h, hn => by omega
  | n + 1, i, h, hn => by
    have hl := zD1 s
    rw [zBJ]; unfold zAC.l2
    simp only []
    by_cases hi : i < s.size
    · rw [pLt_t (by omega), ifB_t, zCH (by omega)]
      rw [List.drop_eq_getElem_cons (by omega : i < s.data.toList.length), List.all_cons]
      generalize s.data.toList[i]'(by omega) = b
      simp only [zA8, zBN, zC0, pGe_d, pLe_d, pEq_d, zBS]
      have e : (decide ((b.toNat : Int) ≥ 97) && decide ((b.toNat : Int) ≤ 122) || decide ((b.toNat : Int) = 45)) = okB b := by
        unfold okB
        congr 1
        · congr 1
          · exact decide_eq_decide.2 (by omega)
          · exact decide_eq_decide.2 (by omega)
        · exact decide_eq_decide.2 (by omega)
      rw [e]
      cases okB b with
      | false => rw [Bool.not_false, ifB_t, Bool.false_and, if_neg (by simp)]
      | true =>
        simp only [Bool.not_true, ifB_f, Bool.true_and]
        rw [zBI (by omega) (by omega)]
        exact zCQ N s hs k n (i + 1) (by omega) (by omega)
    · rw [pLt_f (by omega), ifB_f, List.drop_eq_nil_of_le (by omega)]; simp
theorem zF4 (N : Nat) (s : ByteArray) (hs : s.size ≤ 100000000) (hN : s.size < N) : zAC N s = some (keyG s) := by
  unfold zAC
  refine (zCQ N s hs _ N 0 (by omega) (by omega)).trans ?_
  rw [List.drop_zero]
  unfold keyG
  cases s.data.toList.all okB with
  | false => rw [if_neg (by simp), Bool.and_false]; rfl
  | true =>
    rw [if_pos rfl, Bool.and_true]
    show (bindO (zAR N (pSize s) 1 20) fun y33 => some y33) = _
    rw [zBO, zA8]
    unfold pSize
    have e1 : decide ((1 : Int) ≤ (s.size : Int)) = decide (1 ≤ s.size) := decide_eq_decide.2 (by omega)
    have e2 : decide ((s.size : Int) ≤ 20) = decide (s.size ≤ 20) := decide_eq_decide.2 (by omega)
    rw [e1, e2]
def leavesL : List (ByteArray × Int) := [(ByteArray.mk #[99, 117, 114, 115, 111, 114], 13), (ByteArray.mk #[108, 101, 110, 103, 116, 104], 14), (ByteArray.mk #[109, 97, 114, 107, 97, 116], 15), (ByteArray.mk #[97, 116], 16), (ByteArray.mk #[110, 111, 116], 17)]
theorem zEC (N : Nat) : zBA N = some (some leavesL) := rfl
theorem beqB (a b : ByteArray) : (a == b) = decide (b = a) := by
  obtain ⟨x⟩ := a
  obtain ⟨y⟩ := b
  have e : (ByteArray.mk x == ByteArray.mk y) = (x == y) := rfl
  rw [e]
  by_cases h : y = x
  · subst h; simp
  · rw [decide_eq_false (by intro q; injection q with q; exact h q)]
    simp [Ne.symm h]
theorem zDM (s : ByteArray) : decide (mGetI (some leavesL) s = 0) = !(leavesL.any fun p => decide (p.1 = s)) := by
  unfold mGetI
  simp only [Option.getD_some, leavesL, mFind, beqB, List.any_cons, List.any_nil, Bool.or_false]
  by_cases a : ByteArray.mk #[99, 117, 114, 115, 111, 114] = s
  · rw [decide_eq_true a]; rfl
  rw [decide_eq_false a]
  by_cases b : ByteArray.mk #[108, 101, 110, 103, 116, 104] = s
  · rw [decide_eq_true b]; rfl
  rw [decide_eq_false b]
  by_cases c : ByteArray.mk #[109, 97, 114, 107, 97, 116] = s
  · rw [decide_eq_true c]; rfl
  rw [decide_eq_false c]
  by_cases d : ByteArray.mk #[97, 116] = s
  · rw [decide_eq_true d]; rfl
  rw [decide_eq_false d]
  by_cases e : ByteArray.mk #[110, 111, 116] = s
  · rw [decide_eq_true e]; rfl
  rw [decide_eq_false e]; rfl
theorem zD7 : ∀ (l : List ByteArray) (i : Nat) (s : ByteArray) (j : Nat), kwAt l i s = some j → i ≤ j
  | [], _, _, _, h => by cases h
  | w :: l, i, s, j, h => by
    unfold kwAt at h
    split at h
    · injection h with h; omega
    · have := zD7 l (i + 1) s j h; omega
theorem zEY (s : ByteArray) : decide (kwG s = 0) = !hasN (kwL.drop 2) s := by
  unfold kwG hasN
  rw [← zBW (kwL.drop 2) 2 s]
  cases h : kwAt (kwL.drop 2) 2 s with
  | none => rfl
  | some j =>
    have := zD7 _ _ _ _ h
    show decide ((j : Int) = 0) = !true
    exact decide_eq_false (by omega)
theorem zE8 {s : ByteArray} (h : keyG s = true) (l : List UInt8) (hl : s.data.toList = l) : l.all okB = true := by
  unfold keyG at h
  simp only [Bool.and_eq_true] at h
  rw [← hl]; exact h.2
theorem zCA {s : ByteArray} (h : keyG s = true) (a : Array UInt8) (ha : a.toList.all okB = false) : decide (ByteArray.mk a = s) = false := by
  refine decide_eq_false fun e => ?_
  have := zE8 h a.toList (by rw [← e])
  rw [ha] at this; cases this
theorem zEU (N : Nat) (hN : 40 < N) (s : ByteArray) (hs : s.size ≤ 100000000) (hN2 : s.size < N) : zAW N s = some (nameG s) := by
  unfold zAW nameG
  rw [zF4 N s hs hN2, zA8]
  cases hk : keyG s with
  | false => rfl
  | true =>
    have h1 := zCS hk
    simp only [ifB_t, zA8, zBS, zBV, zBN, Bool.true_and]
    have hw : zAN N = some ((kwL.drop 2).take 9) := rfl
    rw [hw, zA8, zBZ N _ (by decide) (by show 9 < N; omega), zA8, zEC, zA8, zCR h1, zA8]
    simp only [zBN, zA8, pEq_d, pNe_d, zDM, zEY]
    congr 1
    have flip : ∀ w : ByteArray, decide (s = w) = decide (w = s) := fun w => decide_eq_decide.2 ⟨Eq.symm, Eq.symm⟩
    rw [flip, flip, flip]
    unfold hasN kwL leavesL
    simp only [List.drop_succ_cons, List.drop_zero, List.take_succ_cons, List.take_zero, List.any_cons, List.any_nil, Bool.or_false]
    have z0 : decide (ByteArray.mk #[] = s) = false := decide_eq_false fun e => by rw [← e] at h1; exact absurd h1 (by decide)
    rw [z0, zCA hk #[60] (by decide), zCA hk #[61] (by decide), zCA hk #[62] (by decide), zCA hk #[43] (by decide), zCA hk #[42] (by decide), zCA hk #[47] (by decide)]
    by_cases hm : ByteArray.mk #[45] = s
    · have : headG s = 45 := by rw [← hm]; rfl
      rw [this]; simp
    · rw [decide_eq_false hm]
      cases decide (headG s = 45) with
      | true => simp
      | false =>
        simp only [Bool.false_or, Bool.or_false, Bool.not_or, Bool.not_false, Bool.and_true, Bool.true_and]
        ac_rfl
end Go.AE.F
namespace Go.AE.F
open Go.AE
theorem zDA (N : Nat) : zB8 N = some (mvL.drop 1) := rfl
theorem zDQ (s : ByteArray) : decide (0 < motionG s) = hasN (mvL.drop 1) s := by
  unfold motionG hasN
  rw [← zBW (mvL.drop 1) 1 s]
  cases h : kwAt (mvL.drop 1) 1 s with
  | none => rfl
  | some j =>
    have := zD7 _ _ _ _ h
    show decide ((0 : Int) < (j : Int)) = true
    exact decide_eq_true (by omega)
theorem zDX (N : Nat) (hN : 40 < N) (n : NodeT) (hs : n.2.2.1.size ≤ 100000000) (hN2 : n.2.2.1.size < N) (hk : 1 ≤ n.1 ∧ n.1 ≤ 26) : zAU N n = some (ownG n) := by
  unfold zAU ownG
  rw [decide_eq_true hk.1, decide_eq_true hk.2, Bool.true_and, Bool.true_and]
  by_cases a : n.1 = 2
  · rw [pEq_t a, ifB_t, if_neg (by omega), if_pos (.inl a), zEU N hN _ hs hN2, zA8, pEq_d, zBN, zA8]
  rw [pEq_f a, ifB_f]
  by_cases b : n.1 = 12
  · rw [pEq_t b, ifB_t, if_neg (by omega), if_pos (.inr b), zEU N hN _ hs hN2, zA8, pEq_d, zBN, zA8]
  rw [pEq_f b, ifB_f]
  by_cases c : n.1 = 10
  · rw [pEq_t c, ifB_t, if_neg (by omega), if_neg (by omega), if_pos c, zDA, zA8, zBZ N _ (by decide) (by show 10 < N; omega), zA8, pEq_d, zBN, zDQ]
  rw [pEq_f c, ifB_f]
  by_cases d : n.1 = 11
  · rw [pEq_t d, ifB_t, if_pos d, zBO, zA8, zBV, zBN, zA8, Bool.and_comm]
  rw [pEq_f d, ifB_f, if_neg d, if_neg (by rintro (z | z) <;> contradiction), if_neg c, zBV, pEq_d, zBN, zA8, Bool.and_comm]
def loG (k : Int) : Int := if k = 1 then 0 else if k = 3 ∨ k = 4 ∨ k = 6 then 2 else if k = 2 ∨ k = 5 ∨ k = 7 ∨ k = 8 ∨ k = 16 ∨ k = 17 then 1 else if 18 ≤ k ∧ k ≤ 26 then 2 else 0
def hiG (k : Int) : Int := if k = 1 then 200 else if k = 3 then 3 else loG k
theorem zDY (N : Nat) (k : Int) : zBD N k = some (loG k, hiG k) := by
  unfold zBD
  by_cases a : k = 1; · subst a; rfl
  rw [pEq_f a, ifB_f]; by_cases b : k = 3; · subst b; rfl
  rw [pEq_f b, ifB_f]; by_cases c : k = 4; · subst c; rfl
  rw [pEq_f c, ifB_f]; by_cases d : k = 6; · subst d; rfl
  rw [pEq_f d, ifB_f]; by_cases e : k = 2; · subst e; rfl
  rw [pEq_f e, ifB_f]; by_cases f : k = 5; · subst f; rfl
  rw [pEq_f f, ifB_f]; by_cases g : k = 7; · subst g; rfl
  rw [pEq_f g, ifB_f]; by_cases h : k = 8; · subst h; rfl
  rw [pEq_f h, ifB_f]; by_cases i : k = 16; · subst i; rfl
  rw [pEq_f i, ifB_f]; by_cases j : k = 17; · subst j; rfl
  rw [pEq_f j, ifB_f, zBO, zA8]
  unfold hiG loG
  rw [if_neg a, if_neg a, if_neg b, if_neg (by omega : ¬ (k = 3 ∨ k = 4 ∨ k = 6)), if_neg (by omega : ¬ (k = 2 ∨ k = 5 ∨ k = 7 ∨ k = 8 ∨ k = 16 ∨ k = 17))]
  by_cases q : 18 ≤ k ∧ k ≤ 26
  · rw [decide_eq_true q.1, decide_eq_true q.2, if_pos q]; rfl
  · rw [if_neg q]
    have : (decide (18 ≤ k) && decide (k ≤ 26)) = false := by
      rw [Bool.and_eq_false_iff]
      by_cases q1 : 18 ≤ k
      · exact .inr (decide_eq_false (fun h => q ⟨q1, h⟩))
      · exact .inl (decide_eq_false q1)
    rw [this]; rfl
theorem zF0 {k K : Int} (hk : 1 ≤ k ∧ k ≤ 26) (h1 : k ≠ 1) : ((ksG k K).size : Int) = if k = 3 then (if K = 3 then 3 else 2) else loG k := by
  have two : ((ByteArray.mk #[101, 98]).size : Int) = 2 := rfl
  have two' : ((ByteArray.mk #[101, 101]).size : Int) = 2 := rfl
  have one : ((ByteArray.mk #[101]).size : Int) = 1 := rfl
  have nul : ((ByteArray.mk #[]).size : Int) = 0 := rfl
  have thr : ((ByteArray.mk #[101, 98, 98]).size : Int) = 3 := rfl
  unfold ksG loG
  rw [if_neg h1, if_neg h1]
  by_cases b : k = 2; · subst b; rfl
  rw [if_neg b]; by_cases b5 : k = 5; · subst b5; rfl
  rw [if_neg b5]; by_cases b7 : k = 7; · subst b7; rfl
  rw [if_neg b7]; by_cases b8 : k = 8; · subst b8; rfl
  rw [if_neg b8]; by_cases b16 : k = 16; · subst b16; rfl
  rw [if_neg b16]; by_cases b17 : k = 17; · subst b17; rfl
  rw [if_neg b17]; by_cases b3 : k = 3
  · rw [if_pos b3, if_pos b3]; split <;> assumption
  rw [if_neg b3, if_neg b3]; by_cases b4 : k = 4; · subst b4; rfl
  rw [if_neg b4]; by_cases b6 : k = 6; · subst b6; rfl
  rw [if_neg b6, if_neg (by omega : ¬ (k = 3 ∨ k = 4 ∨ k = 6)), if_neg (by omega : ¬ (k = 2 ∨ k = 5 ∨ k = 7 ∨ k = 8 ∨ k = 16 ∨ k = 17))]
  by_cases q : 18 ≤ k
  · have hr : (if 18 ≤ k ∧ k ≤ 26 then (2 : Int) else 0) = 2 := if_pos ⟨q, hk.2⟩
    rw [hr, if_neg (by omega), if_neg (by omega), if_neg (by omega), if_neg (by omega), if_neg (by omega), if_neg (by omega), if_neg (by omega)]; exact two'
  · have hr : (if 18 ≤ k ∧ k ≤ 26 then (2 : Int) else 0) = 0 := if_neg (fun z => q z.1)
    rw [hr]
    have : k = 9 ∨ k = 10 ∨ k = 11 ∨ k = 12 ∨ k = 13 ∨ k = 14 ∨ k = 15 := by omega
    rcases this with z | z | z | z | z | z | z <;> subst z <;> rfl
theorem zD3 (n : NodeT) (hk : 1 ≤ n.1 ∧ n.1 ≤ 26) : (decide (loG n.1 ≤ n.2.2.2.1) && decide (n.2.2.2.1 ≤ hiG n.1)) = kidsB n := by
  unfold kidsB
  by_cases a : n.1 = 1
  · rw [if_pos a, a]; rfl
  rw [if_neg a, zF0 hk a]
  unfold hiG
  rw [if_neg a]
  by_cases b : n.1 = 3
  · rw [if_pos b, if_pos b, b]
    have : loG 3 = 2 := rfl
    rw [this]
    by_cases c : n.2.2.2.1 = 3
    · rw [c]; rfl
    · rw [if_neg c]
      by_cases d : n.2.2.2.1 = 2
      · rw [d]; rfl
      · rw [decide_eq_false d, Bool.and_eq_false_iff]
        by_cases e : 2 ≤ n.2.2.2.1
        · exact .inr (decide_eq_false (by omega))
        · exact .inl (decide_eq_false e)
  · rw [if_neg b, if_neg b]
    by_cases d : n.2.2.2.1 = loG n.1
    · rw [d]; simp
    · rw [decide_eq_false d, Bool.and_eq_false_iff]
      by_cases e : loG n.1 ≤ n.2.2.2.1
      · exact .inr (decide_eq_false (by omega))
      · exact .inl (decide_eq_false e)
theorem zEJ (N : Nat) (n : NodeT) (i : Nat) (kid : NodeT) : zBG N n (i : Int) kid = some (kindOk (kidC n.1 i) kid.1) := by
  unfold zBG kidC kindOk
  by_cases a : n.1 = 1
  · rw [pEq_t a, ifB_t, zBO, zA8, if_pos a]; rfl
  rw [pEq_f a, ifB_f, if_neg a, pEq_d, pEq_d, zC0, zA8, pGt_d, zBN, zA8]
  by_cases b : (n.1 = 3 ∨ n.1 = 4) ∧ 0 < i
  · rw [if_pos b, if_pos rfl]
    have e1 : (decide (n.1 = 3) || decide (n.1 = 4)) = true := by
      rcases b.1 with h | h
      · rw [decide_eq_true h]; rfl
      · rw [decide_eq_true h]; simp
    rw [e1, decide_eq_true (by omega : (i : Int) > 0), pEq_d]; rfl
  · rw [if_neg b]
    have e1 : (decide ((i : Int) > 0) && (decide (n.1 = 3) || decide (n.1 = 4))) = false := by
      rw [Bool.and_eq_false_iff]
      by_cases c : 0 < i
      · right
        rw [decide_eq_false (fun h => b ⟨.inl h, c⟩), decide_eq_false (fun h => b ⟨.inr h, c⟩)]; rfl
      · left; exact decide_eq_false (by omega)
    rw [e1, ifB_f, zBO, zA8]; rfl
theorem zEQ (N : Nat) (n : NodeT) (depth deep : Int) (names : List ByteArray) (h1 : names.length ≤ 100000) (hN : names.length < N) :
    zAY N n depth deep names = some (pMax deep depth, addV names n) := by
  unfold zAY addV
  rw [pEq_d, pEq_d, zC0, zA8]
  by_cases a : n.1 = 2 ∨ n.1 = 12
  · have e : (decide (n.1 = 2) || decide (n.1 = 12)) = true := by
      rcases a with h | h
      · rw [decide_eq_true h]; rfl
      · rw [decide_eq_true h]; simp
    rw [e, ifB_t, zBZ N names (by omega) hN, zA8, zA8, if_pos a]
    cases hasN names n.2.2.1 with
    | true => rfl
    | false => rw [zBS, Bool.not_false, ifB_t, zDB (by simp; omega), ifB_t, if_neg (by simp)]; rfl
  · have e : (decide (n.1 = 2) || decide (n.1 = 12)) = false := by
      rw [decide_eq_false (fun h => a (.inl h)), decide_eq_false (fun h => a (.inr h))]; rfl
    rw [e, ifB_f, zA8, ifB_f, if_neg a]
end Go.AE.F
