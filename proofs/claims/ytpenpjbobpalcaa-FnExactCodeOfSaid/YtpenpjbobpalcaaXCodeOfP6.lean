/- Plain laws of those functions. -/
import Derived.Test.YtpenpjbobpalcaaXCodeOfP5
namespace Go.AE.F
open Go.AE
def troot (l : List NodeT) : Nat → Nat → Option Nat
  | 0, _ => none
  | d + 1, a => match l[a]? with
    | none => none
    | some n => if (ownG n && kidsB n) = true then tchainG (fun a i => tendG l d a (kidC n.1 i)) n.2.2.2.1.toNat 0 (a + 1) else none
theorem zDR (l : List NodeT) (d a : Nat) : troot l (d + 1) a = (match l[a]? with
    | none => none
    | some n => if (ownG n && kidsB n) = true then tchainG (fun a i => tendG l d a (kidC n.1 i)) n.2.2.2.1.toNat 0 (a + 1) else none) := rfl
theorem lo_in (k : Int) : 0 ≤ loG k ∧ loG k ≤ 2 := by
  unfold loG
  split
  · omega
  · split
    · omega
    · split
      · omega
      · split <;> omega
theorem hi_in (k : Int) : hiG k ≤ 200 := by
  have := lo_in k
  unfold hiG
  split
  · omega
  · split <;> omega
theorem zER {l : List NodeT} {d a : Nat} {c : Int} (h : l.length ≤ a) : tendG l d a c = none := by
  cases d with
  | zero => rfl
  | succ d => unfold tendG; rw [List.getElem?_eq_none h]
theorem zC4 {l : List NodeT} {d a : Nat} {c : Int} (h : a < l.length) : tendG l d a c = if kindOk c l[a].1 = true then troot l d a else none := by
  cases d with
  | zero => unfold tendG troot; split <;> rfl
  | succ d =>
    unfold tendG troot
    simp only [List.getElem?_eq_getElem h]
    cases ownG l[a] <;> cases kidsB l[a] <;> cases kindOk c l[a].1 <;> rfl
theorem zBU {f : Nat → Nat → Option Nat} {B : Nat} (h : ∀ a i e, f a i = some e → a < e ∧ e ≤ B) : ∀ (k i a e : Nat), a ≤ B → tchainG f k i a = some e → a ≤ e ∧ e ≤ B
  | 0, i, a, e, hb, q => by unfold tchainG at q; injection q with q; omega
  | k + 1, i, a, e, hb, q => by
    unfold tchainG at q
    cases hf : f a i with
    | none => rw [hf] at q; cases q
    | some m =>
      rw [hf] at q
      have h1 := h a i m hf
      have := zBU h k (i + 1) m e h1.2 q
      omega
theorem zBY {l : List NodeT} : ∀ (d a : Nat) (c : Int) (e : Nat), tendG l d a c = some e → a < e ∧ e ≤ l.length
  | 0, a, c, e, h => by cases h
  | d + 1, a, c, e, h => by
    unfold tendG at h
    rcases Nat.lt_or_ge a l.length with q | q
    · rw [List.getElem?_eq_getElem q] at h
      simp only at h
      split at h
      · have := zBU (B := l.length) (fun a i e h => zBY d a _ e h) _ _ _ _ (by omega) h
        omega
      · cases h
    · rw [List.getElem?_eq_none q] at h; cases h
def sl (l : List NodeT) (a e : Nat) : List NodeT := (l.drop a).take (e - a)
theorem zFC (l : List NodeT) (a : Nat) : sl l a a = [] := by unfold sl; rw [Nat.sub_self, List.take_zero]
theorem zEV {l : List NodeT} {a e : Nat} (h : a < l.length) (he : a < e) : sl l a e = l[a] :: sl l (a + 1) e := by
  unfold sl
  rw [List.drop_eq_getElem_cons h, show e - a = (e - (a + 1)) + 1 by omega, List.take_succ_cons]
theorem zFE {l : List NodeT} {a b e : Nat} (h1 : a ≤ b) (h2 : b ≤ e) : sl l a e = sl l a b ++ sl l b e := by
  unfold sl
  rw [show e - a = (b - a) + (e - b) by omega, List.take_add, List.drop_drop]
  congr 3
  omega
theorem zET (l : List NodeT) (a e : Nat) : (sl l a e).length ≤ e - a := by unfold sl; rw [List.length_take]; omega
theorem zFD (l : List NodeT) : sl l 0 l.length = l := by unfold sl; rw [List.drop_zero, Nat.sub_zero, List.take_length]
theorem zCM (l : List NodeT) (hl : l.length ≤ 1000) (d F : Nat) (hd : d ≤ 20) (n : NodeT) (K : Nat) (hK2 : K ≤ 200)
    (rec' : ∀ (a : Nat) (deep : Int) (names : List ByteArray), names.length ≤ a → a ≤ 1000 → ∃ dp nm, zA0 F l (a : Int) (21 - (d : Int)) deep names = some (toI (troot l d a), dp, nm) ∧ nm.length ≤ names.length + (l.length - a) ∧ ∀ e, troot l d a = some e → nm = (sl l a e).foldl addV names)
    {R : Type} (kont : (Int × Int × List ByteArray × Unit) ⊕ (Int × Int × List ByteArray × Unit) → Option R) :
    ∀ (k m i e : Nat) (deep : Int) (names : List ByteArray), k + i = K → k < m → names.length ≤ e → e ≤ 1000 →
      ∃ dp nm, loopP (zA0.l10 F (zA0 F)) m (l, (e : Int), 21 - ((d + 1 : Nat) : Int), (K : Int), (i : Int), deep, names, n, ()) kont =
        (match tchainG (fun a i => tendG l d a (kidC n.1 i)) k i e with | some x => kont (.inl ((x : Int), dp, nm, ())) | none => kont (.inr (-1, dp, nm, ()))) ∧ nm.length ≤ names.length + (l.length - e) ∧
        ∀ x, tchainG (fun a i => tendG l d a (kidC n.1 i)) k i e = some x → nm = (sl l e x).foldl addV names
  | 0, m, i, e, deep, names, h1, h2, h3, h4 => by
    obtain ⟨m, rfl⟩ := zBL h2
    refine ⟨deep, names, ?_, by omega, fun x hx => ?_⟩
    · rw [zBJ]; unfold zA0.l10; simp only []
      rw [pLt_f (by omega), ifB_f]; rfl
    · unfold tchainG at hx
      injection hx with hx
      subst hx
      rw [zFC]; rfl
  | k + 1, m, i, e, deep, names, h1, h2, h3, h4 => by
    obtain ⟨m, rfl⟩ := zBL h2
    have ih := zCM l hl d F hd n K hK2 rec' kont k m (i + 1)
    rw [zBJ]; unfold zA0.l10; simp only [zBK]
    rw [pLt_t (by omega), ifB_t]
    unfold tchainG
    by_cases he : e < l.length
    · rw [pGe_f (by omega), ifB_f, zBM he, zA8, zEJ, zA8, zC4 he]
      cases hk : kindOk (kidC n.1 i) l[e].1 with
      | false => exact ⟨deep, names, rfl, by omega, fun x hx => by cases hx⟩
      | true =>
        rw [zBS, Bool.not_true, ifB_f, if_pos rfl]
        have hdd : pAdd .i64 (21 - ((d + 1 : Nat) : Int)) 1 = 21 - (d : Int) := by rw [zBI (by omega) (by omega)]; omega
        rw [hdd]
        obtain ⟨dp, nm, q1, q2, q3⟩ := rec' e deep names h3 h4
        rw [q1, zA8, zE2]
        cases hr : troot l d e with
        | none => exact ⟨dp, nm, rfl, q2, fun x hx => by cases hx⟩
        | some x =>
          have hx : e < x ∧ x ≤ l.length := zBY d e _ x (by rw [zC4 he, hk, if_pos rfl]; exact hr)
          have hnm := q3 x hr
          have hlen : nm.length ≤ x := by
            rw [hnm]
            have := zCG (sl l e x) names
            have := zET l e x
            omega
          obtain ⟨dp2, nm2, r1, r2, r3⟩ := ih x dp nm (by omega) (by omega) hlen (by omega)
          have hii : pAdd .i64 (i : Int) 1 = ((i + 1 : Nat) : Int) := by rw [zBI (by omega) (by omega)]; rfl
          refine ⟨dp2, nm2, ?_, ?_, fun y hy => ?_⟩
          · rw [hii]; exact r1
          · have : nm.length ≤ names.length + (x - e) := by
              rw [hnm]
              have := zCG (sl l e x) names
              have := zET l e x
              omega
            omega
          · have hy : tchainG (fun a i => tendG l d a (kidC n.1 i)) k (i + 1) x = some y := hy
            have hxy := zBU (B := l.length) (fun a i e h => zBY d a _ e h) _ _ _ _ hx.2 hy
            rw [r3 y hy, hnm, zFE (Nat.le_of_lt hx.1) hxy.1, List.foldl_append]
    · rw [pGe_t (by omega), ifB_t, zER (by omega)]
      exact ⟨deep, names, rfl, by omega, fun x hx => by cases hx⟩
theorem zF7 (l : List NodeT) (hl : l.length ≤ 1000) (S : Nat) (hS : ∀ n ∈ l, n.2.2.1.size ≤ S) (hS2 : S ≤ 100000000) : ∀ (d F a : Nat) (deep : Int) (names : List ByteArray), S + 3000 + d < F → d ≤ 20 → names.length ≤ a → a ≤ 1000 →
    ∃ dp nm, zA0 F l (a : Int) (21 - (d : Int)) deep names = some (toI (troot l d a), dp, nm) ∧ nm.length ≤ names.length + (l.length - a) ∧ ∀ e, troot l d a = some e → nm = (sl l a e).foldl addV names := by
  intro d
  induction d with
  | zero =>
    intro F a deep names hF hd h1 h2
    obtain ⟨F, rfl⟩ := zBL hF
    refine ⟨deep, names, ?_, by omega, fun e he => by cases he⟩
    show zA0.st F (zA0 F) l (a : Int) (21 - ((0 : Nat) : Int)) deep names = _
    unfold zA0.st
    have e : ∀ c : Bool, (ifB c (some true) (some (pGt (21 - ((0 : Nat) : Int)) 20))) = some true := fun c => by cases c <;> rfl
    rw [e, zA8, ifB_t]
    rfl
  | succ d ih =>
    intro F a deep names hF hd h1 h2
    obtain ⟨F, rfl⟩ := zBL hF
    show ∃ dp nm, zA0.st F (zA0 F) l (a : Int) (21 - ((d + 1 : Nat) : Int)) deep names = _ ∧ _
    unfold zA0.st
    rw [zBK, pGe_d, pGt_d, decide_eq_false (by omega : ¬ (21 - ((d + 1 : Nat) : Int)) > 20)]
    rw [zDR]
    by_cases hlt : a < l.length
    · rw [decide_eq_false (by omega : ¬ (a : Int) ≥ (l.length : Int)), ifB_f, zA8, ifB_f, zBM hlt, zA8, zDY, zA8, zBO, zA8, List.getElem?_eq_getElem hlt]
      have hsz := hS l[a] (List.getElem_mem hlt)
      have hslc : ∀ e, a < e → sl l a e = l[a] :: sl l (a + 1) e := fun e he => zEV hlt he
      generalize l[a] = n at hsz hslc
      simp only []
      by_cases hk : 1 ≤ n.1 ∧ n.1 ≤ 26
      · rw [decide_eq_true hk.1, decide_eq_true hk.2]
        show ∃ dp nm, (bindO (ifB (pNot true) _ _) _) = _ ∧ _
        rw [zBS, Bool.not_true, ifB_f, zBO, zA8, zA8, zD3 n hk, zDX F (by omega) n (by omega) (by omega) hk, zA8]
        cases hkb : kidsB n with
        | false => exact ⟨deep, names, by rw [Bool.and_false]; rfl, by omega, fun e he => by rw [Bool.and_false] at he; cases he⟩
        | true =>
          rw [zBS, Bool.not_true, ifB_f, zA8]
          cases ho : ownG n with
          | false => exact ⟨deep, names, rfl, by omega, fun e he => by cases he⟩
          | true =>
            rw [zBS, Bool.not_true, ifB_f, zEQ F n _ deep names (by omega) (by omega), zA8, Bool.and_true, if_pos rfl]
            have hK0 : 0 ≤ n.2.2.2.1 ∧ n.2.2.2.1 ≤ 200 := by
              have := zD3 n hk
              rw [hkb] at this
              simp only [Bool.and_eq_true, decide_eq_true_eq] at this
              have h3 := lo_in n.1
              have h4 := hi_in n.1
              omega
            obtain ⟨K, hK⟩ : ∃ K : Nat, n.2.2.2.1 = (K : Int) := ⟨n.2.2.2.1.toNat, by omega⟩
            have hi : pAdd .i64 (a : Int) 1 = ((a + 1 : Nat) : Int) := by rw [zBI (by omega) (by omega)]; rfl
            have hav := zCI names n
            obtain ⟨dp, nm, q1, q2, q3⟩ := zCM l hl d F (by omega) n K (by omega) (fun a deep names h1 h2 => ih F a deep names (by omega) (by omega) h1 h2) (onSum (fun d => some (d.1, d.2.1, d.2.2.1)) (fun d => some (d.1, d.2.1, d.2.2.1))) K F 0 (a + 1) (pMax deep (21 - ((d + 1 : Nat) : Int))) (addV names n) (by omega) (by omega) (by omega) (by omega)
            refine ⟨dp, nm, ?_, by omega, fun e he => ?_⟩
            · rw [hi, hK, Int.toNat_natCast]
              refine q1.trans ?_
              cases tchainG (fun a i => tendG l d a (kidC n.1 i)) K 0 (a + 1) <;> rfl
            · rw [hK, Int.toNat_natCast] at he
              have hae := zBU (B := l.length) (fun a i e h => zBY d a _ e h) _ _ _ _ (by omega) he
              rw [q3 e he, hslc e (by omega), List.foldl_cons]
      · have hb : (decide (1 ≤ n.1) && decide (n.1 ≤ 26)) = false := by
          rw [Bool.and_eq_false_iff]
          by_cases q : 1 ≤ n.1
          · exact .inr (decide_eq_false fun h => hk ⟨q, h⟩)
          · exact .inl (decide_eq_false q)
        have ho : ownG n = false := by unfold ownG; rw [hb, Bool.false_and]
        rw [hb, ho]
        exact ⟨deep, names, rfl, by omega, fun e he => by cases he⟩
    · rw [decide_eq_true (by omega : (a : Int) ≥ (l.length : Int)), ifB_t, zA8, ifB_t, List.getElem?_eq_none (by omega)]
      exact ⟨deep, names, rfl, by omega, fun e he => by cases he⟩
theorem zE3 (l : List NodeT) (hl : l.length ≤ 1000) (S : Nat) (hS : ∀ n ∈ l, n.2.2.1.size ≤ S) (hS2 : S ≤ 100000000) (F : Nat) (hF : S + 4000 < F) :
    ∃ nm dp, zBB F l = some (nm, dp, rightG l) ∧ (rightG l = true → nm = varsG l) := by
  unfold zBB
  rw [zBK, pEq_d, pGt_d, zC0, zA8]
  by_cases h0 : l.length = 0
  · rw [decide_eq_true (by omega : (l.length : Int) = 0)]
    have : l = [] := List.eq_nil_of_length_eq_zero h0
    subst this
    exact ⟨[], 0, rfl, fun h => by cases h⟩
  rw [decide_eq_false (by omega : ¬ (l.length : Int) = 0), Bool.false_or]
  by_cases h1 : l.length ≤ 200
  · rw [decide_eq_false (by omega : ¬ (l.length : Int) > 200), ifB_f, show (0 : Int) = ((0 : Nat) : Int) from rfl, zBM (by omega : 0 < l.length), zA8, zA8, pNe_d]
    unfold rightG
    rw [decide_eq_true h1, Bool.true_and, zC4 (by omega : 0 < l.length)]
    have hko : kindOk 98 l[0].1 = decide (l[0].1 = 1) := by unfold kindOk; rw [if_pos rfl]
    rw [hko]
    by_cases h2 : l[0].1 = 1
    · rw [decide_eq_true h2, Bool.not_true, ifB_f, if_pos rfl]
      obtain ⟨dp, nm, q1, q2, q3⟩ := zF7 l hl S hS hS2 20 F 0 0 [] (by omega) (by omega) (by simp) (by omega)
      have q1 : zA0 F l ((0 : Nat) : Int) 1 ((0 : Nat) : Int) [] = some (toI (troot l 20 0), dp, nm) := q1
      rw [q1, zA8]
      simp only [zBK]
      have e3 : pEq (toI (troot l 20 0)) (l.length : Int) = decide (troot l 20 0 = some l.length) := by
        rw [pEq_d]
        cases troot l 20 0 with
        | none => rw [decide_eq_false (by show ¬ (-1 : Int) = _; omega), decide_eq_false (by simp)]
        | some e => exact decide_eq_decide.2 ⟨fun h => by have h : (e : Int) = l.length := h; congr 1; omega, fun h => by injection h with h; rw [h]; rfl⟩
      rw [e3]
      by_cases h3 : troot l 20 0 = some l.length
      · have hnm := q3 _ h3
        rw [zFD] at hnm
        have hnm : nm = varsG l := hnm
        rw [decide_eq_true h3, ifB_t, Bool.true_and, hnm]
        refine ⟨varsG l, dp, ?_, fun _ => rfl⟩
        have e4 : pLe ((varsG l).length : Int) 8 = decide ((varsG l).length ≤ 8) := by rw [pLe_d]; exact decide_eq_decide.2 (by omega)
        rw [e4]
      · rw [decide_eq_false h3, ifB_f, Bool.false_and]
        exact ⟨nm, dp, rfl, fun h => by cases h⟩
    · rw [decide_eq_false h2]
      exact ⟨[], 0, by simp [ifB_t, h0], fun h => by simp [h0] at h⟩
  · rw [decide_eq_true (by omega : (l.length : Int) > 200), ifB_t]
    unfold rightG
    rw [decide_eq_false h1]
    exact ⟨[], 0, rfl, fun h => by cases h⟩
end Go.AE.F
