/- Plain laws of those functions. -/
import Derived.Test.YtpenpjbobpalcaaXCodeOfP7
namespace Go.AE.F
open Go.AE
theorem zBP {f : Nat → Nat → Option Nat} {k i a e : Nat} (h : tchainG f (k + 1) i a = some e) : ∃ m, f a i = some m ∧ tchainG f k (i + 1) m = some e := by
  unfold tchainG at h
  cases hf : f a i with
  | none => rw [hf] at h; cases h
  | some m => rw [hf] at h; exact ⟨m, rfl, h⟩
theorem zC1 {f : Nat → Nat → Option Nat} {i a e : Nat} (h : tchainG f 0 i a = some e) : a = e := by unfold tchainG at h; injection h
theorem zFA {names : List ByteArray} {s : ByteArray} (h : hasN names s = true) : atI (kwAt names 0 s) (-1) = atI (kwAt names 0 s) 0 := by
  unfold hasN at h
  rw [← zBW names 0 s] at h
  cases q : kwAt names 0 s with
  | none => rw [q] at h; cases h
  | some j => rfl
theorem zEM (l : List NodeT) (names : List ByteArray) (hnm : names.length ≤ 250) (hv : ∀ n ∈ l, (n.1 = 2 ∨ n.1 = 12) → hasN names n.2.2.1 = true) : ∀ (d F : Nat), 300 + d < F → ∀ (a e : Nat) (c : Int) (ops : List OpT),
    tendG l d a c = some e → e ≤ 1000 → ops.length + 4 * (e - a) ≤ 10000 → zA3 F (l, (names, (ops, ()))) (a : Int) = zA2 F (l, (names, (ops, ()))) (a : Int) := by
  intro d
  induction d with
  | zero => intro F hF a e c ops h; cases h
  | succ d ih =>
    intro F hF a e c ops ht he hb
    obtain ⟨F, rfl⟩ := zBL hF
    have rec' := ih F (by omega)
    obtain ⟨n, hg, ho, hkb, hc⟩ := zCN ht
    obtain ⟨⟨o1, o2, o3, o4⟩, hk⟩ := zDD ho hkb
    have hmem : n ∈ l := List.mem_of_getElem? hg
    have hle : ∀ a i e, tendG l d a (kidC n.1 i) = some e → a < e ∧ e ≤ l.length := fun a i e h => zBY d a _ e h
    have hal : a < l.length := (List.getElem?_eq_some_iff.1 hg).1
    have hae := zBU (B := l.length) hle _ _ _ _ (by omega) hc
    show zA3.st F (zA3 F) (l, (names, (ops, ()))) (a : Int) = zA2.st F (zA2 F) (l, (names, (ops, ()))) (a : Int)
    unfold zA3.st zA2.st
    rw [zF3]
    have hi : idx l (a : Int) = some n := by
      unfold idx
      rw [if_pos (by omega), Int.toNat_natCast, hg]
    have ea : pAdd .i64 (a : Int) 1 = ((a + 1 : Nat) : Int) := by rw [zBI (by omega) (by omega)]; rfl
    have hp1 := zBQ F l names ops 1 0 (by omega)
    simp only [hi, zA8, hp1, ea]
    have hl1 : (ops ++ [((1 : Int), ((0 : Int), ()))]).length = ops.length + 1 := by simp
    generalize hops1 : ops ++ [((1 : Int), ((0 : Int), ()))] = ops1 at hl1
    -- a subtree: both come to the same
    have sub : ∀ (a e : Nat) (i : Nat) (ops : List OpT), tendG l d a (kidC n.1 i) = some e → e ≤ 1000 → ops.length + 4 * (e - a) ≤ 10000 →
        ∃ ops' : List OpT, zA3 F (l, (names, (ops, ()))) (a : Int) = some ((e : Int), (l, (names, (ops', ())))) ∧ zA2 F (l, (names, (ops, ()))) (a : Int) = some ((e : Int), (l, (names, (ops', ())))) ∧ ops'.length ≤ ops.length + 4 * (e - a) := by
      intro a e i ops h1 h2 h3
      obtain ⟨r, r1, ops', r2, r3, r4⟩ := zD2 l names hnm d F (by omega) a e ops (zC6 d a _ e h1) h2 h3
      subst r2
      exact ⟨ops', (rec' a e _ ops h1 h2 h3).trans r1, r1, r4⟩
    by_cases h3 : n.1 = 3
    · simp only [pEq_t h3, ifB_t]
      rcases o3 h3 with hK | hK
      · rw [hK] at hc
        obtain ⟨x, c1, hc⟩ := zBP (k := 1) hc
        obtain ⟨y, c2, hc⟩ := zBP (k := 0) hc
        have hy := zC1 hc
        subst hy
        have l1 := hle _ _ _ c1
        have l2 := hle _ _ _ c2
        obtain ⟨ops2, i1, s1, b1⟩ := sub (a + 1) x 0 ops1 c1 (by omega) (by omega)
        have hp2 := zBQ F l names ops2 12 0 (by omega)
        simp only [i1, s1, zA8, hp2]
        have hl2 : (ops2 ++ [((12 : Int), ((0 : Int), ()))]).length = ops2.length + 1 := by simp
        obtain ⟨ops3, i2, s2, b2⟩ := sub x y 1 _ c2 (by omega) (by rw [hl2]; omega)
        simp only [i2, s2, zA8, pEq_f (show n.2.2.2.1 ≠ 3 by omega), ifB_f]
        rfl
      · rw [hK] at hc
        obtain ⟨x, c1, hc⟩ := zBP (k := 2) hc
        obtain ⟨y, c2, hc⟩ := zBP (k := 1) hc
        obtain ⟨z, c3, hc⟩ := zBP (k := 0) hc
        have hz := zC1 hc
        subst hz
        have l1 := hle _ _ _ c1
        have l2 := hle _ _ _ c2
        have l3 := hle _ _ _ c3
        obtain ⟨ops2, i1, s1, b1⟩ := sub (a + 1) x 0 ops1 c1 (by omega) (by omega)
        have hp2 := zBQ F l names ops2 12 0 (by omega)
        simp only [i1, s1, zA8, hp2]
        have hl2 : (ops2 ++ [((12 : Int), ((0 : Int), ()))]).length = ops2.length + 1 := by simp
        obtain ⟨ops3, i2, s2, b2⟩ := sub x y 1 _ c2 (by omega) (by rw [hl2]; omega)
        have hp3 := zBQ F l names ops3 11 0 (by omega)
        simp only [i2, s2, zA8, pEq_t hK, ifB_t, hp3, zCX]
        have hh : ∀ ops : List OpT, zAL F (l, (names, (ops, ()))) = some (ops.length : Int) := fun ops => rfl
        simp only [hh, zA8]
        have hl3 : (ops3 ++ [((11 : Int), ((0 : Int), ()))]).length = ops3.length + 1 := by simp
        generalize ops3 ++ [((11 : Int), ((0 : Int), ()))] = ops4 at hl3
        cases hq : idx ops4 (ops2.length : Int) with
        | none => rfl
        | some q =>
          simp only [zA8]
          have hl4 : (pSet ops4 (ops2.length : Int) (q.1, ((ops4.length : Int), q.2.2))).length = ops4.length := by simp [pSet]
          obtain ⟨ops5, i3, s3, b3⟩ := sub y z 2 (pSet ops4 (ops2.length : Int) (q.1, ((ops4.length : Int), q.2.2))) c3 (by omega) (by rw [hl4]; omega)
          simp only [i3, s3, zA8, hh]
    · simp only [pEq_f h3, ifB_f]
      by_cases h4 : n.1 = 4
      · simp only [pEq_t h4, ifB_t]
        rw [o4 h4] at hc
        obtain ⟨x, c1, hc⟩ := zBP (k := 1) hc
        obtain ⟨y, c2, hc⟩ := zBP (k := 0) hc
        have hy := zC1 hc
        subst hy
        have l1 := hle _ _ _ c1
        have l2 := hle _ _ _ c2
        have hh : ∀ ops : List OpT, zAL F (l, (names, (ops, ()))) = some (ops.length : Int) := fun ops => rfl
        obtain ⟨ops2, i1, s1, b1⟩ := sub (a + 1) x 0 ops1 c1 (by omega) (by omega)
        have hp2 := zBQ F l names ops2 12 0 (by omega)
        simp only [zCX, hh, i1, s1, zA8, hp2]
        have hl2 : (ops2 ++ [((12 : Int), ((0 : Int), ()))]).length = ops2.length + 1 := by simp
        obtain ⟨ops3, i2, s2, b2⟩ := sub x y 1 _ c2 (by omega) (by rw [hl2]; omega)
        have hp3 := zBQ F l names ops3 11 (ops1.length : Int) (by omega)
        simp only [i2, s2, zA8, hp3, hh]
      · simp only [pEq_f h4, ifB_f]
        obtain ⟨K, hK⟩ : ∃ K : Nat, n.2.2.2.1 = (K : Int) := ⟨n.2.2.2.1.toNat, by omega⟩
        rw [hK, Int.toNat_natCast] at hc
        rw [hK]
        obtain ⟨ops', q1, q2⟩ := zCP l names hnm d F (by omega) n K hK (by omega) (fun a e c ops h1 h2 h3 => rec' a e c ops h1 h2 h3) (fun d =>
            ifB (pEq d.2.2.1.1 1) (some (d.1, d.2.1)) (
            ifB (pEq d.2.2.1.1 2) (bindO (zA1 F d.2.1.2.1 d.2.2.1.2.2.1) fun y83 => bindO (zAA F d.2.1 4 y83) fun y84 => some (d.1, y84.2)) (
            ifB (pEq d.2.2.1.1 12) (bindO (zA1 F d.2.1.2.1 d.2.2.1.2.2.1) fun y85 => bindO (zAA F d.2.1 3 y85) fun y86 => some (d.1, y86.2)) (
            ifB (pEq d.2.2.1.1 11) (bindO (zAA F d.2.1 2 d.2.2.1.2.1) fun y87 => some (d.1, y87.2)) (
            ifB (pEq d.2.2.1.1 10) (bindO (zAZ F d.2.2.1.2.2.1) fun y88 => bindO (zAA F d.2.1 18 y88) fun y89 => some (d.1, y89.2)) (
            bindO (zB6 F d.2.2.1.1) fun y90 => ifB (pGt y90 0) (bindO (zAA F d.2.1 y90 0) fun y91 => some (d.1, y91.2)) (bindO (zAA F d.2.1 10 d.2.2.1.1) fun y92 => some (d.1, y92.2))))))))
          (fun d =>
            bindO (A := Int × MkT × Unit) (
            ifB (pEq d.2.2.1.1 2) (bindO (zA4 F d.2.1 d.2.2.1.2.2.1) fun y94 => bindO (zAA F d.2.1 4 y94) fun y95 => some (d.1, y95.2, ())) (
            ifB (pEq d.2.2.1.1 12) (bindO (zA4 F d.2.1 d.2.2.1.2.2.1) fun y96 => bindO (zAA F d.2.1 3 y96) fun y97 => some (d.1, y97.2, ())) (
            ifB (pEq d.2.2.1.1 11) (bindO (zAA F d.2.1 2 d.2.2.1.2.1) fun y98 => some (d.1, y98.2, ())) (
            ifB (pEq d.2.2.1.1 10) (bindO (zA9 F d.2.2.1.2.2.1) fun y99 => bindO (zAA F d.2.1 18 y99) fun y100 => some (d.1, y100.2, ())) (
            ifB (pGe d.2.2.1.1 18) (bindO (zAA F d.2.1 10 d.2.2.1.1) fun y101 => some (d.1, y101.2, ())) (
            bindO (zB1 F d.2.2.1.1) fun y102 => ifB (pGt y102 0) (bindO (zB1 F d.2.2.1.1) fun y103 => bindO (zAA F d.2.1 y103 0) fun y104 => some (d.1, y104.2, ())) (some (d.1, d.2.1, ()))))))))
            fun d => some (d.1, d.2.1)) e (by omega) K F 0 (a + 1) ops1 (by omega) (by omega) hc (by omega)
        refine q1.trans (Eq.trans ?_ q2.symm)
        simp only []
        have hfin : ∀ o : Option (Int × MkT), (bindO o fun y => some ((e : Int), y.2)) = bindO (A := Int × MkT × Unit) (bindO o fun y => some ((e : Int), y.2, ())) fun d => some (d.1, d.2.1) := fun o => by cases o <;> rfl
        have hsl : ∀ v, (n.1 = 2 ∨ n.1 = 12) → (bindO (zA1 F names n.2.2.1) fun y83 => bindO (zAA F (l, (names, (ops', ()))) v y83) fun y84 => some ((e : Int), y84.2)) =
            bindO (A := Int × MkT × Unit) (bindO (zA4 F (l, (names, (ops', ()))) n.2.2.1) fun y94 => bindO (zAA F (l, (names, (ops', ()))) v y94) fun y95 => some ((e : Int), y95.2, ())) fun d => some (d.1, d.2.1) := by
          intro v hvk
          rw [zC3 F names (by omega) (by omega), zEW F (l, (names, (ops', ()))) (by show names.length ≤ 1000000; omega) (by show names.length < F; omega), zA8, zA8, zFA (hv n hmem hvk)]
          exact hfin _
        by_cases k2 : n.1 = 2
        · simp only [pEq_f (show n.1 ≠ 1 by omega), pEq_t k2, ifB_f, ifB_t]
          exact hsl 4 (.inl k2)
        simp only [pEq_f k2, ifB_f]
        by_cases k12 : n.1 = 12
        · simp only [pEq_f (show n.1 ≠ 1 by omega), pEq_t k12, ifB_f, ifB_t]
          exact hsl 3 (.inr k12)
        simp only [pEq_f k12, ifB_f]
        by_cases k11 : n.1 = 11
        · simp only [pEq_f (show n.1 ≠ 1 by omega), pEq_t k11, ifB_f, ifB_t]
          exact hfin _
        simp only [pEq_f k11, ifB_f]
        by_cases k10 : n.1 = 10
        · simp only [pEq_f (show n.1 ≠ 1 by omega), pEq_t k10, ifB_f, ifB_t, zD5 F (by omega), zCL F (by omega), zA8]
          exact hfin _
        simp only [pEq_f k10, ifB_f]
        by_cases k18 : 18 ≤ n.1
        · have hz : zB1 F n.1 = some 0 := by
            unfold zB1
            rw [pEq_f (by omega), ifB_f, pEq_f (by omega), ifB_f, pEq_f (by omega), ifB_f, pEq_f (by omega), ifB_f, pEq_f (by omega), ifB_f, pEq_f (by omega), ifB_f, pEq_f (by omega), ifB_f, pEq_f (by omega), ifB_f, pEq_f (by omega), ifB_f, pEq_f (by omega), ifB_f]
          rw [pEq_f (show n.1 ≠ 1 by omega), ifB_f, zCZ, hz, zA8, pGe_t (by omega), ifB_t]
          exact hfin _
        · rw [pGe_f (by omega), ifB_f, zCZ]
          have : n.1 = 1 ∨ n.1 = 5 ∨ n.1 = 6 ∨ n.1 = 7 ∨ n.1 = 8 ∨ n.1 = 9 ∨ n.1 = 13 ∨ n.1 = 14 ∨ n.1 = 15 ∨ n.1 = 16 ∨ n.1 = 17 := by omega
          rcases this with z | z | z | z | z | z | z | z | z | z | z
          · rw [z]; rfl
          all_goals (rw [z]; exact hfin _)
theorem zE6 (l : List NodeT) (S : Nat) (hS : ∀ n ∈ l, n.2.2.1.size ≤ S) (hS2 : S ≤ 100000000) (F : Nat) (hF : S + 5000 < F) (hl : l.length ≤ 100000000) : zB9 F l = zB5 F l := by
  unfold zB9 zB5
  by_cases h4 : l.length ≤ 400
  · obtain ⟨nm, dp, q1, q2⟩ := zE3 l (by omega) S hS hS2 F (by omega)
    rw [q1, zA8, zBK, pGt_f (by omega), ifB_f, zEI F (by omega) l (by omega), zA8, zA8]
    cases hr : rightG l with
    | false => rfl
    | true =>
      simp only [zBS, Bool.not_true, ifB_f]
      rw [q2 hr, zDW F (by omega) l (by omega), zA8]
      have hr2 := hr
      unfold rightG at hr2
      simp only [Bool.and_eq_true, decide_eq_true_eq] at hr2
      obtain ⟨⟨r1, r2⟩, r3⟩ := hr2
      rw [show (0 : Int) = ((0 : Nat) : Int) from rfl, zEM l (varsG l) (by omega) (fun n hn hk => zDJ l [] n hn hk) 20 F (by omega) 0 l.length 98 [] r2 (by omega) (by simp only [List.length_nil]; omega)]
  · rw [zBK, pGt_t (by omega), ifB_t, zA8, ifB_t]
    unfold zBB
    rw [zBK, pEq_d, pGt_d, zC0, zA8, decide_eq_true (by omega : (l.length : Int) > 200), Bool.or_true, ifB_t, zA8, ifB_t, zA8]
    rfl
end Go.AE.F
