/- The longest common beginning: plain. -/
import Derived.Test.YtnojkkgeefhpaaaPComp
namespace Go.AE.F
open Go.AE

/-- the greatest place at most n with p, or 0 -/
def dn (p : Nat → Bool) : Nat → Nat
  | 0 => 0
  | n + 1 => if p (n + 1) = true then n + 1 else dn p n

theorem dn_le (p : Nat → Bool) : ∀ n, dn p n ≤ n
  | 0 => Nat.le_refl 0
  | n + 1 => by
    unfold dn
    split
    · exact Nat.le_refl _
    · exact Nat.le_succ_of_le (dn_le p n)

theorem dn_self (p : Nat → Bool) (n : Nat) (h : p n = true) : dn p n = n := by
  cases n with
  | zero => rfl
  | succ n => unfold dn; rw [if_pos h]

theorem dn_and (p q : Nat → Bool) (hp : ∀ n, p (n + 1) = true → p n = true) : ∀ n, dn (fun i => p i && q i) n = dn q (dn p n)
  | 0 => rfl
  | n + 1 => by
    cases h : p (n + 1) with
    | false =>
      have e1 : dn (fun i => p i && q i) (n + 1) = dn (fun i => p i && q i) n := by
        rw [dn]; simp only [h, Bool.false_and, Bool.false_eq_true, if_false]
      have e2 : dn p (n + 1) = dn p n := by rw [dn]; simp only [h, Bool.false_eq_true, if_false]
      rw [e1, e2, dn_and p q hp n]
    | true =>
      have e2 : dn p (n + 1) = n + 1 := dn_self p _ h
      rw [e2]
      cases hq : q (n + 1) with
      | true => rw [dn_self q _ hq, dn_self _ _ (by simp only [h, hq]; rfl)]
      | false =>
        have e1 : dn (fun i => p i && q i) (n + 1) = dn (fun i => p i && q i) n := by
          rw [dn]; simp only [h, hq, Bool.true_and, Bool.false_eq_true, if_false]
        have e3 : dn q (n + 1) = dn q n := by rw [dn]; simp only [hq, Bool.false_eq_true, if_false]
        rw [e1, e3, dn_and p q hp n, dn_self p n (hp n h)]

/-- c begins with the first n of x -/
def begN (x c : List Int) (n : Nat) : Bool := begG c (x.take n)

theorem begN_dn (x c : List Int) (n : Nat) (h : begN x c (n + 1) = true) : begN x c n = true := by
  unfold begN begG at h ⊢
  simp only [Bool.and_eq_true, decide_eq_true_eq, List.length_take] at h ⊢
  obtain ⟨h1, h2⟩ := h
  refine ⟨by omega, ?_⟩
  have := congrArg (List.take n) h2
  rw [List.take_take, List.take_take] at this
  rw [show min n (n + 1) = n from by omega] at this
  rw [← this]
  by_cases hn : n ≤ x.length
  · congr 1; omega
  · congr 1; omega

theorem begN_0 (x c : List Int) : begN x c 0 = true := by
  unfold begN begG
  simp

/-- the longest first part of x with which all begin -/
def comN (x : List Int) (cs : List (List Int)) (n : Nat) : Nat := dn (fun i => cs.all fun c => begN x c i) n

theorem comN_cons (x c : List Int) (cs : List (List Int)) (n : Nat) : comN x (c :: cs) n = comN x cs (dn (begN x c) n) := by
  unfold comN
  rw [← dn_and (begN x c) _ (begN_dn x c)]
  rfl

theorem comN_nil (x : List Int) (n : Nat) : comN x [] n = n := dn_self _ _ rfl

end Go.AE.F
