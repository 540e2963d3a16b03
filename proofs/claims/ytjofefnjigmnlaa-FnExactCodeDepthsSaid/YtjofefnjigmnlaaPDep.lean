/- The depths of ops: one step of the walk, plain. -/
import Derived.Test.YtjofefnjigmnlaaPL
namespace Go.AE.F
open Go.AE

/-- the depth d is put at places; the new ones are to be walked from -/
def pushG (d : Int) : List Int → List Int × List Int → Option (List Int × List Int)
  | [], s => some s
  | k :: ks, s =>
    if s.1[k.toNat]? = some (-1) then pushG d ks (s.1.set k.toNat d, s.2 ++ [k])
    else if s.1[k.toNat]? = some d then pushG d ks s
    else none

structure DInv (n : Nat) (s : List Int × List Int) : Prop where
  len : s.1.length = n + 1
  rng : ∀ v ∈ s.1, -1 ≤ v ∧ v ≤ 24
  pla : ∀ k ∈ s.2, 0 ≤ k ∧ k ≤ (n : Int) ∧ ∃ v, s.1[k.toNat]? = some v ∧ 0 ≤ v

def meas (s : List Int × List Int) : Nat := s.1.count (-1) + s.2.length

theorem pushG_inv {n : Nat} {d : Int} (hd : 0 ≤ d ∧ d ≤ 24) : ∀ (ks : List Int) (s t : List Int × List Int), (∀ k ∈ ks, 0 ≤ k ∧ k ≤ (n : Int)) → DInv n s → pushG d ks s = some t →
    DInv n t ∧ meas t = meas s ∧ t.2.length ≤ s.2.length + ks.length ∧ ∀ v, s.1[n]? = some v → 0 ≤ v → t.1[n]? = some v
  | [], s, t, _, hs, h => by
    have := Option.some.inj h
    subst this
    exact ⟨hs, rfl, by simp, fun v hv _ => hv⟩
  | k :: ks, s, t, hk, hs, h => by
    unfold pushG at h
    have hk0 := hk k (by simp)
    have hks : ∀ k ∈ ks, 0 ≤ k ∧ k ≤ (n : Int) := fun k h => hk k (by simp [h])
    split at h
    · rename_i h1
      have hlt : k.toNat < s.1.length := by have := hs.len; omega
      have hg : s.1[k.toNat] = -1 := by
        rw [List.getElem?_eq_getElem hlt] at h1
        exact Option.some.inj h1
      have hs2 : DInv n (s.1.set k.toNat d, s.2 ++ [k]) := by
        refine ⟨by simp [hs.len], ?_, ?_⟩
        · intro v hv
          rcases List.mem_or_eq_of_mem_set hv with h | h
          · exact hs.rng v h
          · subst h; omega
        · intro j hj
          simp only [List.mem_append, List.mem_singleton] at hj
          rcases hj with hj | hj
          · obtain ⟨a, b, v, hv, hv0⟩ := hs.pla j hj
            refine ⟨a, b, v, ?_, hv0⟩
            have hne : k.toNat ≠ j.toNat := by
              intro he
              rw [← he, List.getElem?_eq_getElem hlt, hg] at hv
              have := Option.some.inj hv
              omega
            show (s.1.set k.toNat d)[j.toNat]? = some v
            rw [List.getElem?_set_ne hne]
            exact hv
          · subst hj
            refine ⟨hk0.1, hk0.2, d, ?_, hd.1⟩
            show (s.1.set j.toNat d)[j.toNat]? = some d
            rw [List.getElem?_set_self hlt]
      obtain ⟨i1, i2, i3, i4⟩ := pushG_inv hd ks _ t hks hs2 h
      refine ⟨i1, ?_, ?_, ?_⟩
      · rw [i2]
        unfold meas
        simp only [List.length_append, List.length_singleton]
        have hc : (s.1.set k.toNat d).count (-1) = s.1.count (-1) - 1 := by
          rw [List.count_set hlt, hg]
          have : (d == -1) = false := by simp; omega
          simp [this]
        have hp : 0 < s.1.count (-1) := List.count_pos_iff.2 (by rw [← hg]; exact List.getElem_mem hlt)
        omega
      · simp only [List.length_append, List.length_singleton] at i3
        simp only [List.length_cons]
        omega
      · intro v hv hv0
        refine i4 v ?_ hv0
        have hne : k.toNat ≠ n := by
          intro he
          rw [← he, List.getElem?_eq_getElem hlt, hg] at hv
          have := Option.some.inj hv
          omega
        show (s.1.set k.toNat d)[n]? = some v
        rw [List.getElem?_set_ne hne]
        exact hv
    · split at h
      · obtain ⟨i1, i2, i3, i4⟩ := pushG_inv hd ks s t hks hs h
        exact ⟨i1, i2, by simp only [List.length_cons]; omega, i4⟩
      · exact absurd h (by simp)

/-- without the last -/
theorem pop_inv {n : Nat} {o td : List Int} {k : Int} (h : DInv n (o, td ++ [k])) : DInv n (o, td) ∧ meas (o, td ++ [k]) = meas (o, td) + 1 :=
  ⟨⟨h.len, h.rng, fun j hj => h.pla j (List.mem_append_left _ hj)⟩, by unfold meas; simp; omega⟩

end Go.AE.F
