/- Plain laws of those functions. -/
import Derived.Test.YtjidbkkiehifaaaGreatLViP13
namespace Go.AE.F
open Go.AE
theorem bl_ssub (s : ByteArray) (p : Nat) : bl (ssub s (p : Int) (pSize s)) = (bl s).drop p := by
  unfold bl ssub pSize
  have : (s.extract ((p : Int)).toNat ((s.size : Int)).toNat).data.toList = s.data.toList.drop p := by
    rw [ByteArray.data_extract, Array.toList_extract]
    have h1 : ((s.size : Int)).toNat = s.data.toList.length := by rw [Array.length_toList]; rfl
    rw [h1, Int.toNat_natCast, List.extract_eq_take_drop, List.take_of_length_le (by rw [List.length_drop]; exact Nat.le_refl _)]
  rw [this, List.map_drop]
theorem opG_right {b : BufT} {r : RingT} (hb : bufG b = true) (hr : ringG r = true) (k i j u : Int) (h0 : 0 ≤ i) (h1 : i ≤ j) (h2 : j ≤ b.1.length) : bufG (vcutG b r k i j u).1 = true ∧ ringG (vcutG b r k i j u).2.1 = true := by
  refine ⟨?_, rpush_right hr (sub_pts hb i j)⟩
  show bufG (if k = 121 then (b.1, (i, b.2.2)) else delB b i j) = true
  obtain ⟨k1, k2, k3, k4, k5⟩ := bufG_iff.1 hb
  split
  · exact bufG_iff.2 ⟨k1, h0, by show i ≤ (b.1.length : Int); omega, k4, k5⟩
  · exact (delB_ok hb h0 h1 h2).1
theorem cur_right {b : BufT} (hb : bufG b = true) {c : Int} (h0 : 0 ≤ c) (h1 : c ≤ b.1.length) : bufG (b.1, (c, b.2.2)) = true := by
  obtain ⟨k1, k2, k3, k4, k5⟩ := bufG_iff.1 hb
  exact bufG_iff.2 ⟨k1, h0, h1, k4, k5⟩
theorem opV_right {b : BufT} {r : RingT} (hb : bufG b = true) (hr : ringG r = true) (k a c u : Int) (hc : 1 ≤ c ∧ c ≤ 999) (h : (vopV b r k a c u).2.2.2.2.1 = 0) : bufG (vopV b r k a c u).1 = true ∧ ringG (vopV b r k a c u).2.1 = true ∧ (vopV b r k a c u).2.2.2.1 = u := by
  unfold vopV at h ⊢
  by_cases h1 : a = k
  · rw [if_pos h1] at h ⊢
    obtain ⟨q0, q1, q2⟩ := se_in hb
    obtain ⟨x, y⟩ := opG_right (u := u) hb hr k _ _ q0 q1 q2
    exact ⟨x, y, rfl⟩
  · rw [if_neg h1] at h ⊢
    by_cases h2 : 1 ≤ kindG a ∧ kindG a ≤ 6
    · rw [if_pos h2] at h ⊢
      have hm := motG_in b hb (kindG a) c (by omega) (by omega)
      obtain ⟨q0, q1, q2⟩ := mm_in hb hm.1 hm.2
      obtain ⟨x, y⟩ := opG_right (u := u) hb hr k _ _ q0 q1 q2
      exact ⟨x, y, rfl⟩
    · rw [if_neg h2] at h
      exact absurd h (by show ¬ (3 : Int) = 0; omega)
theorem putB_right {b : BufT} (hb : bufG b = true) (k : Int) : bufG (putB b k) = true := by
  obtain ⟨k1, k2, k3, k4, k5⟩ := bufG_iff.1 hb
  unfold putB
  split
  · refine cur_right hb ?_ ?_ <;> unfold minG <;> split <;> omega
  · exact hb
theorem tildeV_right {b : BufT} (hb : bufG b = true) (t : Bool) (r : RingT) (c u : Int) (hc : 1 ≤ c) : bufG (tildeV t b r c u).1 = true := by
  obtain ⟨k1, k2, k3, k4, k5⟩ := bufG_iff.1 hb
  obtain ⟨e1, e2⟩ := endT_in hb hc
  obtain ⟨o1, o2, _⟩ := ptsT_ok hb hc
  refine bufG_iff.2 ⟨o2, ?_, ?_, ?_, ?_⟩
  · show 0 ≤ endT b c; omega
  · show endT b c ≤ ((ptsT b c).length : Int); rw [o1]; exact e2
  · show 0 ≤ (if t = true then mvG b.2.2.1 b.2.1 (endT b c) 0 else b.2.2.1)
    unfold mvG; split <;> (try split) <;> (try split) <;> omega
  · show (if t = true then mvG b.2.2.1 b.2.1 (endT b c) 0 else b.2.2.1) ≤ ((ptsT b c).length : Int)
    rw [o1]; unfold mvG; split <;> (try split) <;> (try split) <;> omega
theorem viM_right {b : BufT} {r : RingT} (hb : bufG b = true) (hr : ringG r = true) (t : Bool) (L : List Int) (h : (viM t b r L).2.2.2.2.1 = 0) :
    bufG (viM t b r L).1 = true ∧ ringG (viM t b r L).2.1 = true ∧ 1 ≤ (viM t b r L).2.2.2.1 ∧ (viM t b r L).2.2.2.1 ≤ L.length := by
  obtain ⟨r1, r2, r3, r4⟩ := readG_ok L
  obtain ⟨k1, k2, k3, k4, k5⟩ := bufG_iff.1 hb
  obtain ⟨q0, q1, q2⟩ := se_in hb
  unfold viM at h ⊢
  generalize (readG L).2 = c at *
  generalize L.getD ((readG L).1 + 1) 0 = a at *
  generalize L.getD (readG L).1 0 = k at *
  by_cases hd : (readG L).1 = L.length
  · rw [if_pos hd] at h; exact absurd h (by show ¬ (9 : Int) = 0; omega)
  rw [if_neg hd] at h ⊢
  by_cases h1 : inDyc k
  · rw [if_pos h1] at h ⊢
    by_cases h2 : (readG L).1 + 1 = L.length
    · rw [if_pos h2] at h; exact absurd h (by show ¬ (9 : Int) = 0; omega)
    rw [if_neg h2] at h ⊢
    obtain ⟨x, y, z⟩ := opV_right hb hr k a c _ ⟨r3, r4⟩ h
    exact ⟨x, y, by rw [z]; omega, by rw [z]; omega⟩
  rw [if_neg h1] at h ⊢
  by_cases h2 : k = 120
  · rw [if_pos h2] at h ⊢
    obtain ⟨x, y, z⟩ := opV_right hb hr 100 108 c _ ⟨r3, r4⟩ h
    exact ⟨x, y, by rw [z]; omega, by rw [z]; omega⟩
  rw [if_neg h2] at h ⊢
  by_cases h3 : k = 112 ∨ k = 80
  · rw [if_pos h3] at h ⊢
    unfold putV at h ⊢
    by_cases h4 : (yanks r c.toNat (putB b k)).1 = 0
    · rw [if_pos h4]
      exact ⟨yanks_right hr _ _ (putB_right hb k), hr, by show (1 : Int) ≤ (((readG L).1 + 1 : Nat) : Int); omega, by show (((readG L).1 + 1 : Nat) : Int) ≤ _; omega⟩
    · rw [if_neg h4] at h; exact absurd h h4
  rw [if_neg h3] at h ⊢
  have hu : (1 : Int) ≤ (((readG L).1 + 1 : Nat) : Int) ∧ (((readG L).1 + 1 : Nat) : Int) ≤ (L.length : Int) := ⟨by omega, by omega⟩
  by_cases h4 : k = 126
  · rw [if_pos h4]; exact ⟨tildeV_right hb t r c _ r3, hr, hu.1, hu.2⟩
  rw [if_neg h4] at h ⊢
  by_cases h5 : k = 105
  · rw [if_pos h5]; exact ⟨hb, hr, hu.1, hu.2⟩
  rw [if_neg h5] at h ⊢
  by_cases h6 : k = 97
  · rw [if_pos h6]; exact ⟨cur_right hb (by unfold minG; split <;> omega) (by unfold minG; split <;> omega), hr, hu.1, hu.2⟩
  rw [if_neg h6] at h ⊢
  by_cases h7 : k = 65
  · rw [if_pos h7]; exact ⟨cur_right hb (by omega) q2, hr, hu.1, hu.2⟩
  rw [if_neg h7] at h ⊢
  by_cases h8 : k = 73
  · rw [if_pos h8]; exact ⟨cur_right hb (by omega) (by omega), hr, hu.1, hu.2⟩
  rw [if_neg h8] at h ⊢
  by_cases h9 : kindG k = 0
  · rw [if_pos h9] at h; exact absurd h (by show ¬ (3 : Int) = 0; omega)
  rw [if_neg h9]
  have hm := motG_in b hb (kindG k) c (by have := kindG_rng k; omega) (by omega)
  exact ⟨cur_right hb hm.1 hm.2, hr, hu.1, hu.2⟩
def simB (b b' : BufT) : Prop := b.1 = b'.1 ∧ b.2.1 = b'.2.1
def simV (y y' : VT) : Prop := simB y.1 y'.1 ∧ y.2 = y'.2
theorem simV_fail (c : Int) : simV (failV c) (failV c) := ⟨⟨rfl, rfl⟩, rfl⟩
theorem delB_sim {b b' : BufT} (hb : bufG b = true) (hb' : bufG b' = true) (h : simB b b') {i j : Int} (h0 : 0 ≤ i) (h1 : i ≤ j) (h2 : j ≤ b.1.length) : simB (delB b i j) (delB b' i j) :=
  ⟨by rw [(delB_ok hb h0 h1 h2).2, (delB_ok hb' h0 h1 (by rw [← h.1]; exact h2)).2, h.1], rfl⟩
theorem opG_sim {b b' : BufT} (hb : bufG b = true) (hb' : bufG b' = true) (h : simB b b') (r : RingT) (k u : Int) {i j : Int} (h0 : 0 ≤ i) (h1 : i ≤ j) (h2 : j ≤ b.1.length) : simV (vcutG b r k i j u) (vcutG b' r k i j u) := by
  unfold vcutG okVi
  refine ⟨?_, by rw [h.1]⟩
  show simB (if k = 121 then (b.1, (i, b.2.2)) else delB b i j) (if k = 121 then (b'.1, (i, b'.2.2)) else delB b' i j)
  by_cases hk : k = 121
  · rw [if_pos hk, if_pos hk]; exact ⟨h.1, rfl⟩
  · rw [if_neg hk, if_neg hk]; exact delB_sim hb hb' h h0 h1 h2
theorem mot_sim {b b' : BufT} (hb : bufG b = true) (hb' : bufG b' = true) (h : simB b b') (k c d : Int) : motG b k c d = motG b' k c d := by
  obtain ⟨p, c1, m, u⟩ := b
  obtain ⟨p', c2, m', u'⟩ := b'
  obtain ⟨rfl, rfl⟩ : p = p' ∧ c1 = c2 := h
  exact motG_congr p c1 m m' u u' hb hb' k c d
theorem opV_sim {b b' : BufT} (hb : bufG b = true) (hb' : bufG b' = true) (h : simB b b') (r : RingT) (k a c u : Int) (hc : 1 ≤ c ∧ c ≤ 999) : simV (vopV b r k a c u) (vopV b' r k a c u) := by
  unfold vopV
  by_cases h1 : a = k
  · rw [if_pos h1, if_pos h1, ← h.1, ← h.2]
    obtain ⟨q0, q1, q2⟩ := se_in hb
    exact opG_sim hb hb' h r k u q0 q1 q2
  rw [if_neg h1, if_neg h1]
  by_cases h2 : 1 ≤ kindG a ∧ kindG a ≤ 6
  · rw [if_pos h2, if_pos h2, ← h.2, ← mot_sim hb hb' h]
    have hm := motG_in b hb (kindG a) c (by omega) (by omega)
    obtain ⟨q0, q1, q2⟩ := mm_in hb hm.1 hm.2
    exact opG_sim hb hb' h r k u q0 q1 q2
  · rw [if_neg h2, if_neg h2]; exact simV_fail 3
theorem repl_sim {b b' : BufT} (h : simB b b') (i j : Int) (ps : List Int) : simB (replG b i j ps).1 (replG b' i j ps).1 ∧ (replG b i j ps).2 = (replG b' i j ps).2 := by
  obtain ⟨p, c1, m, u⟩ := b
  obtain ⟨p', c2, m', u'⟩ := b'
  obtain ⟨rfl, rfl⟩ : p = p' ∧ c1 = c2 := h
  unfold replG
  simp only []
  split
  · exact ⟨⟨rfl, rfl⟩, rfl⟩
  · split <;> exact ⟨⟨rfl, rfl⟩, rfl⟩
theorem yank_sim {b b' : BufT} (hb : bufG b = true) (hb' : bufG b' = true) (h : simB b b') (r : RingT) : simB (yankG r b).1 (yankG r b').1 ∧ (yankG r b).2 = (yankG r b').2 := by
  unfold yankG
  rw [hb, hb', ← h.2]
  obtain ⟨a1, a2⟩ := repl_sim h b.2.1 b.2.1 (atG r r.2.1)
  rw [← a2]
  split
  · exact ⟨⟨rfl, rfl⟩, rfl⟩
  split
  · exact ⟨⟨rfl, rfl⟩, rfl⟩
  split
  · exact ⟨⟨rfl, rfl⟩, rfl⟩
  · exact ⟨a1, rfl⟩
theorem yanks_sim {r : RingT} (hr : ringG r = true) : ∀ (n : Nat) (b b' : BufT), bufG b = true → bufG b' = true → simB b b' → (yanks r n b).1 = (yanks r n b').1 ∧ simB (yanks r n b).2 (yanks r n b').2
  | 0, b, b', _, _, h => ⟨rfl, h⟩
  | n + 1, b, b', hb, hb', h => by
    obtain ⟨a1, a2⟩ := yank_sim hb hb' h r
    unfold yanks
    rw [← a2]
    by_cases hc : (yankG r b).2.2.2.1 = 0
    · rw [if_neg (by simp [hc]), if_neg (by simp [hc])]
      exact yanks_sim hr n _ _ (yank_right hr hb hc).1 (yank_right hr hb' (by rw [← a2]; exact hc)).1 a1
    · rw [if_pos hc, if_pos hc]; exact ⟨rfl, h⟩
theorem putB_sim {b b' : BufT} (h : simB b b') (k : Int) : simB (putB b k) (putB b' k) := by
  unfold putB
  split
  · exact ⟨h.1, by rw [h.1, h.2]⟩
  · exact h
theorem viM_sim {b b' : BufT} (hb : bufG b = true) (hb' : bufG b' = true) (h : simB b b') (r : RingT) (hr : ringG r = true) (t t' : Bool) (L : List Int) : simV (viM t b r L) (viM t' b' r L) := by
  obtain ⟨r1, r2, r3, r4⟩ := readG_ok L
  unfold viM
  generalize (readG L).2 = c at *
  generalize L.getD ((readG L).1 + 1) 0 = a at *
  generalize L.getD (readG L).1 0 = k at *
  by_cases hd : (readG L).1 = L.length
  · rw [if_pos hd, if_pos hd]; exact simV_fail 9
  rw [if_neg hd, if_neg hd]
  by_cases h1 : inDyc k
  · rw [if_pos h1, if_pos h1]
    by_cases h2 : (readG L).1 + 1 = L.length
    · rw [if_pos h2, if_pos h2]; exact simV_fail 9
    rw [if_neg h2, if_neg h2]
    exact opV_sim hb hb' h r k a c _ ⟨r3, r4⟩
  rw [if_neg h1, if_neg h1]
  by_cases h2 : k = 120
  · rw [if_pos h2, if_pos h2]; exact opV_sim hb hb' h r 100 108 c _ ⟨r3, r4⟩
  rw [if_neg h2, if_neg h2]
  by_cases h3 : k = 112 ∨ k = 80
  · rw [if_pos h3, if_pos h3]
    unfold putV
    obtain ⟨a1, a2⟩ := yanks_sim hr c.toNat _ _ (putB_right hb k) (putB_right hb' k) (putB_sim h k)
    rw [← a1]
    split
    · exact ⟨a2, rfl⟩
    · exact simV_fail _
  rw [if_neg h3, if_neg h3]
  by_cases h4 : k = 126
  · rw [if_pos h4, if_pos h4]
    have e : endT b c = endT b' c := by unfold endT; rw [h.1, h.2]
    have e2 : ptsT b c = ptsT b' c := by unfold ptsT; rw [e, h.1, h.2]
    exact ⟨⟨e2, e⟩, rfl⟩
  rw [if_neg h4, if_neg h4]
  by_cases h5 : k = 105
  · rw [if_pos h5, if_pos h5]; exact ⟨h, rfl⟩
  rw [if_neg h5, if_neg h5]
  by_cases h6 : k = 97
  · rw [if_pos h6, if_pos h6]; exact ⟨⟨h.1, by show minG _ _ = minG _ _; rw [h.1, h.2]⟩, rfl⟩
  rw [if_neg h6, if_neg h6]
  by_cases h7 : k = 65
  · rw [if_pos h7, if_pos h7]; exact ⟨⟨h.1, by show ((endG b.1 b.2.1.toNat : Nat) : Int) = ((endG b'.1 b'.2.1.toNat : Nat) : Int); rw [h.1, h.2]⟩, rfl⟩
  rw [if_neg h7, if_neg h7]
  by_cases h8 : k = 73
  · rw [if_pos h8, if_pos h8]; exact ⟨⟨h.1, by show ((startG b.1 b.2.1.toNat : Nat) : Int) = ((startG b'.1 b'.2.1.toNat : Nat) : Int); rw [h.1, h.2]⟩, rfl⟩
  rw [if_neg h8, if_neg h8]
  by_cases h9 : kindG k = 0
  · rw [if_pos h9, if_pos h9]; exact simV_fail 3
  rw [if_neg h9, if_neg h9]
  exact ⟨⟨h.1, mot_sim hb hb' h _ _ _⟩, rfl⟩
def runM (t : Bool) : Nat → BufT → RingT → Bool → Int → List Int → VT
  | 0, b, r, i, u, _ => okVi b r i u
  | n + 1, b, r, i, u, L => if L.length = 0 ∨ i = true then okVi b r i u else
    if (viM t b r L).2.2.2.2.1 ≠ 0 then (b, (r, (i, (u, ((viM t b r L).2.2.2.2.1, ()))))) else
    runM t n (viM t b r L).1 (viM t b r L).2.1 (viM t b r L).2.2.1 (u + (viM t b r L).2.2.2.1) (L.drop (viM t b r L).2.2.2.1.toNat)
theorem runM_sim (t t' : Bool) : ∀ (n : Nat) (b b' : BufT) (r : RingT) (i : Bool) (u : Int) (L : List Int), bufG b = true → bufG b' = true → ringG r = true → simB b b' → simV (runM t n b r i u L) (runM t' n b' r i u L)
  | 0, b, b', r, i, u, L, _, _, _, h => ⟨h, rfl⟩
  | n + 1, b, b', r, i, u, L, hb, hb', hr, h => by
    unfold runM
    by_cases h0 : L.length = 0 ∨ i = true
    · rw [if_pos h0, if_pos h0]; exact ⟨h, rfl⟩
    rw [if_neg h0, if_neg h0]
    obtain ⟨s1, s2⟩ := viM_sim hb hb' h r hr t t' L
    rw [← s2]
    by_cases hc : (viM t b r L).2.2.2.2.1 = 0
    · rw [if_neg (by simp [hc]), if_neg (by simp [hc])]
      have g1 := viM_right hb hr t L hc
      exact runM_sim t t' n _ _ _ _ _ _ g1.1 (viM_right hb' hr t' L (by rw [← s2]; exact hc)).1 g1.2.1 s1
    · rw [if_pos hc, if_pos hc]; exact ⟨h, rfl⟩
theorem runM_right (t : Bool) : ∀ (n : Nat) (b : BufT) (r : RingT) (i : Bool) (u : Int) (L : List Int), bufG b = true → ringG r = true → bufG (runM t n b r i u L).1 = true ∧ ringG (runM t n b r i u L).2.1 = true
  | 0, b, r, i, u, L, hb, hr => ⟨hb, hr⟩
  | n + 1, b, r, i, u, L, hb, hr => by
    unfold runM
    split
    · exact ⟨hb, hr⟩
    split
    · exact ⟨hb, hr⟩
    · rename_i h0 hc
      have g1 := viM_right hb hr t L (by simpa using hc)
      exact runM_right t n _ _ _ _ _ g1.1 g1.2.1
end Go.AE.F
