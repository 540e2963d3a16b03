/- Plain laws of those functions. -/
import Derived.Test.YtcgbobehdjgjpaaGreatLViBackP9
namespace Go.AE.F
open Go.AE
abbrev VT := BufT × RingT × Bool × Int × Int × Unit
def failV (c : Int) : VT := (([], (0, (0, ()))), (([], (0, ())), (false, (0, (c, ())))))
def okVi (b : BufT) (r : RingT) (i : Bool) (u : Int) : VT := (b, (r, (i, (u, (0, ())))))
def kindG (a : Int) : Int := if a = 104 then 1 else if a = 108 then 2 else if a = 98 then 3 else if a = 119 then 4 else if a = 48 then 5 else if a = 36 then 6 else if a = 107 then 7 else if a = 106 then 8 else if a = 103 then 9 else if a = 71 then 10 else 0
theorem ifB_dec {R : Type} {p : Prop} [Decidable p] {a b : Option R} : ifB (decide p) a b = if p then a else b := by
  unfold ifB; by_cases h : p <;> simp [h]
theorem implKind_eq (N : Nat) (a : Int) : zCF N a = some (kindG a) := by
  unfold zCF kindG
  simp only [pEq_d, ifB_dec]
  repeat' split
  all_goals rfl
theorem specKind_eq (N : Nat) (hN : 11 ≤ N) (a : Int) : zAY N a = some (kindG a) := by
  obtain ⟨M, rfl⟩ : ∃ M, N = M + 11 := ⟨N - 11, by omega⟩
  rw [kind_eq, implKind_eq]
theorem kindG_rng (a : Int) : 0 ≤ kindG a ∧ kindG a ≤ 10 := by
  unfold kindG
  repeat' split
  all_goals omega
theorem motion_eq (N : Nat) (b : BufT) (hb : bufG b = true) (k c : Int) (hN : 1001 < N) (hk : 1 ≤ k ∧ k ≤ 11) (hc : 0 ≤ c ∧ c ≤ 1000) : zAM N b k c 0 = some (motG b k c 0) := by
  have h := impl_Motion_eq N b k c 0 hN (by have := ptsG_len (bufG_iff.1 hb).1; omega) (by have := ptsG_len (bufG_iff.1 hb).1; omega)
  unfold zCU at h
  rw [impl_BufRight_eq N b (by have := ptsG_len (bufG_iff.1 hb).1; omega) (by have := ptsG_len (bufG_iff.1 hb).1; omega), bindO_s, hb] at h
  simp only [impl_within_eq, ifB_or, bindO_s, pNot_d] at h
  rw [decide_eq_true hk.1, decide_eq_true hk.2, decide_eq_true hc.1, decide_eq_true hc.2] at h
  simp only [Bool.and_self, Bool.not_true, Bool.or_self, ifB_f] at h
  cases hm : zAM N b k c 0 with
  | none => rw [hm] at h; cases h
  | some v => rw [hm, bindO_s] at h; exact h
theorem motG_in (b : BufT) (hb : bufG b = true) (k c : Int) (hk : 1 ≤ k ∧ k ≤ 11) (hc : 0 ≤ c ∧ c ≤ 1000) : 0 ≤ motG b k c 0 ∧ motG b k c 0 ≤ b.1.length := by
  obtain ⟨_, h2, h3, _⟩ := bufG_iff.1 hb
  unfold motG
  rw [hb, decide_eq_true hk.1, decide_eq_true hk.2, decide_eq_true hc.1, decide_eq_true hc.2]
  simp only [Bool.and_self, if_true]
  have := iter_le (b := b) (k := k) (c := 0) c.toNat b.2.1.toNat (by omega)
  omega
theorem ringOk_of {N : Nat} (hN : 1000 < N) {r : RingT} (h : ringG r = true) : ringOk N r := by
  obtain ⟨g1, g2, g3, g4⟩ := ringG_iff.1 h
  have hx : ∀ x ∈ r.1, x.length ≤ 300 := fun x hx => ptsG_len (itemG_pts (g2 x hx)).1
  have hsum : ∀ (l : List (List Int)), (∀ x ∈ l, x.length ≤ 300) → sumLen l ≤ 300 * l.length := by
    intro l
    induction l with
    | nil => intro _; simp [sumLen]
    | cons x xs ih =>
      intro h
      have := ih (fun y hy => h y (List.mem_cons_of_mem _ hy))
      have := h x (List.mem_cons_self ..)
      rw [sumLen_c, List.length_cons, Nat.mul_succ]; omega
  have := hsum r.1 hx
  exact ⟨by omega, by omega, fun x h => by have := hx x h; omega, by omega⟩
theorem itemG_nil : itemG [] = false := rfl
theorem itemG_of {p : List Int} (h : ptsG p = true) (h0 : 0 < p.length) : itemG p = true := by
  unfold itemG; rw [h, decide_eq_true h0]; rfl
theorem rpush_right {r : RingT} {p : List Int} (hr : ringG r = true) (hp : ptsG p = true) : ringG (rpushG r p) = true := by
  have hl := ptsG_len hp
  obtain ⟨g1, g2, g3, g4⟩ := ringG_iff.1 hr
  unfold rpushG
  rw [if_neg (by omega), hr]
  cases hi : itemG p with
  | false => exact hr
  | true =>
    rw [if_neg (by simp)]
    refine ringG_iff.2 ⟨by simp only [List.length_take]; omega, fun x hx => ?_, by show (0 : Int) ≤ 0; omega, .inl ?_⟩
    · rcases List.mem_cons.1 (List.mem_of_mem_take hx) with rfl | hx
      · exact hi
      · exact g2 x hx
    · show (0 : Int) < (((p :: r.1).take 10).length : Int)
      rw [List.length_take, List.length_cons]; omega
def delB (b : BufT) (i j : Int) : BufT := ((replG b i j []).1.1, (i, (replG b i j []).1.2.2))
theorem delB_ok {b : BufT} (hb : bufG b = true) {i j : Int} (h0 : 0 ≤ i) (h1 : i ≤ j) (h2 : j ≤ b.1.length) : bufG (delB b i j) = true ∧ (delB b i j).1 = b.1.take i.toNat ++ b.1.drop j.toNat := by
  obtain ⟨k1, k2, k3, k4, k5⟩ := bufG_iff.1 hb
  have hl := ptsG_len k1
  have e : replG b i j [] = ((sub b.1 0 i ++ [] ++ sub b.1 j b.1.length, ((if i = j ∧ b.2.1 = i then i + (([] : List Int).length : Int) else mvG b.2.1 i j ((([] : List Int).length : Int) - (j - i))), (mvG b.2.2.1 i j ((([] : List Int).length : Int) - (j - i)), ()))), (sub b.1 i j, (0, ()))) := by
    unfold replG
    rw [if_neg (by omega), if_neg (by simp; omega)]
  have e1 : sub b.1 0 i = b.1.take i.toNat := by unfold sub; rfl
  have e2 : sub b.1 j (b.1.length : Int) = b.1.drop j.toNat := by unfold sub; simp
  unfold delB
  rw [e]
  simp only [e1, e2, List.append_nil]
  refine ⟨?_, trivial⟩
  have hln : (b.1.take i.toNat ++ b.1.drop j.toNat).length = i.toNat + (b.1.length - j.toNat) := by simp; omega
  refine bufG_iff.2 ⟨?_, h0, ?_, ?_, ?_⟩
  · refine ptsG_app (ptsG_sub k1 (List.take_sublist _ _)) (ptsG_sub k1 (List.drop_sublist _ _)) ?_
    simp only [List.length_take, List.length_drop]; omega
  · show i ≤ ((b.1.take i.toNat ++ b.1.drop j.toNat).length : Int); rw [hln]; omega
  · show 0 ≤ mvG b.2.2.1 i j _
    unfold mvG; simp only [List.length_nil]; split <;> (try split) <;> omega
  · show mvG b.2.2.1 i j _ ≤ ((b.1.take i.toNat ++ b.1.drop j.toNat).length : Int)
    rw [hln]
    unfold mvG; simp only [List.length_nil]; split <;> (try split) <;> omega
def vcutG (b : BufT) (r : RingT) (k i j u : Int) : VT := okVi (if k = 121 then (b.1, (i, b.2.2)) else delB b i j) (rpushG r (sub b.1 i j)) (decide (k = 99)) u
theorem vdelete_eq (N : Nat) (b : BufT) (hb : bufG b = true) (i j : Int) (hN : 2000 < N) (hi : 0 ≤ i ∧ i ≤ 1000) (hj : 0 ≤ j ∧ j ≤ 1000) : zBZ N b i j = some (replG b i j []) := by
  unfold zBZ
  rw [spec_Replace_eq N b i j [] hb rfl (by omega) (by omega) (by omega), bindO_s]
theorem cp1 (N : Nat) (b : BufT) (h : b.1.length ≤ 68719476736) : zBW N b = some b := by
  unfold zBW; rw [copy_eq N _ h, bindO_s]
theorem own1 (N : Nat) (b : BufT) (h : b.1.length ≤ 68719476736) : zCN N b = some b := by
  unfold zCN; rw [clone_eq N _ h, bindO_s]
theorem cpr (N : Nat) (hN : 1000 < N) (r : RingT) (h : ringG r = true) : zBN N r = some r := by
  obtain ⟨q1, q2, q3, q4⟩ := ringOk_of hN h
  unfold zBN
  rw [copyAll_eq N r.1 (by omega) q1 (fun x hx => by have := q3 x hx; omega), bindO_s]
theorem ownr (N : Nat) (hN : 1000 < N) (r : RingT) (h : ringG r = true) : zCG N r = some r := by
  obtain ⟨q1, q2, q3, q4⟩ := ringOk_of hN h
  unfold zCG
  rw [ownLists_eq N r.1 (by omega) q1 (fun x hx => by have := q3 x hx; omega), bindO_s]
theorem sub_pts {b : BufT} (hb : bufG b = true) (i j : Int) : ptsG (sub b.1 i j) = true := ptsG_sub (bufG_iff.1 hb).1 (sub_sublist _ _ _)
theorem spec_take_eq (N : Nat) (hN : 2000 < N) (b : BufT) (r : RingT) (hb : bufG b = true) (hr : ringG r = true) (i j : Int) (cut : Bool) (h0 : 0 ≤ i) (h1 : i ≤ j) (h2 : j ≤ b.1.length) :
    zCH N b r i j cut = some (if cut = true then delB b i j else (b.1, (i, b.2.2)), rpushG r (sub b.1 i j)) := by
  have hl := ptsG_len (bufG_iff.1 hb).1
  have hsl := ptsG_len (sub_pts hb i j)
  unfold zCH
  rw [pLe_t h0, ifB_t, pLe_t h1, ifB_t, pLen_d, pLe_t h2, ifB_t, spec_RingPush_eq N r _ (by omega) (ringOk_of (by omega) hr) (by omega), bindO_s, cp1 N b (by omega), bindO_s]
  cases cut with
  | true => rw [ifB_t, vdelete_eq N b hb i j hN (by omega) (by omega), bindO_s]; rfl
  | false => rfl
theorem impl_cut_eq (N : Nat) (hN : 2000 < N) (b : BufT) (r : RingT) (q : Bool × Int × Int × Unit) (hb : bufG b = true) (hr : ringG r = true) (i j : Int) (tk : Bool) (h0 : 0 ≤ i) (h1 : i ≤ j) (h2 : j ≤ b.1.length) :
    zBY N (b, (r, q)) i j tk = some (if tk = false then delB b i j else (b.1, (i, b.2.2)), (rpushG r (sub b.1 i j), q)) := by
  have hl := ptsG_len (bufG_iff.1 hb).1
  have hsp := sub_pts hb i j
  have hsl := ptsG_len hsp
  have hrp := impl_replace_eq N b i j [] hb (by simp) (by omega) (by omega) (by omega)
  obtain ⟨o1, o2, o3, o4⟩ := ringOk_of (N := N) (by omega) hr
  unfold zBY
  rw [hrp]
  by_cases hij : i < j
  · have hlen := sub_len b.1 i j h0 h1 h2
    have hit : itemG (sub b.1 i j) = true := itemG_of hsp (by omega)
    have hpg : rpushG r (sub b.1 i j) = ((sub b.1 i j :: r.1).take 10, (0, ())) := by
      unfold rpushG; rw [if_neg (by omega), hr, hit, if_neg (by simp)]
    rw [pLt_t hij, ifB_t, pLe_t h0, ifB_t, pLe_t h1, ifB_t, pLen_d, pLe_t h2, ifB_t, impl_push_eq N r (sub b.1 i j) o1 o2 o3 (by omega) (by have := (ringG_iff.1 hr).1; omega), bindO_s, hpg]
    cases tk <;> rfl
  · have e : i = j := by omega
    subst e
    have hnil : sub b.1 i i = [] := by unfold sub; simp
    have hpg : rpushG r (sub b.1 i i) = r := by
      rw [hnil]; unfold rpushG; rw [if_neg (by simp), itemG_nil, Bool.and_false, if_pos rfl]
    rw [pLt_f (by omega), ifB_f, hpg]
    cases tk <;> rfl
def yanks (r : RingT) : Nat → BufT → Int × BufT
  | 0, b => (0, b)
  | n + 1, b => if (yankG r b).2.2.2.1 ≠ 0 then ((yankG r b).2.2.2.1, b) else yanks r n (yankG r b).1
theorem yank_right {r : RingT} {b : BufT} (hr : ringG r = true) (hb : bufG b = true) (h : (yankG r b).2.2.2.1 = 0) : bufG (yankG r b).1 = true ∧ r.1.length ≠ 0 ∧
    (yankG r b).1.1 = b.1.take b.2.1.toNat ++ atG r r.2.1 ++ b.1.drop b.2.1.toNat := by
  unfold yankG at h ⊢
  rw [hr, hb, if_neg (by simp)] at h ⊢
  by_cases h0 : r.1.length = 0
  · rw [if_pos h0] at h; exact absurd h (by simp [failY])
  rw [if_neg h0] at h ⊢
  by_cases h1 : (replG b b.2.1 b.2.1 (atG r r.2.1)).2.2.1 = 0
  · rw [if_neg (by simp [h1])]
    obtain ⟨g1, g2, g3, g4⟩ := ringG_iff.1 hr
    obtain ⟨a1, a2, a3, a4⟩ := atG_ok hr g3 (by omega)
    obtain ⟨e1, e2⟩ := replG_ok hb a2 h1
    rw [e1]
    exact ⟨ins_right hb a2 e2 _ (by omega) (by have := (bufG_iff.1 hb).2.2.1; have := (bufG_iff.1 hb).2.1; omega), h0, rfl⟩
  · rw [if_pos h1] at h
    exact absurd h h1
theorem yanks_right {r : RingT} (hr : ringG r = true) : ∀ (n : Nat) (b : BufT), bufG b = true → bufG (yanks r n b).2 = true
  | 0, b, hb => hb
  | n + 1, b, hb => by
    unfold yanks
    by_cases h : (yankG r b).2.2.2.1 = 0
    · rw [if_neg (by simp [h])]; exact yanks_right hr n _ (yank_right hr hb h).1
    · rw [if_pos h]; exact hb
theorem spec_puts {N : Nat} {R : Type} (hN : 2000 < N) (r : RingT) (hr : ringG r = true) (o : VT) (k : ((RingT × VT × BufT × Unit) ⊕ (VT × Unit)) → Option R) : ∀ (n m : Nat) (b : BufT), n < m → n ≤ 1000 → bufG b = true →
    loopP (zB3.l4 N) m ((n : Int), r, o, b, ()) k = if (yanks r n b).1 = 0 then k (.inl (r, o, (yanks r n b).2, ())) else k (.inr (failV (yanks r n b).1, ()))
  | 0, m, b, hm, hn, hb => by
    obtain ⟨m, rfl⟩ := succ_of hm
    rw [loopP_s]; unfold zB3.l4; simp only []
    rw [pGt_f (by omega), ifB_f]; rfl
  | n + 1, m, b, hm, hn, hb => by
    obtain ⟨m, rfl⟩ := succ_of hm
    rw [loopP_s]; unfold zB3.l4; simp only []
    rw [pGt_t (by omega), ifB_t, spec_RingYank_eq N r b hN, bindO_s]
    unfold yanks
    by_cases h : (yankG r b).2.2.2.1 = 0
    · rw [pNe_f h, ifB_f, if_neg (show ¬ ((yankG r b).2.2.2.1 ≠ 0) by simp [h]), pSub_i (by omega) (by omega), show ((n + 1 : Nat) : Int) - 1 = (n : Int) by omega]
      exact spec_puts hN r hr o k n m _ (by omega) (by omega) (yank_right hr hb h).1
    · rw [pNe_t h, ifB_t, if_pos (show (yankG r b).2.2.2.1 ≠ 0 from h), if_neg h]; rfl
theorem impl_puts {N : Nat} {R : Type} (hN : 2000 < N) (r : RingT) (hr : ringG r = true) (q : Bool × Int × Int × Unit) (c : Nat) (hc : c ≤ 1000) (k : ((VT × Unit) ⊕ (Int × VT × Unit)) → Option R) : ∀ (n i m : Nat) (b : BufT), c - i = n → i ≤ c → n < m → bufG b = true →
    ∃ b', loopP (zAB.l26 N) m ((c : Int), (i : Int), (b, (r, q)), ()) k = if (yanks r n b).1 = 0 then k (.inl (((yanks r n b).2, (r, q)), ())) else k (.inr ((yanks r n b).1, (b', (r, q)), ()))
  | 0, i, m, b, hn, hi, hm, hb => by
    obtain ⟨m, rfl⟩ := succ_of hm
    refine ⟨b, ?_⟩
    rw [loopP_s]; unfold zAB.l26; simp only []
    rw [pLt_f (by omega), ifB_f]; rfl
  | n + 1, i, m, b, hn, hi, hm, hb => by
    obtain ⟨m, rfl⟩ := succ_of hm
    obtain ⟨g1, g2, g3, g4⟩ := ringG_iff.1 hr
    have hbl := ptsG_len (bufG_iff.1 hb).1
    have hy := impl_RingYank_eq N r b hN (by omega) (fun x hx => by have := ptsG_len (itemG_pts (g2 x hx)).1; omega) (by omega)
    by_cases h : (yankG r b).2.2.2.1 = 0
    · obtain ⟨b', ih⟩ := impl_puts hN r hr q c hc k n (i + 1) m (yankG r b).1 (by omega) (by omega) (by omega) (yank_right hr hb h).1
      refine ⟨b', ?_⟩
      rw [loopP_s]; unfold zAB.l26; simp only []
      rw [pLt_t (by omega), ifB_t, hy, bindO_s]
      unfold yanks
      rw [pNe_f h, ifB_f, if_neg (show ¬ ((yankG r b).2.2.2.1 ≠ 0) by simp [h]), pAdd_i (by omega) (by omega), show (i : Int) + 1 = ((i + 1 : Nat) : Int) by omega]
      exact ih
    · refine ⟨b, ?_⟩
      rw [loopP_s]; unfold zAB.l26; simp only []
      rw [pLt_t (by omega), ifB_t, hy, bindO_s]
      unfold yanks
      rw [pNe_t h, ifB_t, if_pos (show (yankG r b).2.2.2.1 ≠ 0 from h), if_neg h]
def swapG (a : Int) : Int := if 97 ≤ a ∧ a ≤ 122 then a - 32 else if 65 ≤ a ∧ a ≤ 90 then a + 32 else a
theorem swap_pt {a : Int} (h : ptG a = true) : ptG (swapG a) = true := by
  unfold swapG
  unfold ptG at h ⊢
  simp only [Bool.and_eq_true, Bool.not_eq_true', Bool.and_eq_false_iff, decide_eq_true_eq, decide_eq_false_iff_not] at h ⊢
  split
  · omega
  · split <;> omega
set_option maxRecDepth 100000 in
theorem xor_fin : ∀ n : Nat, n < 123 → 65 ≤ n → (n ≤ 90 ∨ 97 ≤ n) → pXor .i64 (n : Int) 32 = swapG (n : Int) := by decide
theorem impl_swap_eq (N : Nat) (a : Int) : zCE N a = some (swapG a) := by
  unfold zCE
  rw [impl_within_eq, bindO_s, impl_within_eq, bindO_s]
  have key : (65 ≤ a ∧ a ≤ 90) ∨ (97 ≤ a ∧ a ≤ 122) → pXor .i64 a 32 = swapG a := fun h => by
    obtain ⟨n, rfl⟩ : ∃ n : Nat, a = (n : Int) := ⟨a.toNat, by omega⟩
    exact xor_fin n (by omega) (by omega) (by omega)
  by_cases h1 : 97 ≤ a ∧ a ≤ 122
  · rw [decide_eq_true h1.1, decide_eq_true h1.2, key (.inr h1)]; rfl
  · by_cases h2 : 65 ≤ a ∧ a ≤ 90
    · rw [decide_eq_true h2.1, decide_eq_true h2.2, key (.inl h2)]
      cases (decide (97 ≤ a) && decide (a ≤ 122)) <;> rfl
    · have e1 : (decide (97 ≤ a) && decide (a ≤ 122)) = false := by
        rw [← Bool.not_eq_true, Bool.and_eq_true, decide_eq_true_eq, decide_eq_true_eq]; exact h1
      have e2 : (decide (65 ≤ a) && decide (a ≤ 90)) = false := by
        rw [← Bool.not_eq_true, Bool.and_eq_true, decide_eq_true_eq, decide_eq_true_eq]; exact h2
      rw [e1, e2]
      unfold swapG
      rw [if_neg h1, if_neg h2]; rfl
theorem turned_step {N : Nat} {R : Type} (l : List Int) (hl : l.length ≤ 1000) (i : Nat) (hlt : i < l.length) (hx : 0 ≤ l[i] ∧ l[i] ≤ 2000000) (out : List Int) (ho : out.length ≤ 1000) (kn : _ → Option R) (kx : _ → Option R) :
    zAP.l3 N (l, (i : Int), out, ()) kn kx = kn (l, ((i + 1 : Nat) : Int), pApp out [swapG l[i]], ()) := by
  have hf : ∀ v : Int, pFit out [v] = true := fun v => pFit_t (by simp; omega)
  unfold zAP.l3
  simp only [pLen_d]
  rw [pLt_t (by omega), ifB_t, idx_lt hlt, bindO_s]
  generalize l[i] = v at *
  simp only [ifB_and, bindO_s, pGe_d, pLe_d, ge_iff_le, hf, ifB_t]
  have e5 : pAdd .i64 (i : Int) 1 = ((i + 1 : Nat) : Int) := by rw [pAdd_i (by omega) (by omega)]; omega
  by_cases h1 : 97 ≤ v ∧ v ≤ 122
  · rw [decide_eq_true h1.1, decide_eq_true h1.2]
    simp only [Bool.and_self, ifB_t, bindO_s]
    rw [e5, pSub_i (by omega) (by omega)]
    unfold swapG
    rw [if_pos h1]
  · have e1 : (decide (97 ≤ v) && decide (v ≤ 122)) = false := by
      rw [← Bool.not_eq_true, Bool.and_eq_true, decide_eq_true_eq, decide_eq_true_eq]; exact h1
    rw [e1]
    simp only [ifB_f]
    by_cases h2 : 65 ≤ v ∧ v ≤ 90
    · rw [decide_eq_true h2.1, decide_eq_true h2.2]
      simp only [Bool.and_self, ifB_t, bindO_s]
      rw [e5, pAdd_i (by omega) (by omega)]
      unfold swapG
      rw [if_neg h1, if_pos h2]
    · have e2 : (decide (65 ≤ v) && decide (v ≤ 90)) = false := by
        rw [← Bool.not_eq_true, Bool.and_eq_true, decide_eq_true_eq, decide_eq_true_eq]; exact h2
      rw [e2]
      simp only [ifB_f, bindO_s]
      rw [e5]
      unfold swapG
      rw [if_neg h1, if_neg h2]
theorem turned_loop {N : Nat} {R : Type} (l : List Int) (hl : l.length ≤ 1000) (hr : ∀ x ∈ l, 0 ≤ x ∧ x ≤ 2000000) (k : List Int × Unit → Option R) : ∀ (m i n : Nat), l.length - i = m → i ≤ l.length → m < n →
    loopP (zAP.l3 N) n (l, (i : Int), (l.map swapG).take i, ()) k = k (l.map swapG, ()) := by
  intro m
  induction m with
  | zero =>
    intro i n hm hi hn
    obtain ⟨n, rfl⟩ := succ_of hn
    rw [loopP_s]; unfold zAP.l3; simp only [pLen_d]
    rw [pLt_f (by omega), ifB_f, List.take_of_length_le (by simp; omega)]
  | succ m ih =>
    intro i n hm hi hn
    obtain ⟨n, rfl⟩ := succ_of hn
    have hlt : i < l.length := by omega
    have e : pApp ((l.map swapG).take i) [swapG l[i]] = (l.map swapG).take (i + 1) := by
      rw [List.take_succ_eq_append_getElem (by simp; omega), List.getElem_map]; rfl
    rw [loopP_s, turned_step l hl i hlt (hr _ (List.getElem_mem hlt)) _ (by simp; omega), e]
    exact ih (i + 1) n (by omega) (by omega) (by omega)
theorem turned_eq (N : Nat) (l : List Int) (hl : l.length ≤ 1000) (hN : 1000 < N) (hr : ∀ x ∈ l, 0 ≤ x ∧ x ≤ 2000000) : zAP N l = some (l.map swapG) := by
  unfold zAP
  exact turned_loop l hl hr _ _ 0 N rfl (by omega) (by omega)
end Go.AE.F
namespace Go.AE.F
open Go.AE
theorem swap_loop {N : Nat} {R : Type} (A T B : List Int) (hT : A.length + T.length + B.length ≤ 1000) (x : Int × Int × Unit) (q : RingT × Bool × Int × Int × Unit) (k : Int × VT × Unit → Option R) : ∀ (m i n : Nat), T.length - i = m → i ≤ T.length → m < n →
    loopP (zAB.l36 N) n (((A.length + T.length : Nat) : Int), ((A.length + i : Nat) : Int), ((A ++ ((T.map swapG).take i ++ T.drop i) ++ B, x), q), ()) k = k (((A.length + T.length : Nat) : Int), ((A ++ T.map swapG ++ B, x), q), ()) := by
  intro m
  induction m with
  | zero =>
    intro i n hm hi hn
    obtain ⟨n, rfl⟩ := succ_of hn
    rw [loopP_s]; unfold zAB.l36; simp only []
    rw [pLt_f (by omega), ifB_f, List.take_of_length_le (by simp; omega), List.drop_eq_nil_of_le (by omega), List.append_nil]
  | succ m ih =>
    intro i n hm hi hn
    obtain ⟨n, rfl⟩ := succ_of hn
    have hlt : i < T.length := by omega
    have ih := ih (i + 1) n (by omega) (by omega) (by omega)
    have el : (A ++ (T.map swapG).take i).length = A.length + i := by simp; omega
    have ed : T.drop i = T[i] :: T.drop (i + 1) := drop_c hlt
    have eL : A ++ ((T.map swapG).take i ++ T.drop i) ++ B = (A ++ (T.map swapG).take i) ++ T[i] :: (T.drop (i + 1) ++ B) := by rw [ed]; simp only [List.append_assoc, List.cons_append]
    have hidx : idx (A ++ ((T.map swapG).take i ++ T.drop i) ++ B) ((A.length + i : Nat) : Int) = some T[i] := by
      rw [eL, idx_n, List.getElem?_append_right (by omega), el, Nat.sub_self]; rfl
    rw [loopP_s]; unfold zAB.l36; simp only []
    rw [pLt_t (by omega), ifB_t, hidx, bindO_s, bindO_s, impl_swap_eq, bindO_s, bindO_s, bindO_s, pAdd_i (by omega) (by omega)]
    have es : pSet (A ++ ((T.map swapG).take i ++ T.drop i) ++ B) ((A.length + i : Nat) : Int) (swapG T[i]) = A ++ ((T.map swapG).take (i + 1) ++ T.drop (i + 1)) ++ B := by
      rw [eL]
      unfold pSet
      rw [Int.toNat_natCast, List.set_append_right _ _ (by omega), el, Nat.sub_self, List.set_cons_zero, List.take_succ_eq_append_getElem (by simp; omega), List.getElem_map]
      simp
    rw [es, show ((A.length + i : Nat) : Int) + 1 = ((A.length + (i + 1) : Nat) : Int) by omega]
    exact ih
end Go.AE.F
