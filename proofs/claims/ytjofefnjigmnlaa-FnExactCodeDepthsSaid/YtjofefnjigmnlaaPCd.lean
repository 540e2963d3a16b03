/- The depths of code: the exact law. -/
import Derived.Test.YtjofefnjigmnlaaPCr
import Derived.Test.YtjofefnjigmnlaaPMark
import Derived.Test.YtjofefnjigmnlaaF11
namespace Go.AE.F
open Go.AE

theorem markOp_loop {N : Nat} {R : Type} (L : Nat) (hL : L ≤ 1048576) (kk : Int × List OpT × Unit → Option R) : ∀ (m i n : Nat) (k : Int) (l : List OpT), L - i = m → i ≤ L → m < n → l.length = L → 0 ≤ k → k ≤ 4194304 + 2 * i →
    ∃ l', loopP (laws_markOpS.l2 N) n (k, (i : Int), l, ()) kk = kk (k + 2 * m, l', ()) := by
  intro m
  induction m with
  | zero =>
    intro i n k l hm hi hn hl h0 hk
    obtain ⟨n, rfl⟩ := succ_of hn
    refine ⟨l, ?_⟩
    rw [loopP_s]; unfold laws_markOpS.l2; simp only [pLen_d]
    rw [pLt_f (by omega), ifB_f]
    congr 2; simp
  | succ m ih =>
    intro i n k l hm hi hn hl h0 hk
    obtain ⟨n, rfl⟩ := succ_of hn
    have hlt : i < l.length := by omega
    rw [loopP_s]; unfold laws_markOpS.l2; simp only [pLen_d]
    have h2 : ∀ v : OpT, idx (pSet l (i : Int) v) (i : Int) = some v := fun v => by
      unfold pSet
      rw [Int.toNat_natCast, idx_lt (by simpa using hlt)]
      simp
    rw [pLt_t (by omega), ifB_t, idx_lt hlt, bindO_s, bindO_s, h2, bindO_s, bindO_s, pAdd_i (a := k) (by omega) (by omega), pAdd_i (a := k + 1) (by omega) (by omega), pAdd_i (a := (i : Int)) (by omega) (by omega)]
    obtain ⟨l', h⟩ := ih (i + 1) n (k + 1 + 1) (pSet (pSet l (i : Int) (k, l[i].2)) (i : Int) (k, (k + 1, l[i].2.2))) (by omega) (by omega) (by omega) (by simp [pSet, hl]) (by omega) (by omega)
    refine ⟨l', Eq.trans h ?_⟩
    congr 2; omega

theorem markOps_eq (N : Nat) (l : List OpT) (hl : l.length ≤ 1048576) (hN : l.length < N) : ∃ l', laws_markOpS N l 1 = some ((1 : Int) + 2 * l.length, l') := by
  unfold laws_markOpS
  obtain ⟨l', h⟩ := markOp_loop (N := N) l.length hl (fun d =>
    let x27 := d.1;
    let x28 := d.2.1;
    some (x27, x28)) l.length 0 N 1 l rfl (by omega) (by omega) rfl (by omega) (by omega)
  exact ⟨l', h⟩

theorem pure_FnExactCodeDepths (l : List OpT) (h : l.length ≤ 9223372036854775807 ∧ ∀ a ∈ l, (IntKind.i64.min ≤ a.1 ∧ a.1 ≤ IntKind.i64.max) ∧ (IntKind.i64.min ≤ a.2.1 ∧ a.2.1 ≤ IntKind.i64.max) ∧ True) : ∃ N, laws_FnExactCodeDepths N l = some true := by
  refine ⟨1048600, ?_⟩
  unfold laws_FnExactCodeDepths
  rw [szOpS_eq _ l 1048576 (by omega) (by omega) h.1, bindO_s]
  by_cases hs : (1048576 : Int) - l.length < 0
  · rw [if_pos hs, pLt_t (by omega), ifB_t]
  · rw [if_neg hs, pLt_f (by omega), ifB_f]
    have hl : l.length ≤ 1048576 := by omega
    obtain ⟨o, c2, c3, c4⟩ := depths_both 1048600 l (by omega)
    have c1 : laws_toOpS 1048600 l = some l := toOpS_eq _ l (by omega) (by omega)
    have c5 : laws_eqOpS 1048600 l l = some true := eqOpS_self _ l (by omega) (by omega)
    have c6 : laws_eqInt64S 1048600 o o = some true := by rw [eqInt64S_eq _ o o (by omega) (by omega), decide_eq_true rfl]
    obtain ⟨l', c7⟩ := markOps_eq 1048600 l hl (by omega)
    have c8 : laws_markInt64S 1048600 o 1 = some ((1 : Int) + o.length, cnt 1 o.length) := markInt64S_eq _ _ _ (by omega) (by omega) (by omega)
    have c9 : laws_heldInt64S 1048600 (cnt 1 o.length) 1 = some ((1 : Int) + o.length) := heldInt64S_eq _ _ _ (by omega) (by omega) (by omega)
    have e1 : pNot true = false := rfl
    have e2 : pLt ((1 : Int) + 2 * l.length) 0 = false := pLt_f (by omega)
    have e3 : pLt ((1 : Int) + o.length) 0 = false := pLt_f (by omega)
    have e4 : pNe ((1 : Int) + o.length) ((1 : Int) + o.length) = false := pNe_f rfl
    simp only [c1, c2, c3, c5, c6, c7, c8, c9, bindO_s, ifB_f, e1, e2, e3, e4]

end Go.AE.F
