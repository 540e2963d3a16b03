/- The new editor. -/
import Derived.Test.YtbbkaakbbpoekaaPU
import Derived.Test.YtbbkaakbbpoekaaF5
namespace Go.AE.F
open Go.AE

theorem eqEd_new : laws_eqEd 3 ([], ([], ([], (([], (0, (0, ()))), (([], (0, ())), (([], ([], ())), (([], (0, ([], ()))), (1, ((ByteArray.mk #[]), (0, (0, (0, ([], ()))))))))))))) ([], ([], ([], (([], (0, (0, ()))), (([], (0, ())), (([], ([], ())), (([], (0, ([], ()))), (1, ((ByteArray.mk #[]), (0, (0, (0, ([], ()))))))))))))) = some true := by
  have h : pSEq (ByteArray.mk #[]) (ByteArray.mk #[]) = true := pSEq_self _
  unfold laws_eqEd
  have e1 : laws_eqKeyS 3 [] [] = some true := rfl
  have e2 : laws_eqWidgetS 3 [] [] = some true := rfl
  have e3 : laws_eqInt64SS 3 [] [] = some true := rfl
  have e4 : laws_eqBuf 3 ([], (0, (0, ()))) ([], (0, (0, ()))) = some true := rfl
  have e5 : laws_eqRing 3 ([], (0, ())) ([], (0, ())) = some true := rfl
  have e6 : laws_eqUndo 3 ([], ([], ())) ([], ([], ())) = some true := rfl
  have e7 : laws_eqHist 3 ([], (0, ([], ()))) ([], (0, ([], ()))) = some true := rfl
  simp only [e1, e2, e3, e4, e5, e6, e7, h]
  rfl

theorem pure_FnExactEdNew : ∃ N, laws_FnExactEdNew N = some true := by
  refine ⟨3, ?_⟩
  unfold laws_FnExactEdNew spec_EdNew impl_EdNew
  simp only [bindO_s, eqEd_new]
  rfl

end Go.AE.F
