/- Functions as they are printed out of the program: plain Lean, nothing is claimed here. -/
import Derived.Test.YtjofefnjigmnlaaF10
namespace Go.AE.F
open Go.AE
noncomputable def laws_markOpS.l2 {R : Type} (N : Nat) (d : Int × Int × (List (Int × Int × Unit)) × Unit) (kn : Int × Int × (List (Int × Int × Unit)) × Unit → Option R) (kx : Int × (List (Int × Int × Unit)) × Unit → Option R) : Option R :=
  let x20 := d.1;
  let x21 := d.2.1;
  let x22 := d.2.2.1;
    ifB (pLt x21 (pLen x22)) (
      bindO (idx x22 x21) fun y23 =>
      bindO (idx x22 x21) fun y24 =>
      bindO (idx (pSet x22 x21 (x20, y24.2)) x21) fun y25 =>
      bindO (idx (pSet x22 x21 (x20, y24.2)) x21) fun y26 =>
      kn ((pAdd Go.IntKind.i64 (pAdd Go.IntKind.i64 x20 1) 1), (pAdd Go.IntKind.i64 x21 1), (pSet (pSet x22 x21 (x20, y24.2)) x21 (y26.1, ((pAdd Go.IntKind.i64 x20 1), y26.2.2))), ())) (
      kx (x20, x22, ()))
noncomputable def laws_markOpS (N : Nat) (a0 : List (Int × Int × Unit)) (a1 : Int) : Option (Int × List (Int × Int × Unit)) :=
  loopP (laws_markOpS.l2 N) N (a1, 0, a0, ()) (
    fun d =>
    let x27 := d.1;
    let x28 := d.2.1;
    some (x27, x28))

noncomputable def laws_FnExactCodeDepths (N : Nat) (a0 : List (Int × Int × Unit)) : Option (Bool) :=
  bindO (laws_szOpS N a0 1048576) fun y17 =>
  ifB (pLt y17 0) (
    some true) (
    bindO (laws_toOpS N a0) fun y18 =>
    bindO (spec_CodeDepths N y18) fun y19 =>
    bindO (laws_toOpS N a0) fun y20 =>
    bindO (impl_CodeDepths N y20) fun y21 =>
    bindO (laws_eqInt64S N y21 y19) fun y22 =>
    ifB (pNot y22) (
      some false) (
      bindO (laws_toOpS N a0) fun y23 =>
      bindO (laws_eqOpS N y20 y23) fun y24 =>
      ifB (pNot y24) (
        some false) (
        bindO (laws_markOpS N y20 1) fun y25 =>
        bindO (
          ifB (pLt y25.1 0) (
            some true) (
            bindO (laws_eqInt64S N y21 y19) fun y27 =>
            some (pNot y27))) fun y26 =>
        ifB y26 (
          some false) (
          bindO (laws_markInt64S N y21 1) fun y28 =>
          bindO (laws_heldInt64S N y28.2 1) fun y29 =>
          ifB (pLt y29 0) (
            some false) (
            ifB (pNe y29 y28.1) (
              some false) (
              bindO (laws_toOpS N a0) fun y30 =>
              bindO (impl_CodeDepths N y30) fun y31 =>
              bindO (laws_eqInt64S N y31 y19) fun y32 =>
              ifB (pNot y32) (
                some false) (
                bindO (laws_heldInt64S N y28.2 1) fun y33 =>
                ifB (pLt y33 0) (
                  some false) (
                  ifB (pNe y33 y28.1) (
                    some false) (
                    some true)))))))))

end Go.AE.F
