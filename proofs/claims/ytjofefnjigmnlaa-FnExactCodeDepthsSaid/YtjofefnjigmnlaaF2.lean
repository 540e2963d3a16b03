/- Functions as they are printed out of the program: plain Lean, nothing is claimed here. -/
import Derived.Test.YtjofefnjigmnlaaF1
namespace Go.AE.F
open Go.AE
def laws_toBuf (N : Nat) (a0 : List (Int) × Int × Int × Unit) : Option (List Int × Int × Int × Unit) :=
  bindO (laws_toInt64S N a0.1) fun y1 =>
  some (y1, (a0.2.1, (a0.2.2.1, ())))

noncomputable def slices_Clone_Sint64_int64.g {R : Type} (N : Nat) (a0 : List (Int)) (k : List Int → Option R) : Option R :=
  ifB (pEq (pLen a0) 0) (
    same (
      k []) (
      ifB (pFit [] a0) (
        k (pApp [] a0)) (
        none))) (
    ifB (pFit [] a0) (
      k (pApp [] a0)) (
      none))
noncomputable def slices_Clone_Sint64_int64 (N : Nat) (a0 : List (Int)) : Option (List Int) := slices_Clone_Sint64_int64.g N a0 some

def impl_CompMatch (N : Nat) (a0 : List (List (Int))) (a1 : List (Int)) : Option (List Int) :=
  bindO (impl_compAsked N a0 a1) fun y2 =>
  ifB (pNot y2) (
    some []) (
    bindO (impl_matches N a0 a1) fun y3 =>
    some y3.2)

def laws_FnExactCompMatch (N : Nat) (a0 : List (List (Int))) (a1 : List (Int)) : Option (Bool) :=
  ifB (pGt (pLen a1) 1048576) (
    some true) (
    bindO (laws_szInt64SS N a0 1048576) fun y23 =>
    ifB (pLt y23 0) (
      some true) (
      bindO (laws_toInt64SS N a0) fun y24 =>
      bindO (laws_toInt64S N a1) fun y25 =>
      bindO (spec_CompMatch N y24 y25) fun y26 =>
      bindO (laws_toInt64SS N a0) fun y27 =>
      bindO (laws_toInt64S N a1) fun y28 =>
      bindO (impl_CompMatch N y27 y28) fun y29 =>
      bindO (laws_eqInt64S N y29 y26) fun y30 =>
      ifB (pNot y30) (
        some false) (
        bindO (laws_toInt64SS N a0) fun y31 =>
        bindO (laws_eqInt64SS N y27 y31) fun y32 =>
        ifB (pNot y32) (
          some false) (
          bindO (laws_toInt64S N a1) fun y33 =>
          bindO (laws_eqInt64S N y28 y33) fun y34 =>
          ifB (pNot y34) (
            some false) (
            bindO (laws_markInt64SS N y27 1) fun y35 =>
            bindO (laws_markInt64S N y28 y35.1) fun y36 =>
            bindO (
              ifB (pLt y36.1 0) (
                some true) (
                bindO (laws_eqInt64S N y29 y26) fun y38 =>
                some (pNot y38))) fun y37 =>
            ifB y37 (
              some false) (
              bindO (laws_markInt64S N y29 1) fun y39 =>
              bindO (laws_heldInt64S N y39.2 1) fun y40 =>
              ifB (pLt y40 0) (
                some false) (
                ifB (pNe y40 y39.1) (
                  some false) (
                  bindO (laws_toInt64SS N a0) fun y41 =>
                  bindO (laws_toInt64S N a1) fun y42 =>
                  bindO (impl_CompMatch N y41 y42) fun y43 =>
                  bindO (laws_eqInt64S N y43 y26) fun y44 =>
                  ifB (pNot y44) (
                    some false) (
                    bindO (laws_heldInt64S N y39.2 1) fun y45 =>
                    ifB (pLt y45 0) (
                      some false) (
                      ifB (pNe y45 y39.1) (
                        some false) (
                        some true)))))))))))

end Go.AE.F
