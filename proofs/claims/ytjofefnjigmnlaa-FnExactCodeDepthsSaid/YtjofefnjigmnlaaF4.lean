/- Functions as they are printed out of the program: plain Lean, nothing is claimed here. -/
import Derived.Test.YtjofefnjigmnlaaF3
namespace Go.AE.F
open Go.AE
noncomputable def impl_WordAhead (N : Nat) (a0 : List (Int) × Int × Int × Unit) : Option (List Int) :=
  bindO (impl_BufRight N a0) fun y3 =>
  ifB (pNot y3) (
    some []) (
    bindO (impl_Buf_ahead N a0) fun y4 =>
    bindO (slices_Clone_Sint64_int64 N y4) fun y5 =>
    some y5)

noncomputable def laws_markBuf (N : Nat) (a0 : List (Int) × Int × Int × Unit) (a1 : Int) : Option (Int × List Int × Int × Int × Unit) :=
  bindO (laws_markInt64S N a0.1 a1) fun y1 =>
  some (y1.1, (y1.2, a0.2))

noncomputable def laws_FnExactWordAhead (N : Nat) (a0 : List (Int) × Int × Int × Unit) : Option (Bool) :=
  bindO (laws_szBuf N a0 1048576) fun y17 =>
  ifB (pLt y17 0) (
    some true) (
    bindO (laws_toBuf N a0) fun y18 =>
    bindO (spec_WordAhead N y18) fun y19 =>
    bindO (laws_toBuf N a0) fun y20 =>
    bindO (impl_WordAhead N y20) fun y21 =>
    bindO (laws_eqInt64S N y21 y19) fun y22 =>
    ifB (pNot y22) (
      some false) (
      bindO (laws_toBuf N a0) fun y23 =>
      bindO (laws_eqBuf N y20 y23) fun y24 =>
      ifB (pNot y24) (
        some false) (
        bindO (laws_markBuf N y20 1) fun y25 =>
        bindO (
          ifB (pLt y25.1 0) (
            some true) (
            bindO (laws_eqInt64S N y21 y19) fun y27 =>
            some (pNot y27))) fun y26 =>
        ifB y26 (
          some false) (
          bindO (laws_markInt64S N y21 1) fun y28 =>
          bindO (laws_heldInt64S N y28.2 1) fun y29 =>
          ifB (pLt y29 0) (
            some false) (
            ifB (pNe y29 y28.1) (
              some false) (
              bindO (laws_toBuf N a0) fun y30 =>
              bindO (impl_WordAhead N y30) fun y31 =>
              bindO (laws_eqInt64S N y31 y19) fun y32 =>
              ifB (pNot y32) (
                some false) (
                bindO (laws_heldInt64S N y28.2 1) fun y33 =>
                ifB (pLt y33 0) (
                  some false) (
                  ifB (pNe y33 y28.1) (
                    some false) (
                    some true)))))))))

end Go.AE.F
