/- Functions as they are printed out of the program: plain Lean, nothing is claimed here. -/
import Derived.Test.YthiefncabaphpaaXMachineStepsF6
noncomputable section
namespace Go.AE.F
open Go.AE
def impl_machine_op (N : Nat) (a0 : ((List (Int) × Int × Int × Unit) × Int × Int × Int × Unit) × List (Int) × (Int × Int × Int × Int × Int × Int × Int × Int × Unit × Unit) × Int × Unit) (a1 : Int × Int × Unit) : Option (((List Int × Int × Int × Unit) × Int × Int × Int × Unit) × List Int × (Int × Int × Int × Int × Int × Int × Int × Int × Unit × Unit) × Int × Unit) :=
 bindO (impl_takes N a1.1) fun y104 =>
 ifB (pEq y104.1 2) (
 bindO (impl_machine_pop N (a0.1, (a0.2.1, (a0.2.2.1, ((pAdd .i64 a0.2.2.2.1 1), a0.2.2.2.2))))) fun y105 =>
 ifB (pGt y104.1 0) (
 bindO (impl_machine_pop N y105.2) fun y106 =>
 ifB (pEq a1.1 1) (
 bindO (impl_scene_tick N y106.2.1) fun y107 =>
 some (y107.2, y106.2.2)) (
 ifB (pEq a1.1 2) (
 bindO (impl_machine_push N y106.2 a1.2.1) fun y108 =>
 some y108) (
 ifB (pEq a1.1 3) (
 ifB (pLe 0 a1.2.1) (
 ifB (pLt a1.2.1 8) (
 ifB (pEq a1.2.1 7) (
 bindO (impl_machine_push N y106.2 y106.2.2.2.1.2.2.2.2.2.2.2.1) fun y109 =>
 some y109) (
 ifB (pEq a1.2.1 6) (
 bindO (impl_machine_push N y106.2 y106.2.2.2.1.2.2.2.2.2.2.1) fun y110 =>
 some y110) (
 ifB (pEq a1.2.1 5) (
 bindO (impl_machine_push N y106.2 y106.2.2.2.1.2.2.2.2.2.1) fun y111 =>
 some y111) (
 ifB (pEq a1.2.1 4) (
 bindO (impl_machine_push N y106.2 y106.2.2.2.1.2.2.2.2.1) fun y112 =>
 some y112) (
 ifB (pEq a1.2.1 3) (
 bindO (impl_machine_push N y106.2 y106.2.2.2.1.2.2.2.1) fun y113 =>
 some y113) (
 ifB (pEq a1.2.1 2) (
 bindO (impl_machine_push N y106.2 y106.2.2.2.1.2.2.1) fun y114 =>
 some y114) (
 ifB (pEq a1.2.1 1) (
 bindO (impl_machine_push N y106.2 y106.2.2.2.1.2.1) fun y115 =>
 some y115) (
 bindO (impl_machine_push N y106.2 y106.2.2.2.1.1) fun y116 =>
 some y116)))))))) (
 none)) (
 none)) (
 ifB (pEq a1.1 4) (
 ifB (pLe 0 a1.2.1) (
 ifB (pLt a1.2.1 8) (
 ifB (pEq a1.2.1 7) (
 some (y106.2.1, (y106.2.2.1, ((y106.2.2.2.1.1, (y106.2.2.2.1.2.1, (y106.2.2.2.1.2.2.1, (y106.2.2.2.1.2.2.2.1, (y106.2.2.2.1.2.2.2.2.1, (y106.2.2.2.1.2.2.2.2.2.1, (y106.2.2.2.1.2.2.2.2.2.2.1, (y106.1, y106.2.2.2.1.2.2.2.2.2.2.2.2)))))))), y106.2.2.2.2)))) (
 ifB (pEq a1.2.1 6) (
 some (y106.2.1, (y106.2.2.1, ((y106.2.2.2.1.1, (y106.2.2.2.1.2.1, (y106.2.2.2.1.2.2.1, (y106.2.2.2.1.2.2.2.1, (y106.2.2.2.1.2.2.2.2.1, (y106.2.2.2.1.2.2.2.2.2.1, (y106.1, y106.2.2.2.1.2.2.2.2.2.2.2))))))), y106.2.2.2.2)))) (
 ifB (pEq a1.2.1 5) (
 some (y106.2.1, (y106.2.2.1, ((y106.2.2.2.1.1, (y106.2.2.2.1.2.1, (y106.2.2.2.1.2.2.1, (y106.2.2.2.1.2.2.2.1, (y106.2.2.2.1.2.2.2.2.1, (y106.1, y106.2.2.2.1.2.2.2.2.2.2)))))), y106.2.2.2.2)))) (
 ifB (pEq a1.2.1 4) (
 some (y106.2.1, (y106.2.2.1, ((y106.2.2.2.1.1, (y106.2.2.2.1.2.1, (y106.2.2.2.1.2.2.1, (y106.2.2.2.1.2.2.2.1, (y106.1, y106.2.2.2.1.2.2.2.2.2))))), y106.2.2.2.2)))) (
 ifB (pEq a1.2.1 3) (
 some (y106.2.1, (y106.2.2.1, ((y106.2.2.2.1.1, (y106.2.2.2.1.2.1, (y106.2.2.2.1.2.2.1, (y106.1, y106.2.2.2.1.2.2.2.2)))), y106.2.2.2.2)))) (
 ifB (pEq a1.2.1 2) (
 some (y106.2.1, (y106.2.2.1, ((y106.2.2.2.1.1, (y106.2.2.2.1.2.1, (y106.1, y106.2.2.2.1.2.2.2))), y106.2.2.2.2)))) (
 ifB (pEq a1.2.1 1) (
 some (y106.2.1, (y106.2.2.1, ((y106.2.2.2.1.1, (y106.1, y106.2.2.2.1.2.2)), y106.2.2.2.2)))) (
 some (y106.2.1, (y106.2.2.1, ((y106.1, y106.2.2.2.1.2), y106.2.2.2.2))))))))))) (
 none)) (
 none)) (
 ifB (pEq a1.1 5) (
 bindO (impl_machine_push N y106.2 y106.2.1.1.2.1) fun y117 =>
 some y117) (
 ifB (pEq a1.1 6) (
 bindO (impl_size_Sint64 N y106.2.1.1.1) fun y118 =>
 bindO (impl_machine_push N y106.2 y118) fun y119 =>
 some y119) (
 ifB (pEq a1.1 7) (
 bindO (impl_machine_push N y106.2 y106.2.1.1.2.2.1) fun y120 =>
 some y120) (
 ifB (pEq a1.1 8) (
 bindO (impl_scene_at N y106.2.1 y106.1) fun y121 =>
 bindO (impl_machine_push N (y121.2, y106.2.2) y121.1) fun y122 =>
 some y122) (
 ifB (pEq a1.1 9) (
 bindO (impl_one N (pEq y106.1 0)) fun y123 =>
 bindO (impl_machine_push N y106.2 y123) fun y124 =>
 some y124) (
 ifB (pEq a1.1 10) (
 bindO (impl_scene_two N y106.2.1 a1.2.1 y106.1 y105.1) fun y125 =>
 bindO (impl_machine_push N (y125.2, y106.2.2) y125.1) fun y126 =>
 some y126) (
 ifB (pEq a1.1 11) (
 some (y106.2.1, (y106.2.2.1, (y106.2.2.2.1, (a1.2.1, y106.2.2.2.2.2))))) (
 ifB (pEq a1.1 12) (
 ifB (pEq y106.1 0) (
 some (y106.2.1, (y106.2.2.1, (y106.2.2.2.1, (a1.2.1, y106.2.2.2.2.2))))) (
 some y106.2)) (
 ifB (pEq a1.1 13) (
 bindO (impl_scene_insert N y106.2.1 y106.1) fun y127 =>
 some (y127, y106.2.2)) (
 ifB (pEq a1.1 14) (
 bindO (impl_scene_delete N y106.2.1 y106.1 y105.1) fun y128 =>
 some (y128, y106.2.2)) (
 ifB (pEq a1.1 15) (
 bindO (impl_scene_goTo N y106.2.1 y106.1) fun y129 =>
 some (y129, y106.2.2)) (
 ifB (pEq a1.1 16) (
 bindO (impl_scene_markAt N y106.2.1 y106.1) fun y130 =>
 some (y130, y106.2.2)) (
 ifB (pEq a1.1 17) (
 some ((y106.2.1.1, (y106.2.1.2.1, ((pAdd .i64 y106.2.1.2.2.1 1), y106.2.1.2.2.2))), y106.2.2)) (
 ifB (pEq a1.1 18) (
 bindO (impl_BufMove N y106.2.1.1 a1.2.1 1 0) fun y131 =>
 some ((y131, y106.2.1.2), y106.2.2)) (
 some y106.2))))))))))))))))))) (
 ifB (pEq a1.1 1) (
 bindO (impl_scene_tick N y105.2.1) fun y132 =>
 some (y132.2, y105.2.2)) (
 ifB (pEq a1.1 2) (
 bindO (impl_machine_push N y105.2 a1.2.1) fun y133 =>
 some y133) (
 ifB (pEq a1.1 3) (
 ifB (pLe 0 a1.2.1) (
 ifB (pLt a1.2.1 8) (
 ifB (pEq a1.2.1 7) (
 bindO (impl_machine_push N y105.2 y105.2.2.2.1.2.2.2.2.2.2.2.1) fun y134 =>
 some y134) (
 ifB (pEq a1.2.1 6) (
 bindO (impl_machine_push N y105.2 y105.2.2.2.1.2.2.2.2.2.2.1) fun y135 =>
 some y135) (
 ifB (pEq a1.2.1 5) (
 bindO (impl_machine_push N y105.2 y105.2.2.2.1.2.2.2.2.2.1) fun y136 =>
 some y136) (
 ifB (pEq a1.2.1 4) (
 bindO (impl_machine_push N y105.2 y105.2.2.2.1.2.2.2.2.1) fun y137 =>
 some y137) (
 ifB (pEq a1.2.1 3) (
 bindO (impl_machine_push N y105.2 y105.2.2.2.1.2.2.2.1) fun y138 =>
 some y138) (
 ifB (pEq a1.2.1 2) (
 bindO (impl_machine_push N y105.2 y105.2.2.2.1.2.2.1) fun y139 =>
 some y139) (
 ifB (pEq a1.2.1 1) (
 bindO (impl_machine_push N y105.2 y105.2.2.2.1.2.1) fun y140 =>
 some y140) (
 bindO (impl_machine_push N y105.2 y105.2.2.2.1.1) fun y141 =>
 some y141)))))))) (
 none)) (
 none)) (
 ifB (pEq a1.1 4) (
 ifB (pLe 0 a1.2.1) (
 ifB (pLt a1.2.1 8) (
 ifB (pEq a1.2.1 7) (
 some (y105.2.1, (y105.2.2.1, ((y105.2.2.2.1.1, (y105.2.2.2.1.2.1, (y105.2.2.2.1.2.2.1, (y105.2.2.2.1.2.2.2.1, (y105.2.2.2.1.2.2.2.2.1, (y105.2.2.2.1.2.2.2.2.2.1, (y105.2.2.2.1.2.2.2.2.2.2.1, (0, y105.2.2.2.1.2.2.2.2.2.2.2.2)))))))), y105.2.2.2.2)))) (
 ifB (pEq a1.2.1 6) (
 some (y105.2.1, (y105.2.2.1, ((y105.2.2.2.1.1, (y105.2.2.2.1.2.1, (y105.2.2.2.1.2.2.1, (y105.2.2.2.1.2.2.2.1, (y105.2.2.2.1.2.2.2.2.1, (y105.2.2.2.1.2.2.2.2.2.1, (0, y105.2.2.2.1.2.2.2.2.2.2.2))))))), y105.2.2.2.2)))) (
 ifB (pEq a1.2.1 5) (
 some (y105.2.1, (y105.2.2.1, ((y105.2.2.2.1.1, (y105.2.2.2.1.2.1, (y105.2.2.2.1.2.2.1, (y105.2.2.2.1.2.2.2.1, (y105.2.2.2.1.2.2.2.2.1, (0, y105.2.2.2.1.2.2.2.2.2.2)))))), y105.2.2.2.2)))) (
 ifB (pEq a1.2.1 4) (
 some (y105.2.1, (y105.2.2.1, ((y105.2.2.2.1.1, (y105.2.2.2.1.2.1, (y105.2.2.2.1.2.2.1, (y105.2.2.2.1.2.2.2.1, (0, y105.2.2.2.1.2.2.2.2.2))))), y105.2.2.2.2)))) (
 ifB (pEq a1.2.1 3) (
 some (y105.2.1, (y105.2.2.1, ((y105.2.2.2.1.1, (y105.2.2.2.1.2.1, (y105.2.2.2.1.2.2.1, (0, y105.2.2.2.1.2.2.2.2)))), y105.2.2.2.2)))) (
 ifB (pEq a1.2.1 2) (
 some (y105.2.1, (y105.2.2.1, ((y105.2.2.2.1.1, (y105.2.2.2.1.2.1, (0, y105.2.2.2.1.2.2.2))), y105.2.2.2.2)))) (
 ifB (pEq a1.2.1 1) (
 some (y105.2.1, (y105.2.2.1, ((y105.2.2.2.1.1, (0, y105.2.2.2.1.2.2)), y105.2.2.2.2)))) (
 some (y105.2.1, (y105.2.2.1, ((0, y105.2.2.2.1.2), y105.2.2.2.2))))))))))) (
 none)) (
 none)) (
 ifB (pEq a1.1 5) (
 bindO (impl_machine_push N y105.2 y105.2.1.1.2.1) fun y142 =>
 some y142) (
 ifB (pEq a1.1 6) (
 bindO (impl_size_Sint64 N y105.2.1.1.1) fun y143 =>
 bindO (impl_machine_push N y105.2 y143) fun y144 =>
 some y144) (
 ifB (pEq a1.1 7) (
 bindO (impl_machine_push N y105.2 y105.2.1.1.2.2.1) fun y145 =>
 some y145) (
 ifB (pEq a1.1 8) (
 bindO (impl_scene_at N y105.2.1 0) fun y146 =>
 bindO (impl_machine_push N (y146.2, y105.2.2) y146.1) fun y147 =>
 some y147) (
 ifB (pEq a1.1 9) (
 bindO (impl_one N (pEq 0 0)) fun y148 =>
 bindO (impl_machine_push N y105.2 y148) fun y149 =>
 some y149) (
 ifB (pEq a1.1 10) (
 bindO (impl_scene_two N y105.2.1 a1.2.1 0 y105.1) fun y150 =>
 bindO (impl_machine_push N (y150.2, y105.2.2) y150.1) fun y151 =>
 some y151) (
 ifB (pEq a1.1 11) (
 some (y105.2.1, (y105.2.2.1, (y105.2.2.2.1, (a1.2.1, y105.2.2.2.2.2))))) (
 ifB (pEq a1.1 12) (
 ifB (pEq 0 0) (
 some (y105.2.1, (y105.2.2.1, (y105.2.2.2.1, (a1.2.1, y105.2.2.2.2.2))))) (
 some y105.2)) (
 ifB (pEq a1.1 13) (
 bindO (impl_scene_insert N y105.2.1 0) fun y152 =>
 some (y152, y105.2.2)) (
 ifB (pEq a1.1 14) (
 bindO (impl_scene_delete N y105.2.1 0 y105.1) fun y153 =>
 some (y153, y105.2.2)) (
 ifB (pEq a1.1 15) (
 bindO (impl_scene_goTo N y105.2.1 0) fun y154 =>
 some (y154, y105.2.2)) (
 ifB (pEq a1.1 16) (
 bindO (impl_scene_markAt N y105.2.1 0) fun y155 =>
 some (y155, y105.2.2)) (
 ifB (pEq a1.1 17) (
 some ((y105.2.1.1, (y105.2.1.2.1, ((pAdd .i64 y105.2.1.2.2.1 1), y105.2.1.2.2.2))), y105.2.2)) (
 ifB (pEq a1.1 18) (
 bindO (impl_BufMove N y105.2.1.1 a1.2.1 1 0) fun y156 =>
 some ((y156, y105.2.1.2), y105.2.2)) (
 some y105.2)))))))))))))))))))) (
 ifB (pGt y104.1 0) (
 bindO (impl_machine_pop N (a0.1, (a0.2.1, (a0.2.2.1, ((pAdd .i64 a0.2.2.2.1 1), a0.2.2.2.2))))) fun y157 =>
 ifB (pEq a1.1 1) (
 bindO (impl_scene_tick N y157.2.1) fun y158 =>
 some (y158.2, y157.2.2)) (
 ifB (pEq a1.1 2) (
 bindO (impl_machine_push N y157.2 a1.2.1) fun y159 =>
 some y159) (
 ifB (pEq a1.1 3) (
 ifB (pLe 0 a1.2.1) (
 ifB (pLt a1.2.1 8) (
 ifB (pEq a1.2.1 7) (
 bindO (impl_machine_push N y157.2 y157.2.2.2.1.2.2.2.2.2.2.2.1) fun y160 =>
 some y160) (
 ifB (pEq a1.2.1 6) (
 bindO (impl_machine_push N y157.2 y157.2.2.2.1.2.2.2.2.2.2.1) fun y161 =>
 some y161) (
 ifB (pEq a1.2.1 5) (
 bindO (impl_machine_push N y157.2 y157.2.2.2.1.2.2.2.2.2.1) fun y162 =>
 some y162) (
 ifB (pEq a1.2.1 4) (
 bindO (impl_machine_push N y157.2 y157.2.2.2.1.2.2.2.2.1) fun y163 =>
 some y163) (
 ifB (pEq a1.2.1 3) (
 bindO (impl_machine_push N y157.2 y157.2.2.2.1.2.2.2.1) fun y164 =>
 some y164) (
 ifB (pEq a1.2.1 2) (
 bindO (impl_machine_push N y157.2 y157.2.2.2.1.2.2.1) fun y165 =>
 some y165) (
 ifB (pEq a1.2.1 1) (
 bindO (impl_machine_push N y157.2 y157.2.2.2.1.2.1) fun y166 =>
 some y166) (
 bindO (impl_machine_push N y157.2 y157.2.2.2.1.1) fun y167 =>
 some y167)))))))) (
 none)) (
 none)) (
 ifB (pEq a1.1 4) (
 ifB (pLe 0 a1.2.1) (
 ifB (pLt a1.2.1 8) (
 ifB (pEq a1.2.1 7) (
 some (y157.2.1, (y157.2.2.1, ((y157.2.2.2.1.1, (y157.2.2.2.1.2.1, (y157.2.2.2.1.2.2.1, (y157.2.2.2.1.2.2.2.1, (y157.2.2.2.1.2.2.2.2.1, (y157.2.2.2.1.2.2.2.2.2.1, (y157.2.2.2.1.2.2.2.2.2.2.1, (y157.1, y157.2.2.2.1.2.2.2.2.2.2.2.2)))))))), y157.2.2.2.2)))) (
 ifB (pEq a1.2.1 6) (
 some (y157.2.1, (y157.2.2.1, ((y157.2.2.2.1.1, (y157.2.2.2.1.2.1, (y157.2.2.2.1.2.2.1, (y157.2.2.2.1.2.2.2.1, (y157.2.2.2.1.2.2.2.2.1, (y157.2.2.2.1.2.2.2.2.2.1, (y157.1, y157.2.2.2.1.2.2.2.2.2.2.2))))))), y157.2.2.2.2)))) (
 ifB (pEq a1.2.1 5) (
 some (y157.2.1, (y157.2.2.1, ((y157.2.2.2.1.1, (y157.2.2.2.1.2.1, (y157.2.2.2.1.2.2.1, (y157.2.2.2.1.2.2.2.1, (y157.2.2.2.1.2.2.2.2.1, (y157.1, y157.2.2.2.1.2.2.2.2.2.2)))))), y157.2.2.2.2)))) (
 ifB (pEq a1.2.1 4) (
 some (y157.2.1, (y157.2.2.1, ((y157.2.2.2.1.1, (y157.2.2.2.1.2.1, (y157.2.2.2.1.2.2.1, (y157.2.2.2.1.2.2.2.1, (y157.1, y157.2.2.2.1.2.2.2.2.2))))), y157.2.2.2.2)))) (
 ifB (pEq a1.2.1 3) (
 some (y157.2.1, (y157.2.2.1, ((y157.2.2.2.1.1, (y157.2.2.2.1.2.1, (y157.2.2.2.1.2.2.1, (y157.1, y157.2.2.2.1.2.2.2.2)))), y157.2.2.2.2)))) (
 ifB (pEq a1.2.1 2) (
 some (y157.2.1, (y157.2.2.1, ((y157.2.2.2.1.1, (y157.2.2.2.1.2.1, (y157.1, y157.2.2.2.1.2.2.2))), y157.2.2.2.2)))) (
 ifB (pEq a1.2.1 1) (
 some (y157.2.1, (y157.2.2.1, ((y157.2.2.2.1.1, (y157.1, y157.2.2.2.1.2.2)), y157.2.2.2.2)))) (
 some (y157.2.1, (y157.2.2.1, ((y157.1, y157.2.2.2.1.2), y157.2.2.2.2))))))))))) (
 none)) (
 none)) (
 ifB (pEq a1.1 5) (
 bindO (impl_machine_push N y157.2 y157.2.1.1.2.1) fun y168 =>
 some y168) (
 ifB (pEq a1.1 6) (
 bindO (impl_size_Sint64 N y157.2.1.1.1) fun y169 =>
 bindO (impl_machine_push N y157.2 y169) fun y170 =>
 some y170) (
 ifB (pEq a1.1 7) (
 bindO (impl_machine_push N y157.2 y157.2.1.1.2.2.1) fun y171 =>
 some y171) (
 ifB (pEq a1.1 8) (
 bindO (impl_scene_at N y157.2.1 y157.1) fun y172 =>
 bindO (impl_machine_push N (y172.2, y157.2.2) y172.1) fun y173 =>
 some y173) (
 ifB (pEq a1.1 9) (
 bindO (impl_one N (pEq y157.1 0)) fun y174 =>
 bindO (impl_machine_push N y157.2 y174) fun y175 =>
 some y175) (
 ifB (pEq a1.1 10) (
 bindO (impl_scene_two N y157.2.1 a1.2.1 y157.1 0) fun y176 =>
 bindO (impl_machine_push N (y176.2, y157.2.2) y176.1) fun y177 =>
 some y177) (
 ifB (pEq a1.1 11) (
 some (y157.2.1, (y157.2.2.1, (y157.2.2.2.1, (a1.2.1, y157.2.2.2.2.2))))) (
 ifB (pEq a1.1 12) (
 ifB (pEq y157.1 0) (
 some (y157.2.1, (y157.2.2.1, (y157.2.2.2.1, (a1.2.1, y157.2.2.2.2.2))))) (
 some y157.2)) (
 ifB (pEq a1.1 13) (
 bindO (impl_scene_insert N y157.2.1 y157.1) fun y178 =>
 some (y178, y157.2.2)) (
 ifB (pEq a1.1 14) (
 bindO (impl_scene_delete N y157.2.1 y157.1 0) fun y179 =>
 some (y179, y157.2.2)) (
 ifB (pEq a1.1 15) (
 bindO (impl_scene_goTo N y157.2.1 y157.1) fun y180 =>
 some (y180, y157.2.2)) (
 ifB (pEq a1.1 16) (
 bindO (impl_scene_markAt N y157.2.1 y157.1) fun y181 =>
 some (y181, y157.2.2)) (
 ifB (pEq a1.1 17) (
 some ((y157.2.1.1, (y157.2.1.2.1, ((pAdd .i64 y157.2.1.2.2.1 1), y157.2.1.2.2.2))), y157.2.2)) (
 ifB (pEq a1.1 18) (
 bindO (impl_BufMove N y157.2.1.1 a1.2.1 1 0) fun y182 =>
 some ((y182, y157.2.1.2), y157.2.2)) (
 some y157.2))))))))))))))))))) (
 ifB (pEq a1.1 1) (
 bindO (impl_scene_tick N a0.1) fun y183 =>
 some (y183.2, (a0.2.1, (a0.2.2.1, ((pAdd .i64 a0.2.2.2.1 1), a0.2.2.2.2))))) (
 ifB (pEq a1.1 2) (
 bindO (impl_machine_push N (a0.1, (a0.2.1, (a0.2.2.1, ((pAdd .i64 a0.2.2.2.1 1), a0.2.2.2.2)))) a1.2.1) fun y184 =>
 some y184) (
 ifB (pEq a1.1 3) (
 ifB (pLe 0 a1.2.1) (
 ifB (pLt a1.2.1 8) (
 ifB (pEq a1.2.1 7) (
 bindO (impl_machine_push N (a0.1, (a0.2.1, (a0.2.2.1, ((pAdd .i64 a0.2.2.2.1 1), a0.2.2.2.2)))) a0.2.2.1.2.2.2.2.2.2.2.1) fun y185 =>
 some y185) (
 ifB (pEq a1.2.1 6) (
 bindO (impl_machine_push N (a0.1, (a0.2.1, (a0.2.2.1, ((pAdd .i64 a0.2.2.2.1 1), a0.2.2.2.2)))) a0.2.2.1.2.2.2.2.2.2.1) fun y186 =>
 some y186) (
 ifB (pEq a1.2.1 5) (
 bindO (impl_machine_push N (a0.1, (a0.2.1, (a0.2.2.1, ((pAdd .i64 a0.2.2.2.1 1), a0.2.2.2.2)))) a0.2.2.1.2.2.2.2.2.1) fun y187 =>
 some y187) (
 ifB (pEq a1.2.1 4) (
 bindO (impl_machine_push N (a0.1, (a0.2.1, (a0.2.2.1, ((pAdd .i64 a0.2.2.2.1 1), a0.2.2.2.2)))) a0.2.2.1.2.2.2.2.1) fun y188 =>
 some y188) (
 ifB (pEq a1.2.1 3) (
 bindO (impl_machine_push N (a0.1, (a0.2.1, (a0.2.2.1, ((pAdd .i64 a0.2.2.2.1 1), a0.2.2.2.2)))) a0.2.2.1.2.2.2.1) fun y189 =>
 some y189) (
 ifB (pEq a1.2.1 2) (
 bindO (impl_machine_push N (a0.1, (a0.2.1, (a0.2.2.1, ((pAdd .i64 a0.2.2.2.1 1), a0.2.2.2.2)))) a0.2.2.1.2.2.1) fun y190 =>
 some y190) (
 ifB (pEq a1.2.1 1) (
 bindO (impl_machine_push N (a0.1, (a0.2.1, (a0.2.2.1, ((pAdd .i64 a0.2.2.2.1 1), a0.2.2.2.2)))) a0.2.2.1.2.1) fun y191 =>
 some y191) (
 bindO (impl_machine_push N (a0.1, (a0.2.1, (a0.2.2.1, ((pAdd .i64 a0.2.2.2.1 1), a0.2.2.2.2)))) a0.2.2.1.1) fun y192 =>
 some y192)))))))) (
 none)) (
 none)) (
 ifB (pEq a1.1 4) (
 ifB (pLe 0 a1.2.1) (
 ifB (pLt a1.2.1 8) (
 ifB (pEq a1.2.1 7) (
 some (a0.1, (a0.2.1, ((a0.2.2.1.1, (a0.2.2.1.2.1, (a0.2.2.1.2.2.1, (a0.2.2.1.2.2.2.1, (a0.2.2.1.2.2.2.2.1, (a0.2.2.1.2.2.2.2.2.1, (a0.2.2.1.2.2.2.2.2.2.1, (0, a0.2.2.1.2.2.2.2.2.2.2.2)))))))), ((pAdd .i64 a0.2.2.2.1 1), a0.2.2.2.2))))) (
 ifB (pEq a1.2.1 6) (
 some (a0.1, (a0.2.1, ((a0.2.2.1.1, (a0.2.2.1.2.1, (a0.2.2.1.2.2.1, (a0.2.2.1.2.2.2.1, (a0.2.2.1.2.2.2.2.1, (a0.2.2.1.2.2.2.2.2.1, (0, a0.2.2.1.2.2.2.2.2.2.2))))))), ((pAdd .i64 a0.2.2.2.1 1), a0.2.2.2.2))))) (
 ifB (pEq a1.2.1 5) (
 some (a0.1, (a0.2.1, ((a0.2.2.1.1, (a0.2.2.1.2.1, (a0.2.2.1.2.2.1, (a0.2.2.1.2.2.2.1, (a0.2.2.1.2.2.2.2.1, (0, a0.2.2.1.2.2.2.2.2.2)))))), ((pAdd .i64 a0.2.2.2.1 1), a0.2.2.2.2))))) (
 ifB (pEq a1.2.1 4) (
 some (a0.1, (a0.2.1, ((a0.2.2.1.1, (a0.2.2.1.2.1, (a0.2.2.1.2.2.1, (a0.2.2.1.2.2.2.1, (0, a0.2.2.1.2.2.2.2.2))))), ((pAdd .i64 a0.2.2.2.1 1), a0.2.2.2.2))))) (
 ifB (pEq a1.2.1 3) (
 some (a0.1, (a0.2.1, ((a0.2.2.1.1, (a0.2.2.1.2.1, (a0.2.2.1.2.2.1, (0, a0.2.2.1.2.2.2.2)))), ((pAdd .i64 a0.2.2.2.1 1), a0.2.2.2.2))))) (
 ifB (pEq a1.2.1 2) (
 some (a0.1, (a0.2.1, ((a0.2.2.1.1, (a0.2.2.1.2.1, (0, a0.2.2.1.2.2.2))), ((pAdd .i64 a0.2.2.2.1 1), a0.2.2.2.2))))) (
 ifB (pEq a1.2.1 1) (
 some (a0.1, (a0.2.1, ((a0.2.2.1.1, (0, a0.2.2.1.2.2)), ((pAdd .i64 a0.2.2.2.1 1), a0.2.2.2.2))))) (
 some (a0.1, (a0.2.1, ((0, a0.2.2.1.2), ((pAdd .i64 a0.2.2.2.1 1), a0.2.2.2.2)))))))))))) (
 none)) (
 none)) (
 ifB (pEq a1.1 5) (
 bindO (impl_machine_push N (a0.1, (a0.2.1, (a0.2.2.1, ((pAdd .i64 a0.2.2.2.1 1), a0.2.2.2.2)))) a0.1.1.2.1) fun y193 =>
 some y193) (
 ifB (pEq a1.1 6) (
 bindO (impl_size_Sint64 N a0.1.1.1) fun y194 =>
 bindO (impl_machine_push N (a0.1, (a0.2.1, (a0.2.2.1, ((pAdd .i64 a0.2.2.2.1 1), a0.2.2.2.2)))) y194) fun y195 =>
 some y195) (
 ifB (pEq a1.1 7) (
 bindO (impl_machine_push N (a0.1, (a0.2.1, (a0.2.2.1, ((pAdd .i64 a0.2.2.2.1 1), a0.2.2.2.2)))) a0.1.1.2.2.1) fun y196 =>
 some y196) (
 ifB (pEq a1.1 8) (
 bindO (impl_scene_at N a0.1 0) fun y197 =>
 bindO (impl_machine_push N (y197.2, (a0.2.1, (a0.2.2.1, ((pAdd .i64 a0.2.2.2.1 1), a0.2.2.2.2)))) y197.1) fun y198 =>
 some y198) (
 ifB (pEq a1.1 9) (
 bindO (impl_one N (pEq 0 0)) fun y199 =>
 bindO (impl_machine_push N (a0.1, (a0.2.1, (a0.2.2.1, ((pAdd .i64 a0.2.2.2.1 1), a0.2.2.2.2)))) y199) fun y200 =>
 some y200) (
 ifB (pEq a1.1 10) (
 bindO (impl_scene_two N a0.1 a1.2.1 0 0) fun y201 =>
 bindO (impl_machine_push N (y201.2, (a0.2.1, (a0.2.2.1, ((pAdd .i64 a0.2.2.2.1 1), a0.2.2.2.2)))) y201.1) fun y202 =>
 some y202) (
 ifB (pEq a1.1 11) (
 some (a0.1, (a0.2.1, (a0.2.2.1, (a1.2.1, a0.2.2.2.2))))) (
 ifB (pEq a1.1 12) (
 ifB (pEq 0 0) (
 some (a0.1, (a0.2.1, (a0.2.2.1, (a1.2.1, a0.2.2.2.2))))) (
 some (a0.1, (a0.2.1, (a0.2.2.1, ((pAdd .i64 a0.2.2.2.1 1), a0.2.2.2.2)))))) (
 ifB (pEq a1.1 13) (
 bindO (impl_scene_insert N a0.1 0) fun y203 =>
 some (y203, (a0.2.1, (a0.2.2.1, ((pAdd .i64 a0.2.2.2.1 1), a0.2.2.2.2))))) (
 ifB (pEq a1.1 14) (
 bindO (impl_scene_delete N a0.1 0 0) fun y204 =>
 some (y204, (a0.2.1, (a0.2.2.1, ((pAdd .i64 a0.2.2.2.1 1), a0.2.2.2.2))))) (
 ifB (pEq a1.1 15) (
 bindO (impl_scene_goTo N a0.1 0) fun y205 =>
 some (y205, (a0.2.1, (a0.2.2.1, ((pAdd .i64 a0.2.2.2.1 1), a0.2.2.2.2))))) (
 ifB (pEq a1.1 16) (
 bindO (impl_scene_markAt N a0.1 0) fun y206 =>
 some (y206, (a0.2.1, (a0.2.2.1, ((pAdd .i64 a0.2.2.2.1 1), a0.2.2.2.2))))) (
 ifB (pEq a1.1 17) (
 some ((a0.1.1, (a0.1.2.1, ((pAdd .i64 a0.1.2.2.1 1), a0.1.2.2.2))), (a0.2.1, (a0.2.2.1, ((pAdd .i64 a0.2.2.2.1 1), a0.2.2.2.2))))) (
 ifB (pEq a1.1 18) (
 bindO (impl_BufMove N a0.1.1 a1.2.1 1 0) fun y207 =>
 some ((y207, a0.1.2), (a0.2.1, (a0.2.2.1, ((pAdd .i64 a0.2.2.2.1 1), a0.2.2.2.2))))) (
 some (a0.1, (a0.2.1, (a0.2.2.1, ((pAdd .i64 a0.2.2.2.1 1), a0.2.2.2.2))))))))))))))))))))))))
end Go.AE.F
end
