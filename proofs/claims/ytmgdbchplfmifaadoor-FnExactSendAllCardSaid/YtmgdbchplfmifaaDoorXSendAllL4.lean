/- The printed functions are what the program comes to: contracts. -/
import Derived.Test.YtmgdbchplfmifaaDoorXSendAllL3
noncomputable section
namespace Go.AE.F
open Go.AE Go.Proofs Go.Lib
set_option maxRecDepth 100000
def zA9.con (N : Nat) : Con := { modes := [.tk, .v], ptrs := [false], fn := fn2 s45 (.own .imm) (.int .i32) .imm (zA9 N) (fun r => [⟨s45, (.own .imm), r⟩]) (fun r => []) }
def zA9.cfg (N : Nat) : Cfg := { ty := tys, keep := [], flt := [], elm := elm0, live := [], ord := [], con := [], loops := [], joins := [] }
theorem zA9.cons (N : Nat) : ConsOk Tryd.prog (zA9.cfg N).con := consOk_nil
theorem zA9.ls (N : Nat) : LoopsOk Tryd.prog (zA9.cfg N) (fnBody Tryd.f64) := loopsL (l := []) (by kernel_rfl) trivial
theorem zA9.b (N : Nat) (x0 : den s45) (x1 : den (.int .i32)) : body (zA9.cfg N) N Tryd.f64 [.one, .one] [.tk, .v] [(false, (.own .imm))] [⟨s45, (.own .imm), x0⟩, ⟨(.int .i32), .imm, x1⟩] (fun r i => some (r, i)) = bindO (zA9 N x0 x1) fun r => some ([⟨s45, (.own .imm), r⟩], []) := by
  show _ = bindF _ _
  conv => rhs; simp only [zA9, bindF_ifB, bindF_bindO, bindF_pure, bindF_none, bindF_onSum]
  kernel_rfl
theorem zA9.ok (N : Nat) : ConOk Tryd.prog 64 [.one, .one] (zA9.con N) := ok2 (g := zA9.cfg N) (N := N) (res := [(false, (.own .imm))]) tys_ok (zA9.cons N) mixed Tryd.func64 (zA9.ls N) rfl (zA9.b N)
theorem zA9.det (N : Nat) : ConDet (zA9.con N) := det2
def zAN.con (N : Nat) : Con := { modes := [.tk, .v], ptrs := [false], fn := fn2 s45 (.own .imm) (.int .i32) .imm (zAN N) (fun r => [⟨s45, (.own .imm), r⟩]) (fun r => []) }
def zAN.cfg (N : Nat) : Cfg := { ty := tys, keep := [15], flt := [], elm := elm0, live := [], ord := [], con := [((64, [.one, .one]), zA9.con N)], loops := [], joins := [] }
theorem zAN.cons (N : Nat) : ConsOk Tryd.prog (zAN.cfg N).con := (consOk_cons (hb64) (zA9.ok N) (zA9.det N) consOk_nil)
theorem zAN.ls (N : Nat) : LoopsOk Tryd.prog (zAN.cfg N) (fnBody Tryd.f59) := loopsL (l := []) (by kernel_rfl) trivial
theorem zAN.b (N : Nat) (x0 : den s45) (x1 : den (.int .i32)) : body (zAN.cfg N) N Tryd.f59 [.one, .one] [.tk, .v] [(false, (.own .imm))] [⟨s45, (.own .imm), x0⟩, ⟨(.int .i32), .imm, x1⟩] (fun r i => some (r, i)) = bindO (zAN N x0 x1) fun r => some ([⟨s45, (.own .imm), r⟩], []) := by
  show _ = bindF _ _
  conv => rhs; simp only [zAN, bindF_ifB, bindF_bindO, bindF_pure, bindF_none, bindF_onSum]
  kernel_rfl
theorem zAN.ok (N : Nat) : ConOk Tryd.prog 59 [.one, .one] (zAN.con N) := ok2 (g := zAN.cfg N) (N := N) (res := [(false, (.own .imm))]) tys_ok (zAN.cons N) mixed Tryd.func59 (zAN.ls N) rfl (zAN.b N)
theorem zAN.det (N : Nat) : ConDet (zAN.con N) := det2
def zAM.sk3 : Skel := ⟨dd 3 (.ov 50 [] :: (dd 3 (.pv s40 :: (.pv (.int .i64) :: (.pv (.int .i64) :: (dd 10 [])))))), [⟨50, s45, (.own .imm), false, false⟩]⟩
def zAM.xs3 : List XS := [⟨.exit 0, [3], ⟨dd 3 (.ov 50 [] :: (dd 16 [])), [⟨50, s45, (.own .imm), false, false⟩]⟩⟩]
def zAM.con (N : Nat) : Con := { modes := [.v], ptrs := [false], fn := fn1 s40 .imm (zAM N) (fun r => [⟨.str, .imm, r⟩]) (fun r => []) }
def zAM.cfg (N : Nat) : Cfg := { ty := tys, keep := [16], flt := [], elm := elm0, live := [(3, [3, 7, 8, 9])], ord := [], con := [((59, [.one, .one]), zAN.con N)], loops := [(3, loopCon N zAM.sk3 zAM.xs3 (fun {R} => zAM.l3 (R := R) N))], joins := [] }
theorem zAM.cons (N : Nat) : ConsOk Tryd.prog (zAM.cfg N).con := (consOk_cons (hb59) (zAN.ok N) (zAN.det N) consOk_nil)
theorem zAM.h3 {R : Type} (N : Nat) (d : zAM.sk3.D) (kn : zAM.sk3.D → Option R) (kx : XD zAM.xs3 → Option R) : roundK (zAM.cfg N) N (nthLoop (fnBody Tryd.f49) 0) zAM.sk3 zAM.xs3 d kn kx = zAM.l3 N d kn kx := by kernel_rfl
theorem zAM.i3 (N : Nat) : LoopsOk Tryd.prog (zAM.cfg N) (nthLoop (fnBody Tryd.f49) 0) := loopsL (l := []) (by kernel_rfl) trivial
theorem zAM.o3 (N : Nat) : LoopOk Tryd.prog (nthLoop (fnBody Tryd.f49) 0) (loopCon N zAM.sk3 zAM.xs3 (fun {R} => zAM.l3 (R := R) N)) := loop_ok (g := zAM.cfg N) tys_ok (zAM.cons N) mixed (zAM.i3 N) (fun d kn kx => zAM.h3 N d kn kx)
theorem zAM.ls (N : Nat) : LoopsOk Tryd.prog (zAM.cfg N) (fnBody Tryd.f49) := loopsL (l := [nthLoop (fnBody Tryd.f49) 0]) (by kernel_rfl) ⟨loopOne (L0 := loopCon N zAM.sk3 zAM.xs3 (fun {R} => zAM.l3 (R := R) N)) (id := 3) (by kernel_rfl) (by kernel_rfl) (zAM.o3 N), trivial⟩
theorem zAM.q3 {R R' : Type} {N n : Nat} {d} {k} {g : R → Option R'} : bindF (loopP (zAM.l3 N) n d k) g = loopP (zAM.l3 N) n d fun e => bindF (k e) g := bindF_loopP (fun d kn kx => by simp only [zAM.l3, bindF_ifB, bindF_bindO, bindF_pure, bindF_none, bindF_onSum]) n d k
theorem zAM.b (N : Nat) (x0 : den s40) : body (zAM.cfg N) N Tryd.f49 [.one] [.v] [(false, .imm)] [⟨s40, .imm, x0⟩] (fun r i => some (r, i)) = bindO (zAM N x0) fun r => some ([⟨.str, .imm, r⟩], []) := by
  show _ = bindF _ _
  conv => rhs; simp only [zAM, bindF_ifB, bindF_bindO, bindF_pure, bindF_none, bindF_onSum, zAM.q3]
  kernel_rfl
theorem zAM.ok (N : Nat) : ConOk Tryd.prog 49 [.one] (zAM.con N) := ok1 (g := zAM.cfg N) (N := N) (res := [(false, .imm)]) tys_ok (zAM.cons N) mixed Tryd.func49 (zAM.ls N) rfl (zAM.b N)
theorem zAM.det (N : Nat) : ConDet (zAM.con N) := det1
set_option maxHeartbeats 2000000 in
set_option maxRecDepth 100000 in
theorem strings_Builder_String.run : BltRun Tryd.prog 31 53 5 2 := by
  intro m w b p ad cap xs hR I
  have mixed := mixed
  have hcb : Tryd.prog.cellsOf 5 = 1 := by kernel_rfl
  have c1 : w.drew.cell? ⟨b, 1, none⟩ = some (.slice ad xs.length cap) := I.c1
  obtain ⟨q, w', hSD, hUS, S⟩ := I.string (P := Tryd.prog) (tS := 45) (pt := 72) (it := 3) (ty := 72) (ty2 := 9) Tryd.underlying72 hcb
  have hSD := hSD w.drew
  unfold self
  go_enter Tryd.func31, Tryd.ntmps31
  go_wp2
  go_region_o
  all_goals (go_wp2; go_ret; exact ⟨rfl, S⟩)
def strings_Builder_String.con (N : Nat) : Con := { modes := [], ptrs := [], bl := some (53, 5, 2), fn := fun _ _ => none }
theorem strings_Builder_String.ok (N : Nat) : ConOk Tryd.prog 31 [.one] (strings_Builder_String.con N) := ⟨fun h => (by cases h), fun b h => (by injection h with h; subst h; exact ⟨Tryd.zeroValue53, strings_Builder_String.run⟩)⟩
theorem strings_Builder_String.det (N : Nat) : ConDet (strings_Builder_String.con N) := fun ds R k y h => by cases h
def zA5.sk5 : Skel := ⟨dd 5 (.ptr 50 [] :: (.pv (.int .i64) :: (dd 23 (.pv s27 :: (.pv (.int .i64) :: (.pv (.int .i64) :: (dd 24 []))))))), [⟨50, (.pair (.sl 53 .unit) (.pair s45 .unit)), (.pr .imm (.pr (.own .imm) .imm)), true, false⟩]⟩
def zA5.xs5 : List XS := [⟨.exit 0, [5, 6], ⟨dd 5 (.ptr 50 [] :: (.pv (.int .i64) :: (dd 50 []))), [⟨50, (.pair (.sl 53 .unit) (.pair s45 .unit)), (.pr .imm (.pr (.own .imm) .imm)), true, false⟩]⟩⟩]
def zA5.con (N : Nat) : Con := { modes := [.rd, .v], ptrs := [false], fn := fn2 s28 .imm (.int .i64) .imm (zA5 N) (fun r => [⟨.str, .imm, r⟩]) (fun r => []) }
def zA5.cfg (N : Nat) : Cfg := { ty := tys, keep := [10, 12, 36, 44, 47, 50, 51, 55, 56], flt := [], elm := elm0, live := [(5, [5, 6, 30, 31, 32])], ord := [(4, [0, 1, 2, 3, 4, 5, 6, 7, 8, 9, 10, 11, 12, 13, 14, 15, 16, 17, 19, 18])], con := [((30, [.one, .one]), zBL.con N), ((27, [.one, .one]), strings_Builder_WriteString.con N), ((43, [.one]), zAQ.con N), ((48, [.one]), zA4.con N), ((49, [.one]), zAM.con N), ((31, [.one]), strings_Builder_String.con N)], loops := [(5, loopCon N zA5.sk5 zA5.xs5 (fun {R} => zA5.l5 (R := R) N))], joins := [(12, [⟨.normal, [5, 6, 30, 31, 32], ⟨dd 5 (.ptr 50 [] :: (.pv (.int .i64) :: (dd 23 (.pv s27 :: (.pv (.int .i64) :: (.pv (.int .i64) :: (dd 24 []))))))), [⟨50, (.pair (.sl 53 .unit) (.pair s45 .unit)), (.pr .imm (.pr (.own .imm) .imm)), true, false⟩]⟩⟩])] }
theorem zA5.cons (N : Nat) : ConsOk Tryd.prog (zA5.cfg N).con := (consOk_cons (hb30) (zBL.ok N) (zBL.det N) (consOk_cons (hb27) (strings_Builder_WriteString.ok N) (strings_Builder_WriteString.det N) (consOk_cons (hb43) (zAQ.ok N) (zAQ.det N) (consOk_cons (hb48) (zA4.ok N) (zA4.det N) (consOk_cons (hb49) (zAM.ok N) (zAM.det N) (consOk_cons (hb31) (strings_Builder_String.ok N) (strings_Builder_String.det N) consOk_nil))))))
theorem zA5.h5 {R : Type} (N : Nat) (d : zA5.sk5.D) (kn : zA5.sk5.D → Option R) (kx : XD zA5.xs5 → Option R) : roundK (zA5.cfg N) N (nthLoop (fnBody Tryd.f28) 0) zA5.sk5 zA5.xs5 d kn kx = zA5.l5 N d kn kx := by kernel_rfl
theorem zA5.i5 (N : Nat) : LoopsOk Tryd.prog (zA5.cfg N) (nthLoop (fnBody Tryd.f28) 0) := loopsL (l := []) (by kernel_rfl) trivial
theorem zA5.o5 (N : Nat) : LoopOk Tryd.prog (nthLoop (fnBody Tryd.f28) 0) (loopCon N zA5.sk5 zA5.xs5 (fun {R} => zA5.l5 (R := R) N)) := loop_ok (g := zA5.cfg N) tys_ok (zA5.cons N) mixed (zA5.i5 N) (fun d kn kx => zA5.h5 N d kn kx)
theorem zA5.ls (N : Nat) : LoopsOk Tryd.prog (zA5.cfg N) (fnBody Tryd.f28) := loopsL (l := [nthLoop (fnBody Tryd.f28) 0]) (by kernel_rfl) ⟨loopOne (L0 := loopCon N zA5.sk5 zA5.xs5 (fun {R} => zA5.l5 (R := R) N)) (id := 5) (by kernel_rfl) (by kernel_rfl) (zA5.o5 N), trivial⟩
theorem zA5.q5 {R R' : Type} {N n : Nat} {d} {k} {g : R → Option R'} : bindF (loopP (zA5.l5 N) n d k) g = loopP (zA5.l5 N) n d fun e => bindF (k e) g := bindF_loopP (fun d kn kx => by simp only [zA5.l5, bindF_ifB, bindF_bindO, bindF_pure, bindF_none, bindF_onSum]) n d k
theorem zA5.b (N : Nat) (x0 : den s28) (x1 : den (.int .i64)) : body (zA5.cfg N) N Tryd.f28 [.one, .one] [.rd, .v] [(false, .imm)] [⟨s28, .imm, x0⟩, ⟨(.int .i64), .imm, x1⟩] (fun r i => some (r, i)) = bindO (zA5 N x0 x1) fun r => some ([⟨.str, .imm, r⟩], []) := by
  show _ = bindF _ _
  conv => rhs; simp only [zA5, bindF_ifB, bindF_bindO, bindF_pure, bindF_none, bindF_onSum, zA5.q5]
  kernel_rfl
theorem zA5.ok (N : Nat) : ConOk Tryd.prog 28 [.one, .one] (zA5.con N) := ok2 (g := zA5.cfg N) (N := N) (res := [(false, .imm)]) tys_ok (zA5.cons N) mixed Tryd.func28 (zA5.ls N) rfl (zA5.b N)
theorem zA5.det (N : Nat) : ConDet (zA5.con N) := det2
set_option maxHeartbeats 1000000 in
set_option maxRecDepth 100000 in
theorem strings_Builder_Len.run : BltRun Tryd.prog 29 53 5 1 := by
  intro m w b p ad cap xs hR I
  have mixed := mixed
  have c1 := I.c1
  unfold self
  go_enter Tryd.func29, Tryd.ntmps29
  go_wp2
  go_ret
  exact ⟨rfl, rfl⟩
def strings_Builder_Len.con (N : Nat) : Con := { modes := [], ptrs := [], bl := some (53, 5, 1), fn := fun _ _ => none }
theorem strings_Builder_Len.ok (N : Nat) : ConOk Tryd.prog 29 [.one] (strings_Builder_Len.con N) := ⟨fun h => (by cases h), fun b h => (by injection h with h; subst h; exact ⟨Tryd.zeroValue53, strings_Builder_Len.run⟩)⟩
theorem strings_Builder_Len.det (N : Nat) : ConDet (strings_Builder_Len.con N) := fun ds R k y h => by cases h
def zAW.sk5 : Skel := ⟨dd 2 (.ptr 50 [] :: (.ptr 51 [] :: (dd 1 (.ptr 52 [] :: (dd 26 (.pv (.int .i64) :: (.pv (.int .i64) :: (dd 50 [])))))))), [⟨50, s28, .imm, true, false⟩, ⟨51, s28, .imm, true, false⟩, ⟨52, (.pair (.sl 53 .unit) (.pair s45 .unit)), (.pr .imm (.pr (.own .imm) .imm)), true, false⟩]⟩
def zAW.xs5 : List XS := [⟨.exit 0, [2, 3, 5], ⟨dd 2 (.ptr 50 [] :: (.ptr 51 [] :: (dd 1 (.ptr 52 [] :: (dd 78 []))))), [⟨50, s28, .imm, true, false⟩, ⟨51, s28, .imm, true, false⟩, ⟨52, (.pair (.sl 53 .unit) (.pair s45 .unit)), (.pr .imm (.pr (.own .imm) .imm)), true, false⟩]⟩⟩]
def zAW.con (N : Nat) : Con := { modes := [.v, .v], ptrs := [false], fn := fn2 s28 .imm s28 .imm (zAW N) (fun r => [⟨.str, .imm, r⟩]) (fun r => []) }
def zAW.cfg (N : Nat) : Cfg := { ty := tys, keep := [10, 14, 55, 58, 59, 61, 81, 82, 83], flt := [], elm := elm0, live := [(5, [2, 3, 5, 32, 33])], ord := [(7, [0, 1, 2, 3, 4, 5, 6, 7, 8, 9, 10]), (8, [0, 1, 2, 3, 4, 5, 6, 7, 8, 9, 10, 11])], con := [((25, [.one]), zA7.con N), ((26, [.one, .one]), zB1.con N), ((28, [.one, .one]), zA5.con N), ((27, [.one, .one]), strings_Builder_WriteString.con N), ((29, [.one]), strings_Builder_Len.con N), ((30, [.one, .one]), zBL.con N), ((31, [.one]), strings_Builder_String.con N)], loops := [(5, loopCon N zAW.sk5 zAW.xs5 (fun {R} => zAW.l5 (R := R) N))], joins := [(10, [⟨.normal, [2, 3, 5, 32, 33], ⟨dd 2 (.ptr 50 [] :: (.ptr 51 [] :: (dd 1 (.ptr 52 [] :: (dd 26 (.pv (.int .i64) :: (.pv (.int .i64) :: (dd 50 [])))))))), [⟨50, s28, .imm, true, false⟩, ⟨51, s28, .imm, true, false⟩, ⟨52, (.pair (.sl 53 .unit) (.pair s45 .unit)), (.pr .imm (.pr (.own .imm) .imm)), true, false⟩]⟩⟩])] }
theorem zAW.cons (N : Nat) : ConsOk Tryd.prog (zAW.cfg N).con := (consOk_cons (hb25) (zA7.ok N) (zA7.det N) (consOk_cons (hb26) (zB1.ok N) (zB1.det N) (consOk_cons (hb28) (zA5.ok N) (zA5.det N) (consOk_cons (hb27) (strings_Builder_WriteString.ok N) (strings_Builder_WriteString.det N) (consOk_cons (hb29) (strings_Builder_Len.ok N) (strings_Builder_Len.det N) (consOk_cons (hb30) (zBL.ok N) (zBL.det N) (consOk_cons (hb31) (strings_Builder_String.ok N) (strings_Builder_String.det N) consOk_nil)))))))
theorem zAW.h5 {R : Type} (N : Nat) (d : zAW.sk5.D) (kn : zAW.sk5.D → Option R) (kx : XD zAW.xs5 → Option R) : roundK (zAW.cfg N) N (nthLoop (fnBody Tryd.f14) 0) zAW.sk5 zAW.xs5 d kn kx = zAW.l5 N d kn kx := by kernel_rfl
theorem zAW.i5 (N : Nat) : LoopsOk Tryd.prog (zAW.cfg N) (nthLoop (fnBody Tryd.f14) 0) := loopsL (l := []) (by kernel_rfl) trivial
theorem zAW.o5 (N : Nat) : LoopOk Tryd.prog (nthLoop (fnBody Tryd.f14) 0) (loopCon N zAW.sk5 zAW.xs5 (fun {R} => zAW.l5 (R := R) N)) := loop_ok (g := zAW.cfg N) tys_ok (zAW.cons N) mixed (zAW.i5 N) (fun d kn kx => zAW.h5 N d kn kx)
theorem zAW.ls (N : Nat) : LoopsOk Tryd.prog (zAW.cfg N) (fnBody Tryd.f14) := loopsL (l := [nthLoop (fnBody Tryd.f14) 0]) (by kernel_rfl) ⟨loopOne (L0 := loopCon N zAW.sk5 zAW.xs5 (fun {R} => zAW.l5 (R := R) N)) (id := 5) (by kernel_rfl) (by kernel_rfl) (zAW.o5 N), trivial⟩
theorem zAW.q5 {R R' : Type} {N n : Nat} {d} {k} {g : R → Option R'} : bindF (loopP (zAW.l5 N) n d k) g = loopP (zAW.l5 N) n d fun e => bindF (k e) g := bindF_loopP (fun d kn kx => by simp only [zAW.l5, bindF_ifB, bindF_bindO, bindF_pure, bindF_none, bindF_onSum]) n d k
theorem zAW.b (N : Nat) (x0 : den s28) (x1 : den s28) : body (zAW.cfg N) N Tryd.f14 [.one, .one] [.v, .v] [(false, .imm)] [⟨s28, .imm, x0⟩, ⟨s28, .imm, x1⟩] (fun r i => some (r, i)) = bindO (zAW N x0 x1) fun r => some ([⟨.str, .imm, r⟩], []) := by
  show _ = bindF _ _
  conv => rhs; simp only [zAW, bindF_ifB, bindF_bindO, bindF_pure, bindF_none, bindF_onSum, zAW.q5]
  kernel_rfl
theorem zAW.ok (N : Nat) : ConOk Tryd.prog 14 [.one, .one] (zAW.con N) := ok2 (g := zAW.cfg N) (N := N) (res := [(false, .imm)]) tys_ok (zAW.cons N) mixed Tryd.func14 (zAW.ls N) rfl (zAW.b N)
theorem zAW.det (N : Nat) : ConDet (zAW.con N) := det2
def zBA.con (N : Nat) : Con := { modes := [.v], ptrs := [false], fn := fn1 s28 .imm (zBA N) (fun r => [⟨.str, .imm, r⟩]) (fun r => []) }
def zBA.cfg (N : Nat) : Cfg := { ty := tys, keep := [7, 9], flt := [], elm := elm0, live := [], ord := [(1, [0, 1, 2, 3, 5, 4, 6, 7])], con := [((15, [.one, .one]), zBD.con N), ((14, [.one, .one]), zAW.con N)], loops := [], joins := [] }
theorem zBA.cons (N : Nat) : ConsOk Tryd.prog (zBA.cfg N).con := (consOk_cons (hb15) (zBD.ok N) (zBD.det N) (consOk_cons (hb14) (zAW.ok N) (zAW.det N) consOk_nil))
theorem zBA.ls (N : Nat) : LoopsOk Tryd.prog (zBA.cfg N) (fnBody Tryd.f7) := loopsL (l := []) (by kernel_rfl) trivial
theorem zBA.b (N : Nat) (x0 : den s28) : body (zBA.cfg N) N Tryd.f7 [.one] [.v] [(false, .imm)] [⟨s28, .imm, x0⟩] (fun r i => some (r, i)) = bindO (zBA N x0) fun r => some ([⟨.str, .imm, r⟩], []) := by
  show _ = bindF _ _
  conv => rhs; simp only [zBA, bindF_ifB, bindF_bindO, bindF_pure, bindF_none, bindF_onSum]
  kernel_rfl
theorem zBA.ok (N : Nat) : ConOk Tryd.prog 7 [.one] (zBA.con N) := ok1 (g := zBA.cfg N) (N := N) (res := [(false, .imm)]) tys_ok (zBA.cons N) mixed Tryd.func7 (zBA.ls N) rfl (zBA.b N)
theorem zBA.det (N : Nat) : ConDet (zBA.con N) := det1
def zAC.sk4 : Skel := ⟨.pv s40 :: (.pv s40 :: (dd 3 (.pv (.int .i64) :: (dd 20 [])))), []⟩
def zAC.xs4 : List XS := [⟨.exit 0, [], ⟨dd 26 [], []⟩⟩, ⟨.ret, [4], ⟨dd 4 (.pv .bool :: (dd 21 [])), []⟩⟩]
def zAC.con (N : Nat) : Con := { modes := [.v, .v], ptrs := [false], fn := fn2 s40 .imm s40 .imm (zAC N) (fun r => [⟨.bool, .imm, r⟩]) (fun r => []) }
def zAC.cfg (N : Nat) : Cfg := { ty := tys, keep := [], flt := [], elm := elm0, live := [(4, [0, 1, 5])], ord := [(6, [0, 1, 2, 3, 4, 5, 6, 7, 8])], con := [], loops := [(4, loopCon N zAC.sk4 zAC.xs4 (fun {R} => zAC.l4 (R := R) N))], joins := [] }
theorem zAC.cons (N : Nat) : ConsOk Tryd.prog (zAC.cfg N).con := consOk_nil
theorem zAC.h4 {R : Type} (N : Nat) (d : zAC.sk4.D) (kn : zAC.sk4.D → Option R) (kx : XD zAC.xs4 → Option R) : roundK (zAC.cfg N) N (nthLoop (fnBody Tryd.f51) 0) zAC.sk4 zAC.xs4 d kn kx = zAC.l4 N d kn kx := by kernel_rfl
theorem zAC.i4 (N : Nat) : LoopsOk Tryd.prog (zAC.cfg N) (nthLoop (fnBody Tryd.f51) 0) := loopsL (l := []) (by kernel_rfl) trivial
theorem zAC.o4 (N : Nat) : LoopOk Tryd.prog (nthLoop (fnBody Tryd.f51) 0) (loopCon N zAC.sk4 zAC.xs4 (fun {R} => zAC.l4 (R := R) N)) := loop_ok (g := zAC.cfg N) tys_ok (zAC.cons N) mixed (zAC.i4 N) (fun d kn kx => zAC.h4 N d kn kx)
theorem zAC.ls (N : Nat) : LoopsOk Tryd.prog (zAC.cfg N) (fnBody Tryd.f51) := loopsL (l := [nthLoop (fnBody Tryd.f51) 0]) (by kernel_rfl) ⟨loopOne (L0 := loopCon N zAC.sk4 zAC.xs4 (fun {R} => zAC.l4 (R := R) N)) (id := 4) (by kernel_rfl) (by kernel_rfl) (zAC.o4 N), trivial⟩
theorem zAC.q4 {R R' : Type} {N n : Nat} {d} {k} {g : R → Option R'} : bindF (loopP (zAC.l4 N) n d k) g = loopP (zAC.l4 N) n d fun e => bindF (k e) g := bindF_loopP (fun d kn kx => by simp only [zAC.l4, bindF_ifB, bindF_bindO, bindF_pure, bindF_none, bindF_onSum]) n d k
theorem zAC.b (N : Nat) (x0 : den s40) (x1 : den s40) : body (zAC.cfg N) N Tryd.f51 [.one, .one] [.v, .v] [(false, .imm)] [⟨s40, .imm, x0⟩, ⟨s40, .imm, x1⟩] (fun r i => some (r, i)) = bindO (zAC N x0 x1) fun r => some ([⟨.bool, .imm, r⟩], []) := by
  show _ = bindF _ _
  conv => rhs; simp only [zAC, bindF_ifB, bindF_bindO, bindF_pure, bindF_none, bindF_onSum, zAC.q4]
  kernel_rfl
theorem zAC.ok (N : Nat) : ConOk Tryd.prog 51 [.one, .one] (zAC.con N) := ok2 (g := zAC.cfg N) (N := N) (res := [(false, .imm)]) tys_ok (zAC.cons N) mixed Tryd.func51 (zAC.ls N) rfl (zAC.b N)
theorem zAC.det (N : Nat) : ConDet (zAC.con N) := det2
def zBJ.con (N : Nat) : Con := { modes := [.v, .v], ptrs := [false], fn := fn2 s41 .imm s41 .imm (zBJ N) (fun r => [⟨.bool, .imm, r⟩]) (fun r => []) }
def zBJ.cfg (N : Nat) : Cfg := { ty := tys, keep := [9], flt := [], elm := elm0, live := [], ord := [], con := [((51, [.one, .one]), zAC.con N)], loops := [], joins := [] }
theorem zBJ.cons (N : Nat) : ConsOk Tryd.prog (zBJ.cfg N).con := (consOk_cons (hb51) (zAC.ok N) (zAC.det N) consOk_nil)
theorem zBJ.ls (N : Nat) : LoopsOk Tryd.prog (zBJ.cfg N) (fnBody Tryd.f34) := loopsL (l := []) (by kernel_rfl) trivial
theorem zBJ.b (N : Nat) (x0 : den s41) (x1 : den s41) : body (zBJ.cfg N) N Tryd.f34 [.one, .one] [.v, .v] [(false, .imm)] [⟨s41, .imm, x0⟩, ⟨s41, .imm, x1⟩] (fun r i => some (r, i)) = bindO (zBJ N x0 x1) fun r => some ([⟨.bool, .imm, r⟩], []) := by
  show _ = bindF _ _
  conv => rhs; simp only [zBJ, bindF_ifB, bindF_bindO, bindF_pure, bindF_none, bindF_onSum]
  kernel_rfl
theorem zBJ.ok (N : Nat) : ConOk Tryd.prog 34 [.one, .one] (zBJ.con N) := ok2 (g := zBJ.cfg N) (N := N) (res := [(false, .imm)]) tys_ok (zBJ.cons N) mixed Tryd.func34 (zBJ.ls N) rfl (zBJ.b N)
theorem zBJ.det (N : Nat) : ConDet (zBJ.con N) := det2
def zAJ.sk4 : Skel := ⟨.pv s27 :: (.pv s27 :: (dd 3 (.pv (.int .i64) :: (dd 21 [])))), []⟩
def zAJ.xs4 : List XS := [⟨.exit 0, [], ⟨dd 27 [], []⟩⟩, ⟨.ret, [4], ⟨dd 4 (.pv .bool :: (dd 22 [])), []⟩⟩]
def zAJ.con (N : Nat) : Con := { modes := [.v, .v], ptrs := [false], fn := fn2 s27 .imm s27 .imm (zAJ N) (fun r => [⟨.bool, .imm, r⟩]) (fun r => []) }
def zAJ.cfg (N : Nat) : Cfg := { ty := tys, keep := [25], flt := [], elm := elm0, live := [(4, [0, 1, 5])], ord := [(6, [0, 1, 2, 3, 4, 5, 6, 7, 8, 9])], con := [((34, [.one, .one]), zBJ.con N)], loops := [(4, loopCon N zAJ.sk4 zAJ.xs4 (fun {R} => zAJ.l4 (R := R) N))], joins := [] }
theorem zAJ.cons (N : Nat) : ConsOk Tryd.prog (zAJ.cfg N).con := (consOk_cons (hb34) (zBJ.ok N) (zBJ.det N) consOk_nil)
theorem zAJ.h4 {R : Type} (N : Nat) (d : zAJ.sk4.D) (kn : zAJ.sk4.D → Option R) (kx : XD zAJ.xs4 → Option R) : roundK (zAJ.cfg N) N (nthLoop (fnBody Tryd.f16) 0) zAJ.sk4 zAJ.xs4 d kn kx = zAJ.l4 N d kn kx := by kernel_rfl
theorem zAJ.i4 (N : Nat) : LoopsOk Tryd.prog (zAJ.cfg N) (nthLoop (fnBody Tryd.f16) 0) := loopsL (l := []) (by kernel_rfl) trivial
theorem zAJ.o4 (N : Nat) : LoopOk Tryd.prog (nthLoop (fnBody Tryd.f16) 0) (loopCon N zAJ.sk4 zAJ.xs4 (fun {R} => zAJ.l4 (R := R) N)) := loop_ok (g := zAJ.cfg N) tys_ok (zAJ.cons N) mixed (zAJ.i4 N) (fun d kn kx => zAJ.h4 N d kn kx)
theorem zAJ.ls (N : Nat) : LoopsOk Tryd.prog (zAJ.cfg N) (fnBody Tryd.f16) := loopsL (l := [nthLoop (fnBody Tryd.f16) 0]) (by kernel_rfl) ⟨loopOne (L0 := loopCon N zAJ.sk4 zAJ.xs4 (fun {R} => zAJ.l4 (R := R) N)) (id := 4) (by kernel_rfl) (by kernel_rfl) (zAJ.o4 N), trivial⟩
theorem zAJ.q4 {R R' : Type} {N n : Nat} {d} {k} {g : R → Option R'} : bindF (loopP (zAJ.l4 N) n d k) g = loopP (zAJ.l4 N) n d fun e => bindF (k e) g := bindF_loopP (fun d kn kx => by simp only [zAJ.l4, bindF_ifB, bindF_bindO, bindF_pure, bindF_none, bindF_onSum]) n d k
theorem zAJ.b (N : Nat) (x0 : den s27) (x1 : den s27) : body (zAJ.cfg N) N Tryd.f16 [.one, .one] [.v, .v] [(false, .imm)] [⟨s27, .imm, x0⟩, ⟨s27, .imm, x1⟩] (fun r i => some (r, i)) = bindO (zAJ N x0 x1) fun r => some ([⟨.bool, .imm, r⟩], []) := by
  show _ = bindF _ _
  conv => rhs; simp only [zAJ, bindF_ifB, bindF_bindO, bindF_pure, bindF_none, bindF_onSum, zAJ.q4]
  kernel_rfl
theorem zAJ.ok (N : Nat) : ConOk Tryd.prog 16 [.one, .one] (zAJ.con N) := ok2 (g := zAJ.cfg N) (N := N) (res := [(false, .imm)]) tys_ok (zAJ.cons N) mixed Tryd.func16 (zAJ.ls N) rfl (zAJ.b N)
theorem zAJ.det (N : Nat) : ConDet (zAJ.con N) := det2
def zBH.con (N : Nat) : Con := { modes := [.v, .v], ptrs := [false], fn := fn2 s28 .imm s28 .imm (zBH N) (fun r => [⟨.bool, .imm, r⟩]) (fun r => []) }
def zBH.cfg (N : Nat) : Cfg := { ty := tys, keep := [19], flt := [], elm := elm0, live := [], ord := [], con := [((16, [.one, .one]), zAJ.con N)], loops := [], joins := [] }
theorem zBH.cons (N : Nat) : ConsOk Tryd.prog (zBH.cfg N).con := (consOk_cons (hb16) (zAJ.ok N) (zAJ.det N) consOk_nil)
theorem zBH.ls (N : Nat) : LoopsOk Tryd.prog (zBH.cfg N) (fnBody Tryd.f8) := loopsL (l := []) (by kernel_rfl) trivial
theorem zBH.b (N : Nat) (x0 : den s28) (x1 : den s28) : body (zBH.cfg N) N Tryd.f8 [.one, .one] [.v, .v] [(false, .imm)] [⟨s28, .imm, x0⟩, ⟨s28, .imm, x1⟩] (fun r i => some (r, i)) = bindO (zBH N x0 x1) fun r => some ([⟨.bool, .imm, r⟩], []) := by
  show _ = bindF _ _
  conv => rhs; simp only [zBH, bindF_ifB, bindF_bindO, bindF_pure, bindF_none, bindF_onSum]
  kernel_rfl
theorem zBH.ok (N : Nat) : ConOk Tryd.prog 8 [.one, .one] (zBH.con N) := ok2 (g := zBH.cfg N) (N := N) (res := [(false, .imm)]) tys_ok (zBH.cons N) mixed Tryd.func8 (zBH.ls N) rfl (zBH.b N)
theorem zBH.det (N : Nat) : ConDet (zBH.con N) := det2
end Go.AE.F
end
