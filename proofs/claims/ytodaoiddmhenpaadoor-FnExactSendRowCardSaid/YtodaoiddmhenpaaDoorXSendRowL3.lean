/- The printed functions are what the program comes to: contracts. -/
import Derived.Test.YtodaoiddmhenpaaDoorXSendRowL2
noncomputable section
namespace Go.AE.F
open Go.AE Go.Proofs Go.Lib
set_option maxRecDepth 100000
def strconv_FormatInt.con (N : Nat) : Con := { modes := [.v, .v], ptrs := [false], fn := fn2 (.int .i64) .imm (.int .i64) .imm (strconv_FormatInt N) (fun r => [⟨.str, .imm, r⟩]) (fun r => []) }
def strconv_FormatInt.cfg (N : Nat) : Cfg := { ty := tys, keep := [7], flt := [], elm := elm0, live := [], ord := [], con := [((53, [.one, .one]), internal_strconv_FormatInt.con N)], loops := [], joins := [] }
theorem strconv_FormatInt.cons (N : Nat) : ConsOk Tryd.prog (strconv_FormatInt.cfg N).con := (consOk_cons (hb53) (internal_strconv_FormatInt.ok N) (internal_strconv_FormatInt.det N) consOk_nil)
theorem strconv_FormatInt.ls (N : Nat) : LoopsOk Tryd.prog (strconv_FormatInt.cfg N) (fnBody Tryd.f44) := loopsL (l := []) (by kernel_rfl) trivial
theorem strconv_FormatInt.b (N : Nat) (x0 : den (.int .i64)) (x1 : den (.int .i64)) : body (strconv_FormatInt.cfg N) N Tryd.f44 [.one, .one] [.v, .v] [(false, .imm)] [⟨(.int .i64), .imm, x0⟩, ⟨(.int .i64), .imm, x1⟩] (fun r i => some (r, i)) = bindO (strconv_FormatInt N x0 x1) fun r => some ([⟨.str, .imm, r⟩], []) := by
  show _ = bindF _ _
  conv => rhs; simp only [strconv_FormatInt, bindF_ifB, bindF_bindO, bindF_pure, bindF_none, bindF_onSum]
  kernel_rfl
theorem strconv_FormatInt.ok (N : Nat) : ConOk Tryd.prog 44 [.one, .one] (strconv_FormatInt.con N) := ok2 (g := strconv_FormatInt.cfg N) (N := N) (res := [(false, .imm)]) tys_ok (strconv_FormatInt.cons N) mixed Tryd.func44 (strconv_FormatInt.ls N) rfl (strconv_FormatInt.b N)
theorem strconv_FormatInt.det (N : Nat) : ConDet (strconv_FormatInt.con N) := det2
def impl_decimal.con (N : Nat) : Con := { modes := [.v], ptrs := [false], fn := fn1 (.int .i64) .imm (impl_decimal N) (fun r => [⟨.str, .imm, r⟩]) (fun r => []) }
def impl_decimal.cfg (N : Nat) : Cfg := { ty := tys, keep := [4], flt := [], elm := elm0, live := [], ord := [], con := [((44, [.one, .one]), strconv_FormatInt.con N)], loops := [], joins := [] }
theorem impl_decimal.cons (N : Nat) : ConsOk Tryd.prog (impl_decimal.cfg N).con := (consOk_cons (hb44) (strconv_FormatInt.ok N) (strconv_FormatInt.det N) consOk_nil)
theorem impl_decimal.ls (N : Nat) : LoopsOk Tryd.prog (impl_decimal.cfg N) (fnBody Tryd.f29) := loopsL (l := []) (by kernel_rfl) trivial
theorem impl_decimal.b (N : Nat) (x0 : den (.int .i64)) : body (impl_decimal.cfg N) N Tryd.f29 [.one] [.v] [(false, .imm)] [⟨(.int .i64), .imm, x0⟩] (fun r i => some (r, i)) = bindO (impl_decimal N x0) fun r => some ([⟨.str, .imm, r⟩], []) := by
  show _ = bindF _ _
  conv => rhs; simp only [impl_decimal, bindF_ifB, bindF_bindO, bindF_pure, bindF_none, bindF_onSum]
  kernel_rfl
theorem impl_decimal.ok (N : Nat) : ConOk Tryd.prog 29 [.one] (impl_decimal.con N) := ok1 (g := impl_decimal.cfg N) (N := N) (res := [(false, .imm)]) tys_ok (impl_decimal.cons N) mixed Tryd.func29 (impl_decimal.ls N) rfl (impl_decimal.b N)
theorem impl_decimal.det (N : Nat) : ConDet (impl_decimal.con N) := det1
def impl_goTo.con (N : Nat) : Con := { modes := [.v, .v], ptrs := [false], fn := fn2 (.int .i64) .imm (.int .i64) .imm (impl_goTo N) (fun r => [⟨.str, .imm, r⟩]) (fun r => []) }
def impl_goTo.cfg (N : Nat) : Cfg := { ty := tys, keep := [7, 12], flt := [], elm := elm0, live := [], ord := [], con := [((29, [.one]), impl_decimal.con N)], loops := [], joins := [] }
theorem impl_goTo.cons (N : Nat) : ConsOk Tryd.prog (impl_goTo.cfg N).con := (consOk_cons (hb29) (impl_decimal.ok N) (impl_decimal.det N) consOk_nil)
theorem impl_goTo.ls (N : Nat) : LoopsOk Tryd.prog (impl_goTo.cfg N) (fnBody Tryd.f28) := loopsL (l := []) (by kernel_rfl) trivial
theorem impl_goTo.b (N : Nat) (x0 : den (.int .i64)) (x1 : den (.int .i64)) : body (impl_goTo.cfg N) N Tryd.f28 [.one, .one] [.v, .v] [(false, .imm)] [⟨(.int .i64), .imm, x0⟩, ⟨(.int .i64), .imm, x1⟩] (fun r i => some (r, i)) = bindO (impl_goTo N x0 x1) fun r => some ([⟨.str, .imm, r⟩], []) := by
  show _ = bindF _ _
  conv => rhs; simp only [impl_goTo, bindF_ifB, bindF_bindO, bindF_pure, bindF_none, bindF_onSum]
  kernel_rfl
theorem impl_goTo.ok (N : Nat) : ConOk Tryd.prog 28 [.one, .one] (impl_goTo.con N) := ok2 (g := impl_goTo.cfg N) (N := N) (res := [(false, .imm)]) tys_ok (impl_goTo.cons N) mixed Tryd.func28 (impl_goTo.ls N) rfl (impl_goTo.b N)
theorem impl_goTo.det (N : Nat) : ConDet (impl_goTo.con N) := det2
set_option maxHeartbeats 1000000 in
set_option maxRecDepth 100000 in
theorem blt_cc_used (b : Nat) (w : World) (h0 : w.cell? ⟨b, 0, none⟩ = some (.pointer (some ⟨b, 0, none⟩))) :
    Calls Tryd.prog 43 #[.pointer (some ⟨b, 0, none⟩)] w fun e w' => e = .returned (.tuple #[]) ∧ w' = w := by
  have hj0 : (Tryd.prog.info? 56).map (·.size) = some 2 := by kernel_rfl
  obtain ⟨j, hj, _⟩ := Option.map_eq_some_iff.1 hj0
  have mixed := mixed
  go_enter Tryd.func43, Tryd.ntmps43
  go_wp2
  rw [Go.Lib.run_neq_ptr_same w _ Tryd.underlying54 hj]
  go_wp2
  go_end0
  exact ⟨rfl, rfl⟩
set_option maxHeartbeats 1000000 in
set_option maxRecDepth 100000 in
theorem blt_cc_fresh (b : Nat) (w : World) (h0 : w.cell? ⟨b, 0, none⟩ = some (.pointer none)) (hsh : w.shape? b = some (56, 2)) (hfz : w.frozen? ⟨b, 0, none⟩ = false) :
    Calls Tryd.prog 43 #[.pointer (some ⟨b, 0, none⟩)] w fun e w' => e = .returned (.tuple #[]) ∧ w' = w.setCell ⟨b, 0, none⟩ (.pointer (some ⟨b, 0, none⟩)) := by
  have hj0 : (Tryd.prog.info? 56).map (·.size) = some 2 := by kernel_rfl
  have hlies : liesAt Tryd.prog Tryd.prog.depth 56 (2 / Tryd.prog.cellsOf 56) 0 56 1 = true := by kernel_rfl
  obtain ⟨j, hj, hjs⟩ := Option.map_eq_some_iff.1 hj0
  have mixed := mixed
  go_enter Tryd.func43, Tryd.ntmps43
  go_wp2
  rw [Go.Lib.run_to_unsafe w ⟨b, 0, none⟩ Tryd.underlying54 Tryd.underlying74 hj (by rw [hjs]; decide) hsh (Nat.zero_lt_succ 1)]
  simp only [Result.andThen]
  rw [Oper.upon_value]
  go_wp2
  rw [run_callFunc_extern Tryd.func52 (by kernel_rfl) (by kernel_rfl) (by kernel_rfl) (e := Extern.AbiNoEscape.same) (by kernel_rfl)]
  rw [Go.Lib.run_noEscape]
  simp only [Result.andThen]
  rw [Oper.upon_value]
  go_wp2
  rw [Go.Lib.run_from_unsafe w ⟨b, 0, none⟩ Tryd.underlying74 Tryd.underlying54 hj hsh hlies]
  simp only [Result.andThen]
  rw [Oper.upon_value]
  go_wp2
  go_end0
  exact ⟨rfl, rfl⟩
theorem blt_cc (m : Hp) (w : World) (b : Nat) (p : Value) (ad : Option Addr) (cap : Nat) (xs : List Int) (hR : Hp) (I : BltIn m w 56 5 b p ad cap xs hR) :
    Calls Tryd.prog 43 #[self b] w fun e w' => e = .returned (.tuple #[]) ∧ BltIn m w' 56 5 b (self b) ad cap xs hR ∧ Mod (blk b 0 [undef, undef]) w w' := by
  rcases I.p with h | h
  · subst h
    refine (blt_cc_fresh b w I.c0 I.shp (I.nf.at I.c0)).mono ?_
    rintro e w' ⟨rfl, rfl⟩
    exact ⟨rfl, I.checked (.inr ⟨rfl, rfl⟩)⟩
  · subst h
    refine (blt_cc_used b w I.c0).mono ?_
    rintro e w' ⟨rfl, rfl⟩
    exact ⟨rfl, I.checked (.inl ⟨rfl, rfl⟩)⟩
set_option maxHeartbeats 2000000 in
set_option maxRecDepth 100000 in
theorem strings_Builder_WriteString.run : BltRun Tryd.prog 27 56 5 0 := by
  intro m w b p ad cap xs hR s I hfit
  have mixed := mixed
  have ht : typeOk Tryd.prog 35 s35 = true := by kernel_rfl
  unfold self
  go_enter Tryd.func27, Tryd.ntmps27
  go_wp2_with (go_at_call 43; refine (blt_cc m w b p ad cap xs hR I).mono ?_)
  rintro e w1 ⟨rfl, I1, M1⟩
  have c0 := I1.c0
  have c1 := I1.c1
  obtain ⟨ad', cap', w2, hR', hrun, k0, k1, kf, M2, I2, dom, wh⟩ := I1.append (P := Tryd.prog) (ty := 35) ht Tryd.underlying9 hfit
  simp only [List.length_append] at hrun M2 I2
  go_wp2_with (at_builtin; refine Go.Lib.wpList_append_run _ rfl _ _ 35 9 rfl _ _ rfl rfl _ _ hrun ?_)
  go_wp2
  go_ret2
  refine ⟨_, ad', cap', hR', rfl, ?_, I2, ?_, ?_⟩
  · exact M1.un.trans M2
  · intro k o h
    exact (dom k o h).imp id fun q => Nat.le_trans M1.size q
  · exact wh.imp id fun ⟨q1, g, q2, q3⟩ => ⟨q1, g, q2, Nat.le_trans M1.size q3⟩
def strings_Builder_WriteString.con (N : Nat) : Con := { modes := [], ptrs := [], bl := some (56, 5, 0), fn := fun _ _ => none }
theorem strings_Builder_WriteString.ok (N : Nat) : ConOk Tryd.prog 27 [.one, .one] (strings_Builder_WriteString.con N) := ⟨fun h => (by cases h), fun b h => (by injection h with h; subst h; exact ⟨Tryd.zeroValue56, strings_Builder_WriteString.run⟩)⟩
theorem strings_Builder_WriteString.det (N : Nat) : ConDet (strings_Builder_WriteString.con N) := fun ds R k y h => by cases h
def unicode_utf8_appendRuneNonASCII.con (N : Nat) : Con := { modes := [.tk, .v], ptrs := [false], fn := fn2 s35 (.own .imm) (.int .i32) .imm (unicode_utf8_appendRuneNonASCII N) (fun r => [⟨s35, (.own .imm), r⟩]) (fun r => []) }
def unicode_utf8_appendRuneNonASCII.cfg (N : Nat) : Cfg := { ty := tys, keep := [], flt := [], elm := elm0, live := [], ord := [], con := [], loops := [], joins := [] }
theorem unicode_utf8_appendRuneNonASCII.cons (N : Nat) : ConsOk Tryd.prog (unicode_utf8_appendRuneNonASCII.cfg N).con := consOk_nil
theorem unicode_utf8_appendRuneNonASCII.ls (N : Nat) : LoopsOk Tryd.prog (unicode_utf8_appendRuneNonASCII.cfg N) (fnBody Tryd.f54) := loopsL (l := []) (by kernel_rfl) trivial
theorem unicode_utf8_appendRuneNonASCII.b (N : Nat) (x0 : den s35) (x1 : den (.int .i32)) : body (unicode_utf8_appendRuneNonASCII.cfg N) N Tryd.f54 [.one, .one] [.tk, .v] [(false, (.own .imm))] [⟨s35, (.own .imm), x0⟩, ⟨(.int .i32), .imm, x1⟩] (fun r i => some (r, i)) = bindO (unicode_utf8_appendRuneNonASCII N x0 x1) fun r => some ([⟨s35, (.own .imm), r⟩], []) := by
  show _ = bindF _ _
  conv => rhs; simp only [unicode_utf8_appendRuneNonASCII, bindF_ifB, bindF_bindO, bindF_pure, bindF_none, bindF_onSum]
  kernel_rfl
theorem unicode_utf8_appendRuneNonASCII.ok (N : Nat) : ConOk Tryd.prog 54 [.one, .one] (unicode_utf8_appendRuneNonASCII.con N) := ok2 (g := unicode_utf8_appendRuneNonASCII.cfg N) (N := N) (res := [(false, (.own .imm))]) tys_ok (unicode_utf8_appendRuneNonASCII.cons N) mixed Tryd.func54 (unicode_utf8_appendRuneNonASCII.ls N) rfl (unicode_utf8_appendRuneNonASCII.b N)
theorem unicode_utf8_appendRuneNonASCII.det (N : Nat) : ConDet (unicode_utf8_appendRuneNonASCII.con N) := det2
def unicode_utf8_AppendRune.con (N : Nat) : Con := { modes := [.tk, .v], ptrs := [false], fn := fn2 s35 (.own .imm) (.int .i32) .imm (unicode_utf8_AppendRune N) (fun r => [⟨s35, (.own .imm), r⟩]) (fun r => []) }
def unicode_utf8_AppendRune.cfg (N : Nat) : Cfg := { ty := tys, keep := [15], flt := [], elm := elm0, live := [], ord := [], con := [((54, [.one, .one]), unicode_utf8_appendRuneNonASCII.con N)], loops := [], joins := [] }
theorem unicode_utf8_AppendRune.cons (N : Nat) : ConsOk Tryd.prog (unicode_utf8_AppendRune.cfg N).con := (consOk_cons (hb54) (unicode_utf8_appendRuneNonASCII.ok N) (unicode_utf8_appendRuneNonASCII.det N) consOk_nil)
theorem unicode_utf8_AppendRune.ls (N : Nat) : LoopsOk Tryd.prog (unicode_utf8_AppendRune.cfg N) (fnBody Tryd.f45) := loopsL (l := []) (by kernel_rfl) trivial
theorem unicode_utf8_AppendRune.b (N : Nat) (x0 : den s35) (x1 : den (.int .i32)) : body (unicode_utf8_AppendRune.cfg N) N Tryd.f45 [.one, .one] [.tk, .v] [(false, (.own .imm))] [⟨s35, (.own .imm), x0⟩, ⟨(.int .i32), .imm, x1⟩] (fun r i => some (r, i)) = bindO (unicode_utf8_AppendRune N x0 x1) fun r => some ([⟨s35, (.own .imm), r⟩], []) := by
  show _ = bindF _ _
  conv => rhs; simp only [unicode_utf8_AppendRune, bindF_ifB, bindF_bindO, bindF_pure, bindF_none, bindF_onSum]
  kernel_rfl
theorem unicode_utf8_AppendRune.ok (N : Nat) : ConOk Tryd.prog 45 [.one, .one] (unicode_utf8_AppendRune.con N) := ok2 (g := unicode_utf8_AppendRune.cfg N) (N := N) (res := [(false, (.own .imm))]) tys_ok (unicode_utf8_AppendRune.cons N) mixed Tryd.func45 (unicode_utf8_AppendRune.ls N) rfl (unicode_utf8_AppendRune.b N)
theorem unicode_utf8_AppendRune.det (N : Nat) : ConDet (unicode_utf8_AppendRune.con N) := det2
def impl_textOf.sk3 : Skel := ⟨dd 3 (.ov 50 [] :: (dd 3 (.pv s42 :: (.pv (.int .i64) :: (.pv (.int .i64) :: (dd 10 [])))))), [⟨50, s35, (.own .imm), false, false⟩]⟩
def impl_textOf.xs3 : List XS := [⟨.exit 0, [3], ⟨dd 3 (.ov 50 [] :: (dd 16 [])), [⟨50, s35, (.own .imm), false, false⟩]⟩⟩]
def impl_textOf.con (N : Nat) : Con := { modes := [.v], ptrs := [false], fn := fn1 s42 .imm (impl_textOf N) (fun r => [⟨.str, .imm, r⟩]) (fun r => []) }
def impl_textOf.cfg (N : Nat) : Cfg := { ty := tys, keep := [16], flt := [], elm := elm0, live := [(3, [3, 7, 8, 9])], ord := [], con := [((45, [.one, .one]), unicode_utf8_AppendRune.con N)], loops := [(3, loopCon N impl_textOf.sk3 impl_textOf.xs3 (fun {R} => impl_textOf.l3 (R := R) N))], joins := [] }
theorem impl_textOf.cons (N : Nat) : ConsOk Tryd.prog (impl_textOf.cfg N).con := (consOk_cons (hb45) (unicode_utf8_AppendRune.ok N) (unicode_utf8_AppendRune.det N) consOk_nil)
theorem impl_textOf.h3 {R : Type} (N : Nat) (d : impl_textOf.sk3.D) (kn : impl_textOf.sk3.D → Option R) (kx : XD impl_textOf.xs3 → Option R) : roundK (impl_textOf.cfg N) N (nthLoop (fnBody Tryd.f30) 0) impl_textOf.sk3 impl_textOf.xs3 d kn kx = impl_textOf.l3 N d kn kx := by kernel_rfl
theorem impl_textOf.i3 (N : Nat) : LoopsOk Tryd.prog (impl_textOf.cfg N) (nthLoop (fnBody Tryd.f30) 0) := loopsL (l := []) (by kernel_rfl) trivial
theorem impl_textOf.o3 (N : Nat) : LoopOk Tryd.prog (nthLoop (fnBody Tryd.f30) 0) (loopCon N impl_textOf.sk3 impl_textOf.xs3 (fun {R} => impl_textOf.l3 (R := R) N)) := loop_ok (g := impl_textOf.cfg N) tys_ok (impl_textOf.cons N) mixed (impl_textOf.i3 N) (fun d kn kx => impl_textOf.h3 N d kn kx)
theorem impl_textOf.ls (N : Nat) : LoopsOk Tryd.prog (impl_textOf.cfg N) (fnBody Tryd.f30) := loopsL (l := [nthLoop (fnBody Tryd.f30) 0]) (by kernel_rfl) ⟨loopOne (L0 := loopCon N impl_textOf.sk3 impl_textOf.xs3 (fun {R} => impl_textOf.l3 (R := R) N)) (id := 3) (by kernel_rfl) (by kernel_rfl) (impl_textOf.o3 N), trivial⟩
theorem impl_textOf.q3 {R R' : Type} {N n : Nat} {d} {k} {g : R → Option R'} : bindF (loopP (impl_textOf.l3 N) n d k) g = loopP (impl_textOf.l3 N) n d fun e => bindF (k e) g := bindF_loopP (fun d kn kx => by simp only [impl_textOf.l3, bindF_ifB, bindF_bindO, bindF_pure, bindF_none, bindF_onSum]) n d k
theorem impl_textOf.b (N : Nat) (x0 : den s42) : body (impl_textOf.cfg N) N Tryd.f30 [.one] [.v] [(false, .imm)] [⟨s42, .imm, x0⟩] (fun r i => some (r, i)) = bindO (impl_textOf N x0) fun r => some ([⟨.str, .imm, r⟩], []) := by
  show _ = bindF _ _
  conv => rhs; simp only [impl_textOf, bindF_ifB, bindF_bindO, bindF_pure, bindF_none, bindF_onSum, impl_textOf.q3]
  kernel_rfl
theorem impl_textOf.ok (N : Nat) : ConOk Tryd.prog 30 [.one] (impl_textOf.con N) := ok1 (g := impl_textOf.cfg N) (N := N) (res := [(false, .imm)]) tys_ok (impl_textOf.cons N) mixed Tryd.func30 (impl_textOf.ls N) rfl (impl_textOf.b N)
theorem impl_textOf.det (N : Nat) : ConDet (impl_textOf.con N) := det1
set_option maxHeartbeats 2000000 in
set_option maxRecDepth 100000 in
theorem strings_Builder_String.run : BltRun Tryd.prog 31 56 5 2 := by
  intro m w b p ad cap xs hR I
  have mixed := mixed
  have hcb : Tryd.prog.cellsOf 5 = 1 := by kernel_rfl
  have c1 : w.drew.cell? ⟨b, 1, none⟩ = some (.slice ad xs.length cap) := I.c1
  obtain ⟨q, w', hSD, hUS, S⟩ := I.string (P := Tryd.prog) (tS := 35) (pt := 71) (it := 3) (ty := 71) (ty2 := 9) Tryd.underlying71 hcb
  have hSD := hSD w.drew
  unfold self
  go_enter Tryd.func31, Tryd.ntmps31
  go_wp2
  go_region_o
  all_goals (go_wp2; go_ret; exact ⟨rfl, S⟩)
def strings_Builder_String.con (N : Nat) : Con := { modes := [], ptrs := [], bl := some (56, 5, 2), fn := fun _ _ => none }
theorem strings_Builder_String.ok (N : Nat) : ConOk Tryd.prog 31 [.one] (strings_Builder_String.con N) := ⟨fun h => (by cases h), fun b h => (by injection h with h; subst h; exact ⟨Tryd.zeroValue56, strings_Builder_String.run⟩)⟩
theorem strings_Builder_String.det (N : Nat) : ConDet (strings_Builder_String.con N) := fun ds R k y h => by cases h
def impl_Grid_sendRow.sk5 : Skel := ⟨dd 5 (.ptr 50 [] :: (.pv (.int .i64) :: (dd 23 (.pv s27 :: (.pv (.int .i64) :: (.pv (.int .i64) :: (dd 24 []))))))), [⟨50, (.pair (.sl 56 .unit) (.pair s35 .unit)), (.pr .imm (.pr (.own .imm) .imm)), true, false⟩]⟩
def impl_Grid_sendRow.xs5 : List XS := [⟨.exit 0, [5, 6], ⟨dd 5 (.ptr 50 [] :: (.pv (.int .i64) :: (dd 50 []))), [⟨50, (.pair (.sl 56 .unit) (.pair s35 .unit)), (.pr .imm (.pr (.own .imm) .imm)), true, false⟩]⟩⟩]
def impl_Grid_sendRow.con (N : Nat) : Con := { modes := [.rd, .v], ptrs := [false], fn := fn2 s28 .imm (.int .i64) .imm (impl_Grid_sendRow N) (fun r => [⟨.str, .imm, r⟩]) (fun r => []) }
def impl_Grid_sendRow.cfg (N : Nat) : Cfg := { ty := tys, keep := [10, 12, 36, 44, 47, 50, 51, 55, 56], flt := [], elm := elm0, live := [(5, [5, 6, 30, 31, 32])], ord := [(4, [0, 1, 2, 3, 4, 5, 6, 7, 8, 9, 10, 11, 12, 13, 14, 15, 16, 17, 19, 18])], con := [((28, [.one, .one]), impl_goTo.con N), ((27, [.one, .one]), strings_Builder_WriteString.con N), ((26, [.one]), impl_Cell_isEmpty.con N), ((29, [.one]), impl_decimal.con N), ((30, [.one]), impl_textOf.con N), ((31, [.one]), strings_Builder_String.con N)], loops := [(5, loopCon N impl_Grid_sendRow.sk5 impl_Grid_sendRow.xs5 (fun {R} => impl_Grid_sendRow.l5 (R := R) N))], joins := [(12, [⟨.normal, [5, 6, 30, 31, 32], ⟨dd 5 (.ptr 50 [] :: (.pv (.int .i64) :: (dd 23 (.pv s27 :: (.pv (.int .i64) :: (.pv (.int .i64) :: (dd 24 []))))))), [⟨50, (.pair (.sl 56 .unit) (.pair s35 .unit)), (.pr .imm (.pr (.own .imm) .imm)), true, false⟩]⟩⟩])] }
theorem impl_Grid_sendRow.cons (N : Nat) : ConsOk Tryd.prog (impl_Grid_sendRow.cfg N).con := (consOk_cons (hb28) (impl_goTo.ok N) (impl_goTo.det N) (consOk_cons (hb27) (strings_Builder_WriteString.ok N) (strings_Builder_WriteString.det N) (consOk_cons (hb26) (impl_Cell_isEmpty.ok N) (impl_Cell_isEmpty.det N) (consOk_cons (hb29) (impl_decimal.ok N) (impl_decimal.det N) (consOk_cons (hb30) (impl_textOf.ok N) (impl_textOf.det N) (consOk_cons (hb31) (strings_Builder_String.ok N) (strings_Builder_String.det N) consOk_nil))))))
theorem impl_Grid_sendRow.h5 {R : Type} (N : Nat) (d : impl_Grid_sendRow.sk5.D) (kn : impl_Grid_sendRow.sk5.D → Option R) (kx : XD impl_Grid_sendRow.xs5 → Option R) : roundK (impl_Grid_sendRow.cfg N) N (nthLoop (fnBody Tryd.f15) 0) impl_Grid_sendRow.sk5 impl_Grid_sendRow.xs5 d kn kx = impl_Grid_sendRow.l5 N d kn kx := by kernel_rfl
theorem impl_Grid_sendRow.i5 (N : Nat) : LoopsOk Tryd.prog (impl_Grid_sendRow.cfg N) (nthLoop (fnBody Tryd.f15) 0) := loopsL (l := []) (by kernel_rfl) trivial
theorem impl_Grid_sendRow.o5 (N : Nat) : LoopOk Tryd.prog (nthLoop (fnBody Tryd.f15) 0) (loopCon N impl_Grid_sendRow.sk5 impl_Grid_sendRow.xs5 (fun {R} => impl_Grid_sendRow.l5 (R := R) N)) := loop_ok (g := impl_Grid_sendRow.cfg N) tys_ok (impl_Grid_sendRow.cons N) mixed (impl_Grid_sendRow.i5 N) (fun d kn kx => impl_Grid_sendRow.h5 N d kn kx)
theorem impl_Grid_sendRow.ls (N : Nat) : LoopsOk Tryd.prog (impl_Grid_sendRow.cfg N) (fnBody Tryd.f15) := loopsL (l := [nthLoop (fnBody Tryd.f15) 0]) (by kernel_rfl) ⟨loopOne (L0 := loopCon N impl_Grid_sendRow.sk5 impl_Grid_sendRow.xs5 (fun {R} => impl_Grid_sendRow.l5 (R := R) N)) (id := 5) (by kernel_rfl) (by kernel_rfl) (impl_Grid_sendRow.o5 N), trivial⟩
theorem impl_Grid_sendRow.q5 {R R' : Type} {N n : Nat} {d} {k} {g : R → Option R'} : bindF (loopP (impl_Grid_sendRow.l5 N) n d k) g = loopP (impl_Grid_sendRow.l5 N) n d fun e => bindF (k e) g := bindF_loopP (fun d kn kx => by simp only [impl_Grid_sendRow.l5, bindF_ifB, bindF_bindO, bindF_pure, bindF_none, bindF_onSum]) n d k
theorem impl_Grid_sendRow.b (N : Nat) (x0 : den s28) (x1 : den (.int .i64)) : body (impl_Grid_sendRow.cfg N) N Tryd.f15 [.one, .one] [.rd, .v] [(false, .imm)] [⟨s28, .imm, x0⟩, ⟨(.int .i64), .imm, x1⟩] (fun r i => some (r, i)) = bindO (impl_Grid_sendRow N x0 x1) fun r => some ([⟨.str, .imm, r⟩], []) := by
  show _ = bindF _ _
  conv => rhs; simp only [impl_Grid_sendRow, bindF_ifB, bindF_bindO, bindF_pure, bindF_none, bindF_onSum, impl_Grid_sendRow.q5]
  kernel_rfl
theorem impl_Grid_sendRow.ok (N : Nat) : ConOk Tryd.prog 15 [.one, .one] (impl_Grid_sendRow.con N) := ok2 (g := impl_Grid_sendRow.cfg N) (N := N) (res := [(false, .imm)]) tys_ok (impl_Grid_sendRow.cons N) mixed Tryd.func15 (impl_Grid_sendRow.ls N) rfl (impl_Grid_sendRow.b N)
theorem impl_Grid_sendRow.det (N : Nat) : ConDet (impl_Grid_sendRow.con N) := det2
def impl_SendRow.con (N : Nat) : Con := { modes := [.v, .v], ptrs := [false], fn := fn2 s28 .imm (.int .i64) .imm (impl_SendRow N) (fun r => [⟨.str, .imm, r⟩]) (fun r => []) }
def impl_SendRow.cfg (N : Nat) : Cfg := { ty := tys, keep := [6, 13, 17], flt := [], elm := elm0, live := [], ord := [], con := [((13, [.one]), impl_FlatRight.con N), ((14, [.one, .one, .one]), impl_within.con N), ((15, [.one, .one]), impl_Grid_sendRow.con N)], loops := [], joins := [] }
theorem impl_SendRow.cons (N : Nat) : ConsOk Tryd.prog (impl_SendRow.cfg N).con := (consOk_cons (hb13) (impl_FlatRight.ok N) (impl_FlatRight.det N) (consOk_cons (hb14) (impl_within.ok N) (impl_within.det N) (consOk_cons (hb15) (impl_Grid_sendRow.ok N) (impl_Grid_sendRow.det N) consOk_nil)))
theorem impl_SendRow.ls (N : Nat) : LoopsOk Tryd.prog (impl_SendRow.cfg N) (fnBody Tryd.f7) := loopsL (l := []) (by kernel_rfl) trivial
theorem impl_SendRow.b (N : Nat) (x0 : den s28) (x1 : den (.int .i64)) : body (impl_SendRow.cfg N) N Tryd.f7 [.one, .one] [.v, .v] [(false, .imm)] [⟨s28, .imm, x0⟩, ⟨(.int .i64), .imm, x1⟩] (fun r i => some (r, i)) = bindO (impl_SendRow N x0 x1) fun r => some ([⟨.str, .imm, r⟩], []) := by
  show _ = bindF _ _
  conv => rhs; simp only [impl_SendRow, bindF_ifB, bindF_bindO, bindF_pure, bindF_none, bindF_onSum]
  kernel_rfl
theorem impl_SendRow.ok (N : Nat) : ConOk Tryd.prog 7 [.one, .one] (impl_SendRow.con N) := ok2 (g := impl_SendRow.cfg N) (N := N) (res := [(false, .imm)]) tys_ok (impl_SendRow.cons N) mixed Tryd.func7 (impl_SendRow.ls N) rfl (impl_SendRow.b N)
theorem impl_SendRow.det (N : Nat) : ConDet (impl_SendRow.con N) := det2
def laws_eqInt64S.sk4 : Skel := ⟨.pv s42 :: (.pv s42 :: (dd 3 (.pv (.int .i64) :: (dd 20 [])))), []⟩
def laws_eqInt64S.xs4 : List XS := [⟨.exit 0, [], ⟨dd 26 [], []⟩⟩, ⟨.ret, [4], ⟨dd 4 (.pv .bool :: (dd 21 [])), []⟩⟩]
def laws_eqInt64S.con (N : Nat) : Con := { modes := [.v, .v], ptrs := [false], fn := fn2 s42 .imm s42 .imm (laws_eqInt64S N) (fun r => [⟨.bool, .imm, r⟩]) (fun r => []) }
def laws_eqInt64S.cfg (N : Nat) : Cfg := { ty := tys, keep := [], flt := [], elm := elm0, live := [(4, [0, 1, 5])], ord := [(6, [0, 1, 2, 3, 4, 5, 6, 7, 8])], con := [], loops := [(4, loopCon N laws_eqInt64S.sk4 laws_eqInt64S.xs4 (fun {R} => laws_eqInt64S.l4 (R := R) N))], joins := [] }
theorem laws_eqInt64S.cons (N : Nat) : ConsOk Tryd.prog (laws_eqInt64S.cfg N).con := consOk_nil
theorem laws_eqInt64S.h4 {R : Type} (N : Nat) (d : laws_eqInt64S.sk4.D) (kn : laws_eqInt64S.sk4.D → Option R) (kx : XD laws_eqInt64S.xs4 → Option R) : roundK (laws_eqInt64S.cfg N) N (nthLoop (fnBody Tryd.f46) 0) laws_eqInt64S.sk4 laws_eqInt64S.xs4 d kn kx = laws_eqInt64S.l4 N d kn kx := by kernel_rfl
theorem laws_eqInt64S.i4 (N : Nat) : LoopsOk Tryd.prog (laws_eqInt64S.cfg N) (nthLoop (fnBody Tryd.f46) 0) := loopsL (l := []) (by kernel_rfl) trivial
theorem laws_eqInt64S.o4 (N : Nat) : LoopOk Tryd.prog (nthLoop (fnBody Tryd.f46) 0) (loopCon N laws_eqInt64S.sk4 laws_eqInt64S.xs4 (fun {R} => laws_eqInt64S.l4 (R := R) N)) := loop_ok (g := laws_eqInt64S.cfg N) tys_ok (laws_eqInt64S.cons N) mixed (laws_eqInt64S.i4 N) (fun d kn kx => laws_eqInt64S.h4 N d kn kx)
theorem laws_eqInt64S.ls (N : Nat) : LoopsOk Tryd.prog (laws_eqInt64S.cfg N) (fnBody Tryd.f46) := loopsL (l := [nthLoop (fnBody Tryd.f46) 0]) (by kernel_rfl) ⟨loopOne (L0 := loopCon N laws_eqInt64S.sk4 laws_eqInt64S.xs4 (fun {R} => laws_eqInt64S.l4 (R := R) N)) (id := 4) (by kernel_rfl) (by kernel_rfl) (laws_eqInt64S.o4 N), trivial⟩
theorem laws_eqInt64S.q4 {R R' : Type} {N n : Nat} {d} {k} {g : R → Option R'} : bindF (loopP (laws_eqInt64S.l4 N) n d k) g = loopP (laws_eqInt64S.l4 N) n d fun e => bindF (k e) g := bindF_loopP (fun d kn kx => by simp only [laws_eqInt64S.l4, bindF_ifB, bindF_bindO, bindF_pure, bindF_none, bindF_onSum]) n d k
theorem laws_eqInt64S.b (N : Nat) (x0 : den s42) (x1 : den s42) : body (laws_eqInt64S.cfg N) N Tryd.f46 [.one, .one] [.v, .v] [(false, .imm)] [⟨s42, .imm, x0⟩, ⟨s42, .imm, x1⟩] (fun r i => some (r, i)) = bindO (laws_eqInt64S N x0 x1) fun r => some ([⟨.bool, .imm, r⟩], []) := by
  show _ = bindF _ _
  conv => rhs; simp only [laws_eqInt64S, bindF_ifB, bindF_bindO, bindF_pure, bindF_none, bindF_onSum, laws_eqInt64S.q4]
  kernel_rfl
theorem laws_eqInt64S.ok (N : Nat) : ConOk Tryd.prog 46 [.one, .one] (laws_eqInt64S.con N) := ok2 (g := laws_eqInt64S.cfg N) (N := N) (res := [(false, .imm)]) tys_ok (laws_eqInt64S.cons N) mixed Tryd.func46 (laws_eqInt64S.ls N) rfl (laws_eqInt64S.b N)
theorem laws_eqInt64S.det (N : Nat) : ConDet (laws_eqInt64S.con N) := det2
def laws_eqCell.con (N : Nat) : Con := { modes := [.v, .v], ptrs := [false], fn := fn2 s43 .imm s43 .imm (laws_eqCell N) (fun r => [⟨.bool, .imm, r⟩]) (fun r => []) }
def laws_eqCell.cfg (N : Nat) : Cfg := { ty := tys, keep := [9], flt := [], elm := elm0, live := [], ord := [], con := [((46, [.one, .one]), laws_eqInt64S.con N)], loops := [], joins := [] }
theorem laws_eqCell.cons (N : Nat) : ConsOk Tryd.prog (laws_eqCell.cfg N).con := (consOk_cons (hb46) (laws_eqInt64S.ok N) (laws_eqInt64S.det N) consOk_nil)
theorem laws_eqCell.ls (N : Nat) : LoopsOk Tryd.prog (laws_eqCell.cfg N) (fnBody Tryd.f32) := loopsL (l := []) (by kernel_rfl) trivial
theorem laws_eqCell.b (N : Nat) (x0 : den s43) (x1 : den s43) : body (laws_eqCell.cfg N) N Tryd.f32 [.one, .one] [.v, .v] [(false, .imm)] [⟨s43, .imm, x0⟩, ⟨s43, .imm, x1⟩] (fun r i => some (r, i)) = bindO (laws_eqCell N x0 x1) fun r => some ([⟨.bool, .imm, r⟩], []) := by
  show _ = bindF _ _
  conv => rhs; simp only [laws_eqCell, bindF_ifB, bindF_bindO, bindF_pure, bindF_none, bindF_onSum]
  kernel_rfl
theorem laws_eqCell.ok (N : Nat) : ConOk Tryd.prog 32 [.one, .one] (laws_eqCell.con N) := ok2 (g := laws_eqCell.cfg N) (N := N) (res := [(false, .imm)]) tys_ok (laws_eqCell.cons N) mixed Tryd.func32 (laws_eqCell.ls N) rfl (laws_eqCell.b N)
theorem laws_eqCell.det (N : Nat) : ConDet (laws_eqCell.con N) := det2
end Go.AE.F
end
