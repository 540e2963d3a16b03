/- The printed functions are what the program comes to: contracts. -/
import Derived.Test.YtdjhkphgnhbnjaaXHexF
import Derived.Test.YtdjhkphgnhbnjaaXHexT
namespace Go.AE.F
open Go.AE Go.Proofs
set_option maxRecDepth 100000
def spec_l18Hex.sk3 : Skel := ⟨[.pv .str, .dead, .dead, .ov 50 [], .pv (.int .i64), .dead, .dead, .dead, .dead, .dead, .dead, .dead, .dead, .dead, .dead, .dead, .dead, .dead, .dead, .dead, .dead, .dead, .dead, .dead, .dead, .dead, .dead], [⟨50, (.sl 5 (.int .u8)), (.own .imm), false, false⟩]⟩
def spec_l18Hex.xs3 : List XS := [⟨.exit 0, [3], ⟨[.dead, .dead, .dead, .ov 50 [], .dead, .dead, .dead, .dead, .dead, .dead, .dead, .dead, .dead, .dead, .dead, .dead, .dead, .dead, .dead, .dead, .dead, .dead, .dead, .dead, .dead, .dead, .dead], [⟨50, (.sl 5 (.int .u8)), (.own .imm), false, false⟩]⟩⟩]
def spec_l18Hex.con (N : Nat) : Con := { modes := [.v], ptrs := [false], fn := fun ds k => match ds with | [d0] => castDm .str .imm d0 fun x0 => bindO (spec_l18Hex N x0) fun r => k [⟨.str, .imm, r⟩] [] | _ => none }
def spec_l18Hex.cfg (N : Nat) : Cfg := { ty := tys, keep := [], flt := [], elm := [], live := [(3, [0, 3, 4])], ord := [(5, [0, 1, 2, 3, 4, 5, 6, 7, 8, 9, 10, 11, 12, 13])], con := [], loops := [(3, loopCon N spec_l18Hex.sk3 spec_l18Hex.xs3 (fun {R} => spec_l18Hex.l3 (R := R) N))], joins := [] }
theorem spec_l18Hex.cons (N : Nat) : ConsOk Try.prog (spec_l18Hex.cfg N).con := consOk_nil
theorem spec_l18Hex.h3 {R : Type} (N : Nat) (d : spec_l18Hex.sk3.D) (kn : spec_l18Hex.sk3.D → Option R) (kx : XD spec_l18Hex.xs3 → Option R) : roundK (spec_l18Hex.cfg N) N (nthLoop (fnBody Try.f27) 0) spec_l18Hex.sk3 spec_l18Hex.xs3 d kn kx = spec_l18Hex.l3 N d kn kx := by kernel_rfl
theorem spec_l18Hex.i3 (N : Nat) : LoopsOk Try.prog (spec_l18Hex.cfg N) (nthLoop (fnBody Try.f27) 0) := loopsL (l := []) (by kernel_rfl) trivial
theorem spec_l18Hex.o3 (N : Nat) : LoopOk Try.prog (nthLoop (fnBody Try.f27) 0) (loopCon N spec_l18Hex.sk3 spec_l18Hex.xs3 (fun {R} => spec_l18Hex.l3 (R := R) N)) := loop_ok (g := spec_l18Hex.cfg N) tys_ok (spec_l18Hex.cons N) mixed (spec_l18Hex.i3 N) (fun d kn kx => spec_l18Hex.h3 N d kn kx)
theorem spec_l18Hex.ls (N : Nat) : LoopsOk Try.prog (spec_l18Hex.cfg N) (fnBody Try.f27) := loopsL (l := [nthLoop (fnBody Try.f27) 0]) (by kernel_rfl) ⟨loopOne (L0 := loopCon N spec_l18Hex.sk3 spec_l18Hex.xs3 (fun {R} => spec_l18Hex.l3 (R := R) N)) (id := 3) (by kernel_rfl) (by kernel_rfl) (spec_l18Hex.o3 N), trivial⟩
theorem spec_l18Hex.q3 {R R' : Type} {N n : Nat} {d} {k} {g : R → Option R'} : bindF (loopP (spec_l18Hex.l3 N) n d k) g = loopP (spec_l18Hex.l3 N) n d fun e => bindF (k e) g := bindF_loopP (fun d kn kx => by simp only [spec_l18Hex.l3, bindF_ifB, bindF_bindO, bindF_pure, bindF_none, bindF_onSum]) n d k
theorem spec_l18Hex.b (N : Nat) (x0 : den .str) : body (spec_l18Hex.cfg N) N Try.f27 [.one] [.v] [(false, .imm)] [⟨.str, .imm, x0⟩] (fun r i => some (r, i)) = bindO (spec_l18Hex N x0) fun r => some ([⟨.str, .imm, r⟩], []) := by
  show _ = bindF _ _
  conv => rhs; simp only [spec_l18Hex, bindF_ifB, bindF_bindO, bindF_pure, bindF_none, bindF_onSum, spec_l18Hex.q3]
  kernel_rfl
theorem spec_l18Hex.ok (N : Nat) : ConOk Try.prog 27 [.one] (spec_l18Hex.con N) := by
  refine conOk_mk (g := spec_l18Hex.cfg N) (N := N) (res := [(false, .imm)]) tys_ok (spec_l18Hex.cons N) mixed Try.func27 (spec_l18Hex.ls N) rfl rfl ?_
  intro ds R k y h
  cases ds with
  | nil => exact none_some h
  | cons d0 ds =>
  cases ds with
  | cons _ _ => exact none_some h
  | nil =>
  have h0 : (castDm .str .imm d0 fun x0 => bindO (spec_l18Hex N x0) fun r => k [⟨.str, .imm, r⟩] []) = some y := h
  clear h
  obtain ⟨x0, rfl, h1⟩ := castDm_eq h0
  exact con_fin (spec_l18Hex.b N x0) h1
def spec_Hex.con (N : Nat) : Con := { modes := [.v], ptrs := [false], fn := fun ds k => match ds with | [d0] => castDm .str .imm d0 fun x0 => bindO (spec_Hex N x0) fun r => k [⟨.str, .imm, r⟩] [] | _ => none }
def spec_Hex.cfg (N : Nat) : Cfg := { ty := tys, keep := [7], flt := [], elm := [], live := [], ord := [], con := [((27, [.one]), spec_l18Hex.con N)], loops := [], joins := [] }
theorem spec_Hex.cons (N : Nat) : ConsOk Try.prog (spec_Hex.cfg N).con := (consOk_cons (hb27) (spec_l18Hex.ok N) consOk_nil)
theorem spec_Hex.ls (N : Nat) : LoopsOk Try.prog (spec_Hex.cfg N) (fnBody Try.f7) := loopsL (l := []) (by kernel_rfl) trivial
theorem spec_Hex.b (N : Nat) (x0 : den .str) : body (spec_Hex.cfg N) N Try.f7 [.one] [.v] [(false, .imm)] [⟨.str, .imm, x0⟩] (fun r i => some (r, i)) = bindO (spec_Hex N x0) fun r => some ([⟨.str, .imm, r⟩], []) := by
  show _ = bindF _ _
  conv => rhs; simp only [spec_Hex, bindF_ifB, bindF_bindO, bindF_pure, bindF_none, bindF_onSum]
  kernel_rfl
theorem spec_Hex.ok (N : Nat) : ConOk Try.prog 7 [.one] (spec_Hex.con N) := by
  refine conOk_mk (g := spec_Hex.cfg N) (N := N) (res := [(false, .imm)]) tys_ok (spec_Hex.cons N) mixed Try.func7 (spec_Hex.ls N) rfl rfl ?_
  intro ds R k y h
  cases ds with
  | nil => exact none_some h
  | cons d0 ds =>
  cases ds with
  | cons _ _ => exact none_some h
  | nil =>
  have h0 : (castDm .str .imm d0 fun x0 => bindO (spec_Hex N x0) fun r => k [⟨.str, .imm, r⟩] []) = some y := h
  clear h
  obtain ⟨x0, rfl, h1⟩ := castDm_eq h0
  exact con_fin (spec_Hex.b N x0) h1
def impl_isLong_c1.con (N : Nat) : Con := { modes := [.v], ptrs := [false], fn := fun ds k => match ds with | [d0] => castDm .str .imm d0 fun x0 => bindO (impl_isLong_c1 N x0) fun r => k [⟨.bool, .imm, r⟩] [] | _ => none }
def impl_isLong_c1.cfg (N : Nat) : Cfg := { ty := tys, keep := [], flt := [], elm := [], live := [], ord := [], con := [], loops := [], joins := [] }
theorem impl_isLong_c1.cons (N : Nat) : ConsOk Try.prog (impl_isLong_c1.cfg N).con := consOk_nil
theorem impl_isLong_c1.ls (N : Nat) : LoopsOk Try.prog (impl_isLong_c1.cfg N) (fnBody Try.f49) := loopsL (l := []) (by kernel_rfl) trivial
theorem impl_isLong_c1.b (N : Nat) (x0 : den .str) : body (impl_isLong_c1.cfg N) N Try.f49 [.one] [.v] [(false, .imm)] [⟨.str, .imm, x0⟩] (fun r i => some (r, i)) = bindO (impl_isLong_c1 N x0) fun r => some ([⟨.bool, .imm, r⟩], []) := by
  show _ = bindF _ _
  conv => rhs; simp only [impl_isLong_c1, bindF_ifB, bindF_bindO, bindF_pure, bindF_none, bindF_onSum]
  kernel_rfl
theorem impl_isLong_c1.ok (N : Nat) : ConOk Try.prog 49 [.one] (impl_isLong_c1.con N) := by
  refine conOk_mk (g := impl_isLong_c1.cfg N) (N := N) (res := [(false, .imm)]) tys_ok (impl_isLong_c1.cons N) mixed Try.func49 (impl_isLong_c1.ls N) rfl rfl ?_
  intro ds R k y h
  cases ds with
  | nil => exact none_some h
  | cons d0 ds =>
  cases ds with
  | cons _ _ => exact none_some h
  | nil =>
  have h0 : (castDm .str .imm d0 fun x0 => bindO (impl_isLong_c1 N x0) fun r => k [⟨.bool, .imm, r⟩] []) = some y := h
  clear h
  obtain ⟨x0, rfl, h1⟩ := castDm_eq h0
  exact con_fin (impl_isLong_c1.b N x0) h1
def slices_IndexFunc_Sstring_string__impl_isLong_c1.sk2 : Skel := ⟨[.pv (.sl 9 .str), .fn 49 [], .dead, .dead, .dead, .dead, .dead, .pv (.int .i64), .pv (.int .i64), .dead, .dead, .dead, .dead, .dead, .dead, .dead, .dead, .dead, .dead], []⟩
def slices_IndexFunc_Sstring_string__impl_isLong_c1.xs2 : List XS := [⟨.exit 0, [], ⟨[.dead, .dead, .dead, .dead, .dead, .dead, .dead, .dead, .dead, .dead, .dead, .dead, .dead, .dead, .dead, .dead, .dead, .dead, .dead], []⟩⟩, ⟨.ret, [4], ⟨[.dead, .dead, .dead, .dead, .pv (.int .i64), .dead, .dead, .dead, .dead, .dead, .dead, .dead, .dead, .dead, .dead, .dead, .dead, .dead, .dead], []⟩⟩]
def slices_IndexFunc_Sstring_string__impl_isLong_c1.con (N : Nat) : Con := { modes := [.v], ptrs := [false], fn := fun ds k => match ds with | [d0] => castDm (.sl 9 .str) .imm d0 fun x0 => bindO (slices_IndexFunc_Sstring_string__impl_isLong_c1 N x0) fun r => k [⟨(.int .i64), .imm, r⟩] [] | _ => none }
def slices_IndexFunc_Sstring_string__impl_isLong_c1.cfg (N : Nat) : Cfg := { ty := tys, keep := [16], flt := [], elm := [], live := [(2, [0, 1, 7, 8])], ord := [], con := [((49, [.one]), impl_isLong_c1.con N)], loops := [(2, loopCon N slices_IndexFunc_Sstring_string__impl_isLong_c1.sk2 slices_IndexFunc_Sstring_string__impl_isLong_c1.xs2 (fun {R} => slices_IndexFunc_Sstring_string__impl_isLong_c1.l2 (R := R) N))], joins := [] }
theorem slices_IndexFunc_Sstring_string__impl_isLong_c1.cons (N : Nat) : ConsOk Try.prog (slices_IndexFunc_Sstring_string__impl_isLong_c1.cfg N).con := (consOk_cons (hb49) (impl_isLong_c1.ok N) consOk_nil)
theorem slices_IndexFunc_Sstring_string__impl_isLong_c1.h2 {R : Type} (N : Nat) (d : slices_IndexFunc_Sstring_string__impl_isLong_c1.sk2.D) (kn : slices_IndexFunc_Sstring_string__impl_isLong_c1.sk2.D → Option R) (kx : XD slices_IndexFunc_Sstring_string__impl_isLong_c1.xs2 → Option R) : roundK (slices_IndexFunc_Sstring_string__impl_isLong_c1.cfg N) N (nthLoop (fnBody Try.f60) 0) slices_IndexFunc_Sstring_string__impl_isLong_c1.sk2 slices_IndexFunc_Sstring_string__impl_isLong_c1.xs2 d kn kx = slices_IndexFunc_Sstring_string__impl_isLong_c1.l2 N d kn kx := by kernel_rfl
theorem slices_IndexFunc_Sstring_string__impl_isLong_c1.i2 (N : Nat) : LoopsOk Try.prog (slices_IndexFunc_Sstring_string__impl_isLong_c1.cfg N) (nthLoop (fnBody Try.f60) 0) := loopsL (l := []) (by kernel_rfl) trivial
theorem slices_IndexFunc_Sstring_string__impl_isLong_c1.o2 (N : Nat) : LoopOk Try.prog (nthLoop (fnBody Try.f60) 0) (loopCon N slices_IndexFunc_Sstring_string__impl_isLong_c1.sk2 slices_IndexFunc_Sstring_string__impl_isLong_c1.xs2 (fun {R} => slices_IndexFunc_Sstring_string__impl_isLong_c1.l2 (R := R) N)) := loop_ok (g := slices_IndexFunc_Sstring_string__impl_isLong_c1.cfg N) tys_ok (slices_IndexFunc_Sstring_string__impl_isLong_c1.cons N) mixed (slices_IndexFunc_Sstring_string__impl_isLong_c1.i2 N) (fun d kn kx => slices_IndexFunc_Sstring_string__impl_isLong_c1.h2 N d kn kx)
theorem slices_IndexFunc_Sstring_string__impl_isLong_c1.ls (N : Nat) : LoopsOk Try.prog (slices_IndexFunc_Sstring_string__impl_isLong_c1.cfg N) (fnBody Try.f60) := loopsL (l := [nthLoop (fnBody Try.f60) 0]) (by kernel_rfl) ⟨loopOne (L0 := loopCon N slices_IndexFunc_Sstring_string__impl_isLong_c1.sk2 slices_IndexFunc_Sstring_string__impl_isLong_c1.xs2 (fun {R} => slices_IndexFunc_Sstring_string__impl_isLong_c1.l2 (R := R) N)) (id := 2) (by kernel_rfl) (by kernel_rfl) (slices_IndexFunc_Sstring_string__impl_isLong_c1.o2 N), trivial⟩
theorem slices_IndexFunc_Sstring_string__impl_isLong_c1.q2 {R R' : Type} {N n : Nat} {d} {k} {g : R → Option R'} : bindF (loopP (slices_IndexFunc_Sstring_string__impl_isLong_c1.l2 N) n d k) g = loopP (slices_IndexFunc_Sstring_string__impl_isLong_c1.l2 N) n d fun e => bindF (k e) g := bindF_loopP (fun d kn kx => by simp only [slices_IndexFunc_Sstring_string__impl_isLong_c1.l2, bindF_ifB, bindF_bindO, bindF_pure, bindF_none, bindF_onSum]) n d k
theorem slices_IndexFunc_Sstring_string__impl_isLong_c1.b (N : Nat) (x0 : den (.sl 9 .str)) : body (slices_IndexFunc_Sstring_string__impl_isLong_c1.cfg N) N Try.f60 [.one, .fn 49 0] [.v] [(false, .imm)] [⟨(.sl 9 .str), .imm, x0⟩] (fun r i => some (r, i)) = bindO (slices_IndexFunc_Sstring_string__impl_isLong_c1 N x0) fun r => some ([⟨(.int .i64), .imm, r⟩], []) := by
  show _ = bindF _ _
  conv => rhs; simp only [slices_IndexFunc_Sstring_string__impl_isLong_c1, bindF_ifB, bindF_bindO, bindF_pure, bindF_none, bindF_onSum, slices_IndexFunc_Sstring_string__impl_isLong_c1.q2]
  kernel_rfl
theorem slices_IndexFunc_Sstring_string__impl_isLong_c1.ok (N : Nat) : ConOk Try.prog 60 [.one, .fn 49 0] (slices_IndexFunc_Sstring_string__impl_isLong_c1.con N) := by
  refine conOk_mk (g := slices_IndexFunc_Sstring_string__impl_isLong_c1.cfg N) (N := N) (res := [(false, .imm)]) tys_ok (slices_IndexFunc_Sstring_string__impl_isLong_c1.cons N) mixed Try.func60 (slices_IndexFunc_Sstring_string__impl_isLong_c1.ls N) rfl rfl ?_
  intro ds R k y h
  cases ds with
  | nil => exact none_some h
  | cons d0 ds =>
  cases ds with
  | cons _ _ => exact none_some h
  | nil =>
  have h0 : (castDm (.sl 9 .str) .imm d0 fun x0 => bindO (slices_IndexFunc_Sstring_string__impl_isLong_c1 N x0) fun r => k [⟨(.int .i64), .imm, r⟩] []) = some y := h
  clear h
  obtain ⟨x0, rfl, h1⟩ := castDm_eq h0
  exact con_fin (slices_IndexFunc_Sstring_string__impl_isLong_c1.b N x0) h1
def slices_ContainsFunc_Sstring_string__impl_isLong_c1.con (N : Nat) : Con := { modes := [.v], ptrs := [false], fn := fun ds k => match ds with | [d0] => castDm (.sl 9 .str) .imm d0 fun x0 => bindO (slices_ContainsFunc_Sstring_string__impl_isLong_c1 N x0) fun r => k [⟨.bool, .imm, r⟩] [] | _ => none }
def slices_ContainsFunc_Sstring_string__impl_isLong_c1.cfg (N : Nat) : Cfg := { ty := tys, keep := [7], flt := [], elm := [], live := [], ord := [], con := [((60, [.one, .fn 49 0]), slices_IndexFunc_Sstring_string__impl_isLong_c1.con N)], loops := [], joins := [] }
theorem slices_ContainsFunc_Sstring_string__impl_isLong_c1.cons (N : Nat) : ConsOk Try.prog (slices_ContainsFunc_Sstring_string__impl_isLong_c1.cfg N).con := (consOk_cons (hb60) (slices_IndexFunc_Sstring_string__impl_isLong_c1.ok N) consOk_nil)
theorem slices_ContainsFunc_Sstring_string__impl_isLong_c1.ls (N : Nat) : LoopsOk Try.prog (slices_ContainsFunc_Sstring_string__impl_isLong_c1.cfg N) (fnBody Try.f48) := loopsL (l := []) (by kernel_rfl) trivial
theorem slices_ContainsFunc_Sstring_string__impl_isLong_c1.b (N : Nat) (x0 : den (.sl 9 .str)) : body (slices_ContainsFunc_Sstring_string__impl_isLong_c1.cfg N) N Try.f48 [.one, .fn 49 0] [.v] [(false, .imm)] [⟨(.sl 9 .str), .imm, x0⟩] (fun r i => some (r, i)) = bindO (slices_ContainsFunc_Sstring_string__impl_isLong_c1 N x0) fun r => some ([⟨.bool, .imm, r⟩], []) := by
  show _ = bindF _ _
  conv => rhs; simp only [slices_ContainsFunc_Sstring_string__impl_isLong_c1, bindF_ifB, bindF_bindO, bindF_pure, bindF_none, bindF_onSum]
  kernel_rfl
theorem slices_ContainsFunc_Sstring_string__impl_isLong_c1.ok (N : Nat) : ConOk Try.prog 48 [.one, .fn 49 0] (slices_ContainsFunc_Sstring_string__impl_isLong_c1.con N) := by
  refine conOk_mk (g := slices_ContainsFunc_Sstring_string__impl_isLong_c1.cfg N) (N := N) (res := [(false, .imm)]) tys_ok (slices_ContainsFunc_Sstring_string__impl_isLong_c1.cons N) mixed Try.func48 (slices_ContainsFunc_Sstring_string__impl_isLong_c1.ls N) rfl rfl ?_
  intro ds R k y h
  cases ds with
  | nil => exact none_some h
  | cons d0 ds =>
  cases ds with
  | cons _ _ => exact none_some h
  | nil =>
  have h0 : (castDm (.sl 9 .str) .imm d0 fun x0 => bindO (slices_ContainsFunc_Sstring_string__impl_isLong_c1 N x0) fun r => k [⟨.bool, .imm, r⟩] []) = some y := h
  clear h
  obtain ⟨x0, rfl, h1⟩ := castDm_eq h0
  exact con_fin (slices_ContainsFunc_Sstring_string__impl_isLong_c1.b N x0) h1
def impl_isLong.con (N : Nat) : Con := { modes := [.v], ptrs := [false], fn := fun ds k => match ds with | [d0] => castDm (.sl 9 .str) .imm d0 fun x0 => bindO (impl_isLong N x0) fun r => k [⟨.bool, .imm, r⟩] [] | _ => none }
def impl_isLong.cfg (N : Nat) : Cfg := { ty := tys, keep := [4], flt := [], elm := [], live := [], ord := [], con := [((48, [.one, .fn 49 0]), slices_ContainsFunc_Sstring_string__impl_isLong_c1.con N)], loops := [], joins := [] }
theorem impl_isLong.cons (N : Nat) : ConsOk Try.prog (impl_isLong.cfg N).con := (consOk_cons (hb48) (slices_ContainsFunc_Sstring_string__impl_isLong_c1.ok N) consOk_nil)
theorem impl_isLong.ls (N : Nat) : LoopsOk Try.prog (impl_isLong.cfg N) (fnBody Try.f28) := loopsL (l := []) (by kernel_rfl) trivial
theorem impl_isLong.b (N : Nat) (x0 : den (.sl 9 .str)) : body (impl_isLong.cfg N) N Try.f28 [.one] [.v] [(false, .imm)] [⟨(.sl 9 .str), .imm, x0⟩] (fun r i => some (r, i)) = bindO (impl_isLong N x0) fun r => some ([⟨.bool, .imm, r⟩], []) := by
  show _ = bindF _ _
  conv => rhs; simp only [impl_isLong, bindF_ifB, bindF_bindO, bindF_pure, bindF_none, bindF_onSum]
  kernel_rfl
theorem impl_isLong.ok (N : Nat) : ConOk Try.prog 28 [.one] (impl_isLong.con N) := by
  refine conOk_mk (g := impl_isLong.cfg N) (N := N) (res := [(false, .imm)]) tys_ok (impl_isLong.cons N) mixed Try.func28 (impl_isLong.ls N) rfl rfl ?_
  intro ds R k y h
  cases ds with
  | nil => exact none_some h
  | cons d0 ds =>
  cases ds with
  | cons _ _ => exact none_some h
  | nil =>
  have h0 : (castDm (.sl 9 .str) .imm d0 fun x0 => bindO (impl_isLong N x0) fun r => k [⟨.bool, .imm, r⟩] []) = some y := h
  clear h
  obtain ⟨x0, rfl, h1⟩ := castDm_eq h0
  exact con_fin (impl_isLong.b N x0) h1
def impl_Hex.sk5 : Skel := ⟨[.pv .str, .dead, .dead, .ov 50 [], .dead, .dead, .dead, .dead, .dead, .dead, .pv (.int .i64), .pv (.int .i64), .dead, .dead, .dead, .dead, .dead, .dead, .dead, .dead, .dead, .dead, .dead, .dead, .dead, .dead, .dead, .dead, .dead, .dead], [⟨50, (.sl 5 (.int .u8)), (.own .imm), false, false⟩]⟩
def impl_Hex.xs5 : List XS := [⟨.exit 0, [3], ⟨[.dead, .dead, .dead, .ov 50 [], .dead, .dead, .dead, .dead, .dead, .dead, .dead, .dead, .dead, .dead, .dead, .dead, .dead, .dead, .dead, .dead, .dead, .dead, .dead, .dead, .dead, .dead, .dead, .dead, .dead, .dead], [⟨50, (.sl 5 (.int .u8)), (.own .imm), false, false⟩]⟩⟩]
def impl_Hex.con (N : Nat) : Con := { modes := [.v], ptrs := [false], fn := fun ds k => match ds with | [d0] => castDm .str .imm d0 fun x0 => bindO (impl_Hex N x0) fun r => k [⟨.str, .imm, r⟩] [] | _ => none }
def impl_Hex.cfg (N : Nat) : Cfg := { ty := tys, keep := [7], flt := [], elm := [], live := [(5, [0, 3, 10, 11])], ord := [(7, [0, 1, 2, 3, 4, 5, 6, 7, 8, 9, 10, 11, 12, 13])], con := [((28, [.one]), impl_isLong.con N)], loops := [(5, loopCon N impl_Hex.sk5 impl_Hex.xs5 (fun {R} => impl_Hex.l5 (R := R) N))], joins := [] }
theorem impl_Hex.cons (N : Nat) : ConsOk Try.prog (impl_Hex.cfg N).con := (consOk_cons (hb28) (impl_isLong.ok N) consOk_nil)
theorem impl_Hex.h5 {R : Type} (N : Nat) (d : impl_Hex.sk5.D) (kn : impl_Hex.sk5.D → Option R) (kx : XD impl_Hex.xs5 → Option R) : roundK (impl_Hex.cfg N) N (nthLoop (fnBody Try.f8) 0) impl_Hex.sk5 impl_Hex.xs5 d kn kx = impl_Hex.l5 N d kn kx := by kernel_rfl
theorem impl_Hex.i5 (N : Nat) : LoopsOk Try.prog (impl_Hex.cfg N) (nthLoop (fnBody Try.f8) 0) := loopsL (l := []) (by kernel_rfl) trivial
theorem impl_Hex.o5 (N : Nat) : LoopOk Try.prog (nthLoop (fnBody Try.f8) 0) (loopCon N impl_Hex.sk5 impl_Hex.xs5 (fun {R} => impl_Hex.l5 (R := R) N)) := loop_ok (g := impl_Hex.cfg N) tys_ok (impl_Hex.cons N) mixed (impl_Hex.i5 N) (fun d kn kx => impl_Hex.h5 N d kn kx)
theorem impl_Hex.ls (N : Nat) : LoopsOk Try.prog (impl_Hex.cfg N) (fnBody Try.f8) := loopsL (l := [nthLoop (fnBody Try.f8) 0]) (by kernel_rfl) ⟨loopOne (L0 := loopCon N impl_Hex.sk5 impl_Hex.xs5 (fun {R} => impl_Hex.l5 (R := R) N)) (id := 5) (by kernel_rfl) (by kernel_rfl) (impl_Hex.o5 N), trivial⟩
theorem impl_Hex.q5 {R R' : Type} {N n : Nat} {d} {k} {g : R → Option R'} : bindF (loopP (impl_Hex.l5 N) n d k) g = loopP (impl_Hex.l5 N) n d fun e => bindF (k e) g := bindF_loopP (fun d kn kx => by simp only [impl_Hex.l5, bindF_ifB, bindF_bindO, bindF_pure, bindF_none, bindF_onSum]) n d k
theorem impl_Hex.b (N : Nat) (x0 : den .str) : body (impl_Hex.cfg N) N Try.f8 [.one] [.v] [(false, .imm)] [⟨.str, .imm, x0⟩] (fun r i => some (r, i)) = bindO (impl_Hex N x0) fun r => some ([⟨.str, .imm, r⟩], []) := by
  show _ = bindF _ _
  conv => rhs; simp only [impl_Hex, bindF_ifB, bindF_bindO, bindF_pure, bindF_none, bindF_onSum, impl_Hex.q5]
  kernel_rfl
theorem impl_Hex.ok (N : Nat) : ConOk Try.prog 8 [.one] (impl_Hex.con N) := by
  refine conOk_mk (g := impl_Hex.cfg N) (N := N) (res := [(false, .imm)]) tys_ok (impl_Hex.cons N) mixed Try.func8 (impl_Hex.ls N) rfl rfl ?_
  intro ds R k y h
  cases ds with
  | nil => exact none_some h
  | cons d0 ds =>
  cases ds with
  | cons _ _ => exact none_some h
  | nil =>
  have h0 : (castDm .str .imm d0 fun x0 => bindO (impl_Hex N x0) fun r => k [⟨.str, .imm, r⟩] []) = some y := h
  clear h
  obtain ⟨x0, rfl, h1⟩ := castDm_eq h0
  exact con_fin (impl_Hex.b N x0) h1
def laws_FnExactHex.con (N : Nat) : Con := { modes := [.v], ptrs := [false], fn := fun ds k => match ds with | [d0] => castDm .str .imm d0 fun x0 => bindO (laws_FnExactHex N x0) fun r => k [⟨.bool, .imm, r⟩] [] | _ => none }
def laws_FnExactHex.cfg (N : Nat) : Cfg := { ty := tys, keep := [9, 11], flt := [], elm := [], live := [], ord := [], con := [((7, [.one]), spec_Hex.con N), ((8, [.one]), impl_Hex.con N)], loops := [], joins := [] }
theorem laws_FnExactHex.cons (N : Nat) : ConsOk Try.prog (laws_FnExactHex.cfg N).con := (consOk_cons (hb7) (spec_Hex.ok N) (consOk_cons (hb8) (impl_Hex.ok N) consOk_nil))
theorem laws_FnExactHex.ls (N : Nat) : LoopsOk Try.prog (laws_FnExactHex.cfg N) (fnBody Try.f3) := loopsL (l := []) (by kernel_rfl) trivial
theorem laws_FnExactHex.b (N : Nat) (x0 : den .str) : body (laws_FnExactHex.cfg N) N Try.f3 [.one] [.v] [(false, .imm)] [⟨.str, .imm, x0⟩] (fun r i => some (r, i)) = bindO (laws_FnExactHex N x0) fun r => some ([⟨.bool, .imm, r⟩], []) := by
  show _ = bindF _ _
  conv => rhs; simp only [laws_FnExactHex, bindF_ifB, bindF_bindO, bindF_pure, bindF_none, bindF_onSum]
  kernel_rfl
theorem laws_FnExactHex.ok (N : Nat) : ConOk Try.prog 3 [.one] (laws_FnExactHex.con N) := by
  refine conOk_mk (g := laws_FnExactHex.cfg N) (N := N) (res := [(false, .imm)]) tys_ok (laws_FnExactHex.cons N) mixed Try.func3 (laws_FnExactHex.ls N) rfl rfl ?_
  intro ds R k y h
  cases ds with
  | nil => exact none_some h
  | cons d0 ds =>
  cases ds with
  | cons _ _ => exact none_some h
  | nil =>
  have h0 : (castDm .str .imm d0 fun x0 => bindO (laws_FnExactHex N x0) fun r => k [⟨.bool, .imm, r⟩] []) = some y := h
  clear h
  obtain ⟨x0, rfl, h1⟩ := castDm_eq h0
  exact con_fin (laws_FnExactHex.b N x0) h1
end Go.AE.F
