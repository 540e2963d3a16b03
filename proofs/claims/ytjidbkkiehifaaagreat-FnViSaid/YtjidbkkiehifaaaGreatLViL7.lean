/- The printed functions are what the program comes to: contracts. -/
import Derived.Test.YtjidbkkiehifaaaGreatLViL6
noncomputable section
namespace Go.AE.F
open Go.AE Go.Proofs Go.Lib
set_option maxRecDepth 100000
def zC0.con (N : Nat) : Con := { modes := [.rd, .v], ptrs := [false], fn := fn2 s24 .imm s102 .imm (zC0 N) (fun r => [⟨(.int .i64), .imm, r⟩]) (fun r => []) }
def zC0.cfg (N : Nat) : Cfg := { ty := tys, keep := [8, 14, 25], flt := [], elm := elm0, live := [], ord := [(2, [0, 1, 2, 4, 3, 5, 6, 7, 8, 9, 10]), (3, [0, 1, 2, 4, 5, 7, 3, 6, 8, 9, 10, 11])], con := [((105, [.one]), zAO.con N), ((53, [.one]), zAN.con N), ((51, [.one, .one]), zAT.con N)], loops := [], joins := [] }
theorem zC0.cons (N : Nat) : ConsOk Tryz.prog (zC0.cfg N).con := (consOk_cons (hb105) (zAO.ok N) (zAO.det N) (consOk_cons (hb53) (zAN.ok N) (zAN.det N) (consOk_cons (hb51) (zAT.ok N) (zAT.det N) consOk_nil)))
theorem zC0.ls (N : Nat) : LoopsOk Tryz.prog (zC0.cfg N) (fnBody Tryz.f92) := loopsL (l := []) (by kernel_rfl) trivial
theorem zC0.b (N : Nat) (x0 : den s24) (x1 : den s102) : body (zC0.cfg N) N Tryz.f92 [.one, .one] [.rd, .v] [(false, .imm)] [⟨s24, .imm, x0⟩, ⟨s102, .imm, x1⟩] (fun r i => some (r, i)) = bindO (zC0 N x0 x1) fun r => some ([⟨(.int .i64), .imm, r⟩], []) := by
  show _ = bindF _ _
  conv => rhs; simp only [zC0, bindF_ifB, bindF_bindO, bindF_pure, bindF_none, bindF_onSum]
  kernel_rfl
theorem zC0.ok (N : Nat) : ConOk Tryz.prog 92 [.one, .one] (zC0.con N) := ok2 (g := zC0.cfg N) (N := N) (res := [(false, .imm)]) tys_ok (zC0.cons N) mixed Tryz.func92 (zC0.ls N) rfl (zC0.b N)
theorem zC0.det (N : Nat) : ConDet (zC0.con N) := det2
def zAR.sk26 : Skel := ⟨.rp s24 :: (.pv (.int .i64) :: (dd 1 (.pv (.int .i64) :: (dd 5 (.pv (.int .i64) :: (dd 1 (.pv (.int .i64) :: (dd 85 [])))))))), []⟩
def zAR.xs26 : List XS := [⟨.exit 1, [1], ⟨dd 1 (.pv (.int .i64) :: (dd 95 [])), []⟩⟩, ⟨.ret, [8], ⟨dd 8 (.pv (.int .i64) :: (dd 88 [])), []⟩⟩]
def zAR.con (N : Nat) : Con := { modes := [.rd, .v, .v, .v], ptrs := [false], fn := fn4 s24 .imm (.int .i64) .imm (.int .i64) .imm (.int .i64) .imm (zAR N) (fun r => [⟨(.int .i64), .imm, r⟩]) (fun r => []) }
def zAR.cfg (N : Nat) : Cfg := { ty := tys, keep := [16, 33, 38, 43, 48, 54, 62, 73], flt := [], elm := elm0, live := [(26, [0, 1, 3, 9, 11])], ord := [(17, [13, 0, 1, 5, 6, 7, 8, 9, 2, 3, 4, 10, 11, 12, 14])], con := [((53, [.one]), zAN.con N), ((89, [.one, .one]), zA5.con N), ((90, [.one, .one]), zA6.con N), ((50, [.one, .one]), zAJ.con N), ((51, [.one, .one]), zAT.con N), ((91, [.one, .one]), zC3.con N), ((92, [.one, .one]), zC0.con N)], loops := [(26, loopCon N zAR.sk26 zAR.xs26 (fun {R} => zAR.l26 (R := R) N))], joins := [] }
theorem zAR.cons (N : Nat) : ConsOk Tryz.prog (zAR.cfg N).con := (consOk_cons (hb53) (zAN.ok N) (zAN.det N) (consOk_cons (hb89) (zA5.ok N) (zA5.det N) (consOk_cons (hb90) (zA6.ok N) (zA6.det N) (consOk_cons (hb50) (zAJ.ok N) (zAJ.det N) (consOk_cons (hb51) (zAT.ok N) (zAT.det N) (consOk_cons (hb91) (zC3.ok N) (zC3.det N) (consOk_cons (hb92) (zC0.ok N) (zC0.det N) consOk_nil)))))))
theorem zAR.h26 {R : Type} (N : Nat) (d : zAR.sk26.D) (kn : zAR.sk26.D → Option R) (kx : XD zAR.xs26 → Option R) : roundK (zAR.cfg N) N (nthLoop (fnBody Tryz.f77) 0) zAR.sk26 zAR.xs26 d kn kx = zAR.l26 N d kn kx := by kernel_rfl
theorem zAR.i26 (N : Nat) : LoopsOk Tryz.prog (zAR.cfg N) (nthLoop (fnBody Tryz.f77) 0) := loopsL (l := []) (by kernel_rfl) trivial
theorem zAR.o26 (N : Nat) : LoopOk Tryz.prog (nthLoop (fnBody Tryz.f77) 0) (loopCon N zAR.sk26 zAR.xs26 (fun {R} => zAR.l26 (R := R) N)) := loop_ok (g := zAR.cfg N) tys_ok (zAR.cons N) mixed (zAR.i26 N) (fun d kn kx => zAR.h26 N d kn kx)
theorem zAR.ls (N : Nat) : LoopsOk Tryz.prog (zAR.cfg N) (fnBody Tryz.f77) := loopsL (l := [nthLoop (fnBody Tryz.f77) 0]) (by kernel_rfl) ⟨loopOne (L0 := loopCon N zAR.sk26 zAR.xs26 (fun {R} => zAR.l26 (R := R) N)) (id := 26) (by kernel_rfl) (by kernel_rfl) (zAR.o26 N), trivial⟩
theorem zAR.q26 {R R' : Type} {N n : Nat} {d} {k} {g : R → Option R'} : bindF (loopP (zAR.l26 N) n d k) g = loopP (zAR.l26 N) n d fun e => bindF (k e) g := bindF_loopP (fun d kn kx => by simp only [zAR.l26, bindF_ifB, bindF_bindO, bindF_pure, bindF_none, bindF_onSum]) n d k
theorem zAR.b (N : Nat) (x0 : den s24) (x1 : den (.int .i64)) (x2 : den (.int .i64)) (x3 : den (.int .i64)) : body (zAR.cfg N) N Tryz.f77 [.one, .one, .one, .one] [.rd, .v, .v, .v] [(false, .imm)] [⟨s24, .imm, x0⟩, ⟨(.int .i64), .imm, x1⟩, ⟨(.int .i64), .imm, x2⟩, ⟨(.int .i64), .imm, x3⟩] (fun r i => some (r, i)) = bindO (zAR N x0 x1 x2 x3) fun r => some ([⟨(.int .i64), .imm, r⟩], []) := by
  show _ = bindF _ _
  conv => rhs; simp only [zAR, bindF_ifB, bindF_bindO, bindF_pure, bindF_none, bindF_onSum, zAR.q26]
  kernel_rfl
theorem zAR.ok (N : Nat) : ConOk Tryz.prog 77 [.one, .one, .one, .one] (zAR.con N) := ok4 (g := zAR.cfg N) (N := N) (res := [(false, .imm)]) tys_ok (zAR.cons N) mixed Tryz.func77 (zAR.ls N) rfl (zAR.b N)
theorem zAR.det (N : Nat) : ConDet (zAR.con N) := det4
def zAM.sk3 : Skel := ⟨.rp s24 :: (.pv (.int .i64) :: (dd 1 (.pv (.int .i64) :: (dd 5 (.pv (.int .i64) :: (dd 5 (.pv (.int .i64) :: (.pv (.int .i64) :: (dd 12 []))))))))), []⟩
def zAM.xs3 : List XS := [⟨.exit 0, [9], ⟨dd 9 (.pv (.int .i64) :: (dd 19 [])), []⟩⟩]
def zAM.con (N : Nat) : Con := { modes := [.rd, .v, .v, .v], ptrs := [false], fn := fn4 s24 .imm (.int .i64) .imm (.int .i64) .imm (.int .i64) .imm (zAM N) (fun r => [⟨(.int .i64), .imm, r⟩]) (fun r => []) }
def zAM.cfg (N : Nat) : Cfg := { ty := tys, keep := [22], flt := [], elm := elm0, live := [(3, [0, 1, 3, 9, 15, 16])], ord := [], con := [((77, [.one, .one, .one, .one]), zAR.con N)], loops := [(3, loopCon N zAM.sk3 zAM.xs3 (fun {R} => zAM.l3 (R := R) N))], joins := [] }
theorem zAM.cons (N : Nat) : ConsOk Tryz.prog (zAM.cfg N).con := (consOk_cons (hb77) (zAR.ok N) (zAR.det N) consOk_nil)
theorem zAM.h3 {R : Type} (N : Nat) (d : zAM.sk3.D) (kn : zAM.sk3.D → Option R) (kx : XD zAM.xs3 → Option R) : roundK (zAM.cfg N) N (nthLoop (fnBody Tryz.f49) 0) zAM.sk3 zAM.xs3 d kn kx = zAM.l3 N d kn kx := by kernel_rfl
theorem zAM.i3 (N : Nat) : LoopsOk Tryz.prog (zAM.cfg N) (nthLoop (fnBody Tryz.f49) 0) := loopsL (l := []) (by kernel_rfl) trivial
theorem zAM.o3 (N : Nat) : LoopOk Tryz.prog (nthLoop (fnBody Tryz.f49) 0) (loopCon N zAM.sk3 zAM.xs3 (fun {R} => zAM.l3 (R := R) N)) := loop_ok (g := zAM.cfg N) tys_ok (zAM.cons N) mixed (zAM.i3 N) (fun d kn kx => zAM.h3 N d kn kx)
theorem zAM.ls (N : Nat) : LoopsOk Tryz.prog (zAM.cfg N) (fnBody Tryz.f49) := loopsL (l := [nthLoop (fnBody Tryz.f49) 0]) (by kernel_rfl) ⟨loopOne (L0 := loopCon N zAM.sk3 zAM.xs3 (fun {R} => zAM.l3 (R := R) N)) (id := 3) (by kernel_rfl) (by kernel_rfl) (zAM.o3 N), trivial⟩
theorem zAM.q3 {R R' : Type} {N n : Nat} {d} {k} {g : R → Option R'} : bindF (loopP (zAM.l3 N) n d k) g = loopP (zAM.l3 N) n d fun e => bindF (k e) g := bindF_loopP (fun d kn kx => by simp only [zAM.l3, bindF_ifB, bindF_bindO, bindF_pure, bindF_none, bindF_onSum]) n d k
theorem zAM.b (N : Nat) (x0 : den s24) (x1 : den (.int .i64)) (x2 : den (.int .i64)) (x3 : den (.int .i64)) : body (zAM.cfg N) N Tryz.f49 [.one, .one, .one, .one] [.rd, .v, .v, .v] [(false, .imm)] [⟨s24, .imm, x0⟩, ⟨(.int .i64), .imm, x1⟩, ⟨(.int .i64), .imm, x2⟩, ⟨(.int .i64), .imm, x3⟩] (fun r i => some (r, i)) = bindO (zAM N x0 x1 x2 x3) fun r => some ([⟨(.int .i64), .imm, r⟩], []) := by
  show _ = bindF _ _
  conv => rhs; simp only [zAM, bindF_ifB, bindF_bindO, bindF_pure, bindF_none, bindF_onSum, zAM.q3]
  kernel_rfl
theorem zAM.ok (N : Nat) : ConOk Tryz.prog 49 [.one, .one, .one, .one] (zAM.con N) := ok4 (g := zAM.cfg N) (N := N) (res := [(false, .imm)]) tys_ok (zAM.cons N) mixed Tryz.func49 (zAM.ls N) rfl (zAM.b N)
theorem zAM.det (N : Nat) : ConDet (zAM.con N) := det4
set_option maxHeartbeats 4000000 in
set_option maxRecDepth 100000 in
theorem ins93_end (ad : Option Addr) (n c vb voff m vc : Nat) (w w1 : World) (r : Value) (hm : 0 < m) (hrun : (Builtin.append_ #[26, 26] 26 #[.slice ad n c, .slice (some ⟨vb, voff, none⟩) m vc]).run Tryz.prog w = .ok r w1) :
    Calls Tryz.prog 93 #[.slice ad n c, .int .i64 n, .slice (some ⟨vb, voff, none⟩) m vc] w fun e w' => e = .returned r ∧ w' = w1 := by
  have t0 := Tryz.underlying0; have a0 := Tryz.isAgg0; have z0 := Tryz.sizeOf0; have v0 := Tryz.zeroValue0
  have t3 := Tryz.underlying3; have a3 := Tryz.isAgg3; have z3 := Tryz.sizeOf3; have v3 := Tryz.zeroValue3
  have t4 := Tryz.underlying4; have a4 := Tryz.isAgg4; have z4 := Tryz.sizeOf4; have v4 := Tryz.zeroValue4
  have t23 := Tryz.underlying23; have a23 := Tryz.isAgg23; have z23 := Tryz.sizeOf23; have v23 := Tryz.zeroValue23
  have t26 := Tryz.underlying26; have a26 := Tryz.isAgg26; have z26 := Tryz.sizeOf26; have v26 := Tryz.zeroValue26
  have u0 := run_underlying Tryz.underlying0; have u3 := run_underlying Tryz.underlying3; have u4 := run_underlying Tryz.underlying4; have u23 := run_underlying Tryz.underlying23; have u26 := run_underlying Tryz.underlying26
  have hz1 : ¬ ((m : Int) = 0) := by omega
  go_enter Tryz.func93, Tryz.ntmps93
  cases ad with
  | none =>
    go_wp2_with (at_builtin; refine Lib.wpList_append_run _ rfl _ _ _ _ rfl _ _ rfl rfl _ _ hrun ?_)
    all_goals (go_ret; exact ⟨rfl, rfl⟩)
  | some a =>
    obtain ⟨ab, ao, asp⟩ := a
    go_wp2_with (at_builtin; refine Lib.wpList_append_run _ rfl _ _ _ _ rfl _ _ rfl rfl _ _ hrun ?_)
    all_goals (go_ret; exact ⟨rfl, rfl⟩)
set_option maxHeartbeats 4000000 in
set_option maxRecDepth 100000 in
theorem ins93_zero (ad va : Option Addr) (n c i vc : Nat) (w : World) (hi : i ≤ n) (hnc : n ≤ c) (hnil : ad = none → n = 0 ∧ c = 0) :
    Calls Tryz.prog 93 #[.slice ad n c, .int .i64 i, .slice va 0 vc] w fun e w' => e = .returned (.slice ad n c) ∧ w' = w := by
  have t0 := Tryz.underlying0; have a0 := Tryz.isAgg0; have z0 := Tryz.sizeOf0; have v0 := Tryz.zeroValue0
  have t3 := Tryz.underlying3; have a3 := Tryz.isAgg3; have z3 := Tryz.sizeOf3; have v3 := Tryz.zeroValue3
  have t4 := Tryz.underlying4; have a4 := Tryz.isAgg4; have z4 := Tryz.sizeOf4; have v4 := Tryz.zeroValue4
  have t23 := Tryz.underlying23; have a23 := Tryz.isAgg23; have z23 := Tryz.sizeOf23; have v23 := Tryz.zeroValue23
  have t26 := Tryz.underlying26; have a26 := Tryz.isAgg26; have z26 := Tryz.sizeOf26; have v26 := Tryz.zeroValue26
  have u0 := run_underlying Tryz.underlying0; have u3 := run_underlying Tryz.underlying3; have u4 := run_underlying Tryz.underlying4; have u23 := run_underlying Tryz.underlying23; have u26 := run_underlying Tryz.underlying26
  have hi2 : (i : Int) ≤ (n : Int) := by omega
  go_enter Tryz.func93, Tryz.ntmps93
  cases ad with
  | none =>
    obtain ⟨e1, e2⟩ := hnil rfl
    subst e1 e2
    have : i = 0 := by omega
    subst this
    go_wp2
    all_goals (go_ret; exact ⟨rfl, rfl⟩)
  | some a =>
    obtain ⟨ab, ao, asp⟩ := a
    go_wp2
    all_goals (go_ret; exact ⟨rfl, rfl⟩)
set_option maxHeartbeats 4000000 in
set_option maxRecDepth 100000 in
theorem ins93_shift (b off n c i vb voff m vc : Nat) (cs vs : List Value) (w : World) (hi : i < n) (hm : 0 < m) (hroom : n + m ≤ c) (hnm : n + m ≤ 68719476736) (hvd : vb = b → voff + m ≤ off ∨ off + c ≤ voff)
    (hcl : cs.length = n) (hvl : vs.length = m)
    (hcs : ∀ j v, cs[j]? = some v → w.cell? ⟨b, off + j, none⟩ = some v) (hsp : ∀ j, j < n + m → (w.cell? ⟨b, off + j, none⟩).isSome = true) (hfz : NF w b)
    (hvs : ∀ j v, vs[j]? = some v → w.cell? ⟨vb, voff + j, none⟩ = some v) (h1c : ∀ v ∈ cs, v.oneCell' = true) (h1v : ∀ v ∈ vs, v.oneCell' = true)
    (tA tB : TypeId) (kA kB : Nat) (hsa : w.shape? vb = some (tA, kA)) (hsb : w.shape? b = some (tB, kB)) (hkA : kA ≠ 0) (hkB : kB ≠ 0) :
    Calls Tryz.prog 93 #[.slice (some ⟨b, off, none⟩) n c, .int .i64 i, .slice (some ⟨vb, voff, none⟩) m vc] w fun e w' =>
      e = .returned (.slice (some ⟨b, off, none⟩) (n + m) c) ∧ w' = (w.drew.setCells b (off + (i + m)) (cs.drop i)).setCells b (off + i) vs := by
  have t0 := Tryz.underlying0; have a0 := Tryz.isAgg0; have z0 := Tryz.sizeOf0; have v0 := Tryz.zeroValue0
  have t3 := Tryz.underlying3; have a3 := Tryz.isAgg3; have z3 := Tryz.sizeOf3; have v3 := Tryz.zeroValue3
  have t4 := Tryz.underlying4; have a4 := Tryz.isAgg4; have z4 := Tryz.sizeOf4; have v4 := Tryz.zeroValue4
  have t23 := Tryz.underlying23; have a23 := Tryz.isAgg23; have z23 := Tryz.sizeOf23; have v23 := Tryz.zeroValue23
  have t26 := Tryz.underlying26; have a26 := Tryz.isAgg26; have z26 := Tryz.sizeOf26; have v26 := Tryz.zeroValue26
  have u0 := run_underlying Tryz.underlying0; have u3 := run_underlying Tryz.underlying3; have u4 := run_underlying Tryz.underlying4; have u23 := run_underlying Tryz.underlying23; have u26 := run_underlying Tryz.underlying26
  have hz1 : ¬ ((m : Int) = 0) := by omega
  have hz2 : ¬ ((i : Int) = (n : Int)) := by omega
  have hsz : (Tryz.prog.info? 23).map (·.size) = some 1 := by kernel_rfl
  have hov : ∀ lb cb, lb ≤ n - i → (callFunc 106 #[.slice (some ⟨vb, voff, none⟩) m vc, .slice (some ⟨b, off + (i + m), none⟩) lb cb]).run Tryz.prog w = .ok (.value (.bool false)) w := fun lb cb hlb => by
    rw [run_callFunc_extern Tryz.func106 (by kernel_rfl) (by kernel_rfl) (by kernel_rfl) (e := Extern.SlicesOverlaps.overlaps #[26, 26] #[4]) (by kernel_rfl),
      run_overlaps_nf w 26 4 23 Tryz.underlying26 1 Tryz.sizeOf23 vb voff b (off + (i + m)) m vc lb cb (fun e => by have := hvd e; omega) tA tB kA kB hsa hsb hkB hkA hfz]
    rfl
  have hdl : (cs.drop i).length = n - i := by rw [List.length_drop, hcl]
  have mixed := mixed
  have hw1 : IntKind.i64.wrap ((i : Int) + (m : Int)) = (i : Int) + (m : Int) := by rw [IntKind.wrap_i64]; omega
  have hb1 : (0 : Int) ≤ (i : Int) + (m : Int) := by omega
  have hin : i ≤ n := by omega
  have htn : ((i : Int) + (m : Int)).toNat = i + m := by omega
  have hb2 : ¬ (c = i + m) := by omega
  have hb3 : (i : Int) ≤ (n : Int) + (m : Int) := by omega
  have hb4 : ¬ (c = i) := by omega
  have hov2 : ∀ cb, (callFunc 106 #[.slice (some ⟨vb, voff, none⟩) m vc, .slice (some ⟨b, off + (i + m), none⟩) (n + m - (i + m)) cb]).run Tryz.prog w = .ok (.value (.bool false)) w := fun cb => hov _ _ (by omega)
  have hcp1 : ∀ ty dc sc, (Builtin.copy_ #[26, 26] ty #[.slice (some ⟨b, off + (i + m), none⟩) (n + m - (i + m)) dc, .slice (some ⟨b, off + i, none⟩) (n + m - i) sc]).run Tryz.prog w.drew = .ok (goInt (cs.drop i).length) (w.drew.setCells b (off + (i + m)) (cs.drop i)) := fun ty dc sc =>
    run_copy_cells w.drew _ _ ty 23 b (off + (i + m)) (n + m - (i + m)) dc ⟨b, off + i, none⟩ (n + m - i) sc (cs.drop i) Tryz.underlying26 hsz (by rw [hdl]; simp only [Nat.min_def]; split <;> omega)
      (fun j v hj => by rw [Addr.add_lit, Nat.add_assoc]; exact hcs (i + j) v (by rwa [List.getElem?_drop] at hj))
      (fun j hj => by rw [Nat.add_assoc]; exact hsp _ (by omega)) (fun j hj => by rw [Nat.add_assoc]; exact hfz _) (fun v hv => h1c v (List.mem_of_mem_drop hv))
  obtain ⟨W1, hW1⟩ : ∃ W1, W1 = w.drew.setCells b (off + (i + m)) (cs.drop i) := ⟨_, rfl⟩
  have hsp1 : ∀ k, k < n + m → (W1.cell? ⟨b, off + k, none⟩).isSome = true := fun k hk => by
    rw [hW1]
    exact isSome_setCells b _ _ _ (fun j hj => by rw [Nat.add_assoc]; exact hsp _ (by omega)) _ (hsp k hk)
  have hcp2 : ∀ (W : World), (∀ x, W.cell? x = W1.cell? x) → (∀ x, W.frozen? x = W1.frozen? x) → ∀ ty dc, (Builtin.copy_ #[26, 26] ty #[.slice (some ⟨b, off + i, none⟩) (n + m - i) dc, .slice (some ⟨vb, voff, none⟩) m vc]).run Tryz.prog W = .ok (goInt vs.length) (W.setCells b (off + i) vs) := fun W hWc hWf ty dc =>
    run_copy_cells W _ _ ty 23 b (off + i) (n + m - i) dc ⟨vb, voff, none⟩ m vc vs Tryz.underlying26 hsz (by rw [hvl]; simp only [Nat.min_def]; split <;> omega)
      (fun j v hj => by
        have hjm : j < m := by
          rcases Nat.lt_or_ge j vs.length with q | q
          · omega
          · rw [List.getElem?_eq_none q] at hj; cases hj
        rw [Addr.add_lit, hWc, hW1, World.cell?_setCells_out b _ _ _ _ (fun h _ => by have := hvd h; rw [hdl]; show voff + j < off + (i + m) ∨ off + (i + m) + (n - i) ≤ voff + j; omega)]
        exact hvs j v hj)
      (fun j hj => by rw [hWc, Nat.add_assoc]; exact hsp1 _ (by omega)) (fun j hj => by rw [hWf, hW1, World.frozen?_setCells, Nat.add_assoc]; exact hfz _) h1v
  rw [← hW1] at hcp1
  go_enter Tryz.func93, Tryz.ntmps93
  go_wp2_with (simp only [hov2])
  go_region_law_o (refine step_copy_runI rfl _ _ 26 26 rfl _ _ (by simp [Act.eval, Act.put]) (by simp [Act.eval, Act.put]) (hcp1 _ _ _) ?_)
  go_wp2_with (at_builtin; refine wpList_copy_runI _ rfl _ _ 26 26 rfl _ _ rfl rfl (hcp2 _ (fun _ => rfl) (fun _ => rfl) _ _) ?_)
  go_ret
  first | exact ⟨rfl, rfl⟩ | exact ⟨rfl, by rw [hW1]⟩
set_option maxHeartbeats 4000000 in
set_option maxRecDepth 100000 in
theorem ins93_grow (b off n c i vb voff m vc : Nat) (cs vs : List Value) (w : World) (hi : i < n) (hm : 0 < m) (hnc : n ≤ c) (hroom : c < n + m) (hbig : (n + m) * 24 ≤ 140737488355328)
    (hcl : cs.length = n) (hvl : vs.length = m)
    (hcs : ∀ j v, cs[j]? = some v → w.cell? ⟨b, off + j, none⟩ = some v)
    (hvs : ∀ j v, vs[j]? = some v → w.cell? ⟨vb, voff + j, none⟩ = some v) (h1c : ∀ v ∈ cs, v.oneCell' = true) (h1v : ∀ v ∈ vs, v.oneCell' = true) :
    Calls Tryz.prog 93 #[.slice (some ⟨b, off, none⟩) n c, .int .i64 i, .slice (some ⟨vb, voff, none⟩) m vc] w fun e w' =>
      e = .returned (.slice (some ⟨w.heap.size, 0, none⟩) (n + m) (grownCap w (n + m) c 23)) ∧
      w' = (((w.alloc (.cells ((cs.take i).toArray ++ Builtin.zeroCells (Value.slice none 0 0).cells (n + m - i) ++ Builtin.zeroCells (Value.slice none 0 0).cells (grownCap w (n + m) c 23 - (n + m))) 23)).drew.setCells w.heap.size i vs).drew).setCells w.heap.size (i + m) (cs.drop i) := by
  have t0 := Tryz.underlying0; have a0 := Tryz.isAgg0; have z0 := Tryz.sizeOf0; have v0 := Tryz.zeroValue0
  have t3 := Tryz.underlying3; have a3 := Tryz.isAgg3; have z3 := Tryz.sizeOf3; have v3 := Tryz.zeroValue3
  have t4 := Tryz.underlying4; have a4 := Tryz.isAgg4; have z4 := Tryz.sizeOf4; have v4 := Tryz.zeroValue4
  have t23 := Tryz.underlying23; have a23 := Tryz.isAgg23; have z23 := Tryz.sizeOf23; have v23 := Tryz.zeroValue23
  have t26 := Tryz.underlying26; have a26 := Tryz.isAgg26; have z26 := Tryz.sizeOf26; have v26 := Tryz.zeroValue26
  have u0 := run_underlying Tryz.underlying0; have u3 := run_underlying Tryz.underlying3; have u4 := run_underlying Tryz.underlying4; have u23 := run_underlying Tryz.underlying23; have u26 := run_underlying Tryz.underlying26
  have mixed := mixed
  obtain ⟨i0, hi0, hz0, hzs, hzb⟩ : ∃ i0, Tryz.prog.info? 23 = some i0 ∧ i0.zero = some (Value.slice none 0 0) ∧ i0.size = 1 ∧ i0.bytes = 24 := ⟨Tryz.t23, by kernel_rfl, rfl, rfl, rfl⟩
  have hz1 : ¬ ((m : Int) = 0) := by omega
  have hz2 : ¬ ((i : Int) = (n : Int)) := by omega
  have hz3 : (c : Int) < (n : Int) + (m : Int) := by omega
  have hsz : (Tryz.prog.info? 23).map (·.size) = some 1 := by rw [hi0]; simp [hzs]
  have hbw : b < w.heap.size := block_lt_of_cell (hcs 0 _ (List.getElem?_eq_getElem (by omega)))
  have hvw : vb < w.heap.size := block_lt_of_cell (hvs 0 _ (List.getElem?_eq_getElem (by omega)))
  have hkk : (n : Int) + (m : Int) - (i : Int) = ((n + m - i : Nat) : Int) := by omega
  have hik : i + (n + m - i) = n + m := by omega
  have hold : (Builtin.firstCells i0.size i (.slice (some ⟨b, off, none⟩) i c)).run Tryz.prog w.drew = .ok (cs.take i).toArray w.drew := by
    rw [hzs]
    exact run_firstCells_some w.drew 1 i ⟨b, off, none⟩ i c (cs.take i) (by rw [List.length_take]; omega) (fun j v hj => by
      rw [Addr.add_lit]
      rw [List.getElem?_take] at hj
      split at hj
      · exact hcs j v hj
      · cases hj)
  have hrz : ∀ ty, (Builtin.append_ #[26, 3] ty #[.slice (some ⟨b, off, none⟩) i c, .int .i64 ((n : Int) + (m : Int) - (i : Int))]).run Tryz.prog w =
      .ok (.slice (some ⟨w.heap.size, 0, none⟩) (n + m) (grownCap w (n + m) c 23)) (w.drew.alloc (.cells ((cs.take i).toArray ++ Builtin.zeroCells (Value.slice none 0 0).cells (n + m - i) ++ Builtin.zeroCells (Value.slice none 0 0).cells (grownCap w (n + m) c 23 - (n + m))) 23)) := fun ty => by
    have h := Lib.run_append_grow_zeros w 26 3 ty 23 i0 _ .i64 .i64 Tryz.underlying26 Tryz.underlying3 hi0 hz0 (some ⟨b, off, none⟩) i c (cs.take i) hold (n + m - i) (by omega) (by omega) (by omega) (by omega) (by rw [hzb]; omega) (by rw [hzb, hik]; exact growslice_fits hroom hbig)
    rw [hik] at h
    rw [hkk]
    exact h
  obtain ⟨G, hG⟩ : ∃ G, G = grownCap w (n + m) c 23 := ⟨_, rfl⟩
  obtain ⟨ROW, hROW⟩ : ∃ ROW : Array Value, ROW = (cs.take i).toArray ++ Builtin.zeroCells (Value.slice none 0 0).cells (n + m - i) ++ Builtin.zeroCells (Value.slice none 0 0).cells (G - (n + m)) := ⟨_, rfl⟩
  rw [← hG] at hrz ⊢
  rw [← hROW] at hrz ⊢
  have hRl : n + m ≤ ROW.size := by
    rw [hROW]
    simp [Builtin.zeroCells, Value.cells]
    omega
  obtain ⟨W1, hW1⟩ : ∃ W1, W1 = w.drew.alloc (.cells ROW 23) := ⟨_, rfl⟩
  rw [← hW1] at hrz
  have hN : ∀ j, j < n + m → (W1.cell? ⟨w.heap.size, j, none⟩).isSome = true := fun j hj => by
    rw [hW1, World.cell?_alloc_at (w := w.drew) ROW _ w.heap.size j rfl, Array.getElem?_eq_getElem (by omega)]; rfl
  have hNf : ∀ j, W1.frozen? ⟨w.heap.size, j, none⟩ = false := fun j => by rw [hW1]; exact World.frozen?_alloc_at (w := w.drew) ROW _ w.heap.size j rfl
  have hOb : ∀ j v, w.cell? ⟨b, j, none⟩ = some v → W1.cell? ⟨b, j, none⟩ = some v := fun j v h => by rw [hW1, World.cell?_alloc_past (w := w.drew) _ b j hbw]; exact h
  have hOv : ∀ j v, w.cell? ⟨vb, j, none⟩ = some v → W1.cell? ⟨vb, j, none⟩ = some v := fun j v h => by rw [hW1, World.cell?_alloc_past (w := w.drew) _ vb j hvw]; exact h
  have hcpA : ∀ (W : World), (∀ x, W.cell? x = W1.cell? x) → (∀ x, W.frozen? x = W1.frozen? x) → ∀ ty dc, (Builtin.copy_ #[26, 26] ty #[.slice (some ⟨w.heap.size, i, none⟩) (n + m - i) dc, .slice (some ⟨vb, voff, none⟩) m vc]).run Tryz.prog W = .ok (goInt vs.length) (W.setCells w.heap.size i vs) := fun W hWc hWf ty dc =>
    run_copy_cells W _ _ ty 23 w.heap.size i (n + m - i) dc ⟨vb, voff, none⟩ m vc vs Tryz.underlying26 hsz (by rw [hvl]; simp only [Nat.min_def]; split <;> omega)
      (fun j v hj => by rw [Addr.add_lit, hWc]; exact hOv _ v (hvs j v hj))
      (fun j hj => by rw [hWc]; exact hN _ (by omega)) (fun j hj => by rw [hWf]; exact hNf _) h1v
  have hGn : n + m ≤ G := by rw [hG]; exact grownCap_ge w _ _ _
  have hG63 : G ≤ 9223372036854775807 := by
    have := grownCap_le_maxLen w (n + m) c 23 (by unfold maxLen; omega)
    rw [← hG] at this
    unfold maxLen at this
    omega
  have hGi : ¬ (G = i) := by omega
  have hGim : ¬ (G = i + m) := by omega
  have hci : ¬ (c = i) := by omega
  have hbN : b ≠ w.heap.size := by omega
  have hdl : (cs.drop i).length = n - i := by rw [List.length_drop, hcl]
  have hcpB : ∀ (W : World), (∀ x, W.cell? x = (W1.setCells w.heap.size i vs).cell? x) → (∀ x, W.frozen? x = (W1.setCells w.heap.size i vs).frozen? x) → ∀ ty dc sc, (Builtin.copy_ #[26, 26] ty #[.slice (some ⟨w.heap.size, i + m, none⟩) (n + m - (i + m)) dc, .slice (some ⟨b, off + i, none⟩) (n - i) sc]).run Tryz.prog W = .ok (goInt (cs.drop i).length) (W.setCells w.heap.size (i + m) (cs.drop i)) := fun W hWc hWf ty dc sc =>
    run_copy_cells W _ _ ty 23 w.heap.size (i + m) (n + m - (i + m)) dc ⟨b, off + i, none⟩ (n - i) sc (cs.drop i) Tryz.underlying26 hsz (by rw [hdl]; simp only [Nat.min_def]; split <;> omega)
      (fun j v hj => by
        rw [Addr.add_lit, hWc, World.cell?_setCells_out _ _ _ _ _ (fun h _ => absurd h hbN), Nat.add_assoc]
        exact hOb _ v (hcs (i + j) v (by rwa [List.getElem?_drop] at hj)))
      (fun j hj => by rw [hWc]; exact isSome_setCells _ _ _ _ (fun t ht => hN _ (by omega)) _ (hN _ (by omega)))
      (fun j hj => by rw [hWf, World.frozen?_setCells]; exact hNf _) (fun v hv => h1c v (List.mem_of_mem_drop hv))
  subst hW1
  have hE1 : ∀ x, ((w.alloc (.cells ROW 23)).drew).cell? x = (w.drew.alloc (.cells ROW 23)).cell? x := fun x => rfl
  have hE2 : ∀ x, ((w.alloc (.cells ROW 23)).drew).frozen? x = (w.drew.alloc (.cells ROW 23)).frozen? x := fun x => rfl
  have hF1 : ∀ x, (((w.alloc (.cells ROW 23)).drew.setCells w.heap.size i vs).drew).cell? x = ((w.drew.alloc (.cells ROW 23)).setCells w.heap.size i vs).cell? x := fun x => rfl
  have hF2 : ∀ x, (((w.alloc (.cells ROW 23)).drew.setCells w.heap.size i vs).drew).frozen? x = ((w.drew.alloc (.cells ROW 23)).setCells w.heap.size i vs).frozen? x := fun x => rfl
  have hw1 : IntKind.i64.wrap ((i : Int) + (m : Int)) = (i : Int) + (m : Int) := by rw [IntKind.wrap_i64]; omega
  have hb1 : (0 : Int) ≤ (i : Int) + (m : Int) := by omega
  have hin : i ≤ n := by omega
  have htn : ((i : Int) + (m : Int)).toNat = i + m := by omega
  have hb3 : (i : Int) ≤ (n : Int) := by omega
  clear hkk hik hold hROW hG hRl
  go_enter Tryz.func93, Tryz.ntmps93
  go_wp2_with (first
    | (at_builtin; refine Lib.wpList_append_run _ rfl _ _ _ _ rfl _ _ rfl rfl _ _ (hrz _) ?_)
    | (at_builtin; refine wpList_copy_runI _ rfl _ _ 26 26 rfl _ _ rfl rfl (hcpA _ hE1 hE2 _ _) ?_)
    | (at_builtin; refine wpList_copy_runI _ rfl _ _ 26 26 rfl _ _ rfl rfl (hcpB _ (fun _ => rfl) (fun _ => rfl) _ _ _) ?_))
  go_region_law_o (refine step_copy_runI rfl _ _ 26 26 rfl (.slice (some ⟨w.heap.size, i + m, none⟩) (n + m - (i + m)) (G - (i + m))) (.slice (some ⟨b, off + i, none⟩) (n - i) (c - i)) (by simp [Act.eval, Act.put]) (by simp [Act.eval, Act.put]) (hcpB _ hF1 hF2 3 (G - (i + m)) (c - i)) ?_)
  go_wp2
  go_ret
  exact ⟨rfl, rfl⟩
theorem zBO.runs : InsRuns Tryz.prog 93 26 23 := ⟨ins93_zero, ins93_end, ins93_shift, ins93_grow⟩
def zBO.con (N : Nat) : Con := insCon (e := 23) (s := s23) (.own .imm) (zBO N)
theorem zBO.ok (N : Nat) : ConOk Tryz.prog 93 [.one, .one, .one] (zBO.con N) := ins_conOk (tS := 26) rfl (by kernel_rfl) zBO.runs (fun _ _ _ => rfl)
theorem zBO.det (N : Nat) : ConDet (zBO.con N) := ins_det
def zCW.con (N : Nat) : Con := { modes := [.v, .v], ptrs := [false], fn := fn2 s27 .imm s23 .imm (zCW N) (fun r => [⟨s27, (.pr (.own (.own .imm)) .imm), r⟩]) (fun r => []) }
def zCW.cfg (N : Nat) : Cfg := { ty := tys, keep := [8, 10, 12], flt := [], elm := elm0, live := [], ord := [], con := [((45, [.one]), zAS.con N), ((44, [.one]), zAB.con N), ((93, [.one, .one, .one]), zBO.con N)], loops := [], joins := [] }
theorem zCW.cons (N : Nat) : ConsOk Tryz.prog (zCW.cfg N).con := (consOk_cons (hb45) (zAS.ok N) (zAS.det N) (consOk_cons (hb44) (zAB.ok N) (zAB.det N) (consOk_cons (hb93) (zBO.ok N) (zBO.det N) consOk_nil)))
theorem zCW.ls (N : Nat) : LoopsOk Tryz.prog (zCW.cfg N) (fnBody Tryz.f78) := loopsL (l := []) (by kernel_rfl) trivial
theorem zCW.b (N : Nat) (x0 : den s27) (x1 : den s23) : body (zCW.cfg N) N Tryz.f78 [.one, .one] [.v, .v] [(false, (.pr (.own (.own .imm)) .imm))] [⟨s27, .imm, x0⟩, ⟨s23, .imm, x1⟩] (fun r i => some (r, i)) = bindO (zCW N x0 x1) fun r => some ([⟨s27, (.pr (.own (.own .imm)) .imm), r⟩], []) := by
  show _ = bindF _ _
  conv => rhs; simp only [zCW, bindF_ifB, bindF_bindO, bindF_pure, bindF_none, bindF_onSum]
  kernel_rfl
theorem zCW.ok (N : Nat) : ConOk Tryz.prog 78 [.one, .one] (zCW.con N) := ok2 (g := zCW.cfg N) (N := N) (res := [(false, (.pr (.own (.own .imm)) .imm))]) tys_ok (zCW.cons N) mixed Tryz.func78 (zCW.ls N) rfl (zCW.b N)
theorem zCW.det (N : Nat) : ConDet (zCW.con N) := det2
def zB1.con (N : Nat) : Con := { modes := [.nl, .v], ptrs := [false], fn := fn2 s23 .imm (.int .i64) .imm (zB1 N) (fun r => [⟨s23, (.own .imm), r⟩]) (fun r => []) }
def zB1.cfg (N : Nat) : Cfg := { ty := tys, keep := [], flt := [], elm := elm0, live := [], ord := [], con := [], loops := [], joins := [] }
theorem zB1.cons (N : Nat) : ConsOk Tryz.prog (zB1.cfg N).con := consOk_nil
theorem zB1.ls (N : Nat) : LoopsOk Tryz.prog (zB1.cfg N) (fnBody Tryz.f108) := loopsL (l := []) (by kernel_rfl) trivial
theorem zB1.b (N : Nat) (x0 : den s23) (x1 : den (.int .i64)) : body (zB1.cfg N) N Tryz.f108 [.one, .one] [.nl, .v] [(false, (.own .imm))] [⟨s23, .imm, x0⟩, ⟨(.int .i64), .imm, x1⟩] (fun r i => some (r, i)) = bindO (zB1 N x0 x1) fun r => some ([⟨s23, (.own .imm), r⟩], []) := by
  show _ = bindF _ _
  conv => rhs; simp only [zB1, bindF_ifB, bindF_bindO, bindF_pure, bindF_none, bindF_onSum]
  kernel_rfl
theorem zB1.ok (N : Nat) : ConOk Tryz.prog 108 [.one, .one] (zB1.con N) := ok2 (g := zB1.cfg N) (N := N) (res := [(false, (.own .imm))]) tys_ok (zB1.cons N) mixed Tryz.func108 (zB1.ls N) rfl (zB1.b N)
theorem zB1.det (N : Nat) : ConDet (zB1.con N) := det2
def zA3.sk3 : Skel := ⟨.pv s26 :: (dd 2 (.pv (.int .i64) :: (dd 5 (.pv s26 :: (.pv (.int .i64) :: (.pv (.int .i64) :: (dd 24 []))))))), []⟩
def zA3.xs3 : List XS := [⟨.exit 0, [0, 3], ⟨.pv s26 :: (dd 2 (.pv (.int .i64) :: (dd 32 []))), []⟩⟩]
def zA3.sk11 : Skel := ⟨dd 6 (.ov 50 [] :: (dd 18 (.pv s26 :: (.pv (.int .i64) :: (.pv (.int .i64) :: (dd 8 [])))))), [⟨50, s23, (.own .imm), false, false⟩]⟩
def zA3.xs11 : List XS := [⟨.exit 2, [6], ⟨dd 6 (.ov 50 [] :: (dd 29 [])), [⟨50, s23, (.own .imm), false, false⟩]⟩⟩]
def zA3.con (N : Nat) : Con := { modes := [.v], ptrs := [false], fn := fn1 s26 .imm (zA3 N) (fun r => [⟨s23, (.own .imm), r⟩]) (fun r => []) }
def zA3.cfg (N : Nat) : Cfg := { ty := tys, keep := [24], flt := [], elm := elm0, live := [(11, [6, 25, 26, 27]), (3, [0, 3, 9, 10, 11])], ord := [], con := [((108, [.one, .one]), zB1.con N)], loops := [(3, loopCon N zA3.sk3 zA3.xs3 (fun {R} => zA3.l3 (R := R) N)), (11, loopCon N zA3.sk11 zA3.xs11 (fun {R} => zA3.l11 (R := R) N))], joins := [] }
theorem zA3.cons (N : Nat) : ConsOk Tryz.prog (zA3.cfg N).con := (consOk_cons (hb108) (zB1.ok N) (zB1.det N) consOk_nil)
theorem zA3.h11 {R : Type} (N : Nat) (d : zA3.sk11.D) (kn : zA3.sk11.D → Option R) (kx : XD zA3.xs11 → Option R) : roundK (zA3.cfg N) N (nthLoop (fnBody Tryz.f95) 1) zA3.sk11 zA3.xs11 d kn kx = zA3.l11 N d kn kx := by kernel_rfl
theorem zA3.i11 (N : Nat) : LoopsOk Tryz.prog (zA3.cfg N) (nthLoop (fnBody Tryz.f95) 1) := loopsL (l := []) (by kernel_rfl) trivial
theorem zA3.o11 (N : Nat) : LoopOk Tryz.prog (nthLoop (fnBody Tryz.f95) 1) (loopCon N zA3.sk11 zA3.xs11 (fun {R} => zA3.l11 (R := R) N)) := loop_ok (g := zA3.cfg N) tys_ok (zA3.cons N) mixed (zA3.i11 N) (fun d kn kx => zA3.h11 N d kn kx)
theorem zA3.h3 {R : Type} (N : Nat) (d : zA3.sk3.D) (kn : zA3.sk3.D → Option R) (kx : XD zA3.xs3 → Option R) : roundK (zA3.cfg N) N (nthLoop (fnBody Tryz.f95) 0) zA3.sk3 zA3.xs3 d kn kx = zA3.l3 N d kn kx := by kernel_rfl
theorem zA3.i3 (N : Nat) : LoopsOk Tryz.prog (zA3.cfg N) (nthLoop (fnBody Tryz.f95) 0) := loopsL (l := []) (by kernel_rfl) trivial
theorem zA3.o3 (N : Nat) : LoopOk Tryz.prog (nthLoop (fnBody Tryz.f95) 0) (loopCon N zA3.sk3 zA3.xs3 (fun {R} => zA3.l3 (R := R) N)) := loop_ok (g := zA3.cfg N) tys_ok (zA3.cons N) mixed (zA3.i3 N) (fun d kn kx => zA3.h3 N d kn kx)
theorem zA3.ls (N : Nat) : LoopsOk Tryz.prog (zA3.cfg N) (fnBody Tryz.f95) := loopsL (l := [nthLoop (fnBody Tryz.f95) 0, nthLoop (fnBody Tryz.f95) 1]) (by kernel_rfl) ⟨loopOne (L0 := loopCon N zA3.sk3 zA3.xs3 (fun {R} => zA3.l3 (R := R) N)) (id := 3) (by kernel_rfl) (by kernel_rfl) (zA3.o3 N), ⟨loopOne (L0 := loopCon N zA3.sk11 zA3.xs11 (fun {R} => zA3.l11 (R := R) N)) (id := 11) (by kernel_rfl) (by kernel_rfl) (zA3.o11 N), trivial⟩⟩
theorem zA3.q11 {R R' : Type} {N n : Nat} {d} {k} {g : R → Option R'} : bindF (loopP (zA3.l11 N) n d k) g = loopP (zA3.l11 N) n d fun e => bindF (k e) g := bindF_loopP (fun d kn kx => by simp only [zA3.l11, bindF_ifB, bindF_bindO, bindF_pure, bindF_none, bindF_onSum]) n d k
theorem zA3.q3 {R R' : Type} {N n : Nat} {d} {k} {g : R → Option R'} : bindF (loopP (zA3.l3 N) n d k) g = loopP (zA3.l3 N) n d fun e => bindF (k e) g := bindF_loopP (fun d kn kx => by simp only [zA3.l3, bindF_ifB, bindF_bindO, bindF_pure, bindF_none, bindF_onSum]) n d k
theorem zA3.b (N : Nat) (x0 : den s26) : body (zA3.cfg N) N Tryz.f95 [.one] [.v] [(false, (.own .imm))] [⟨s26, .imm, x0⟩] (fun r i => some (r, i)) = bindO (zA3 N x0) fun r => some ([⟨s23, (.own .imm), r⟩], []) := by
  show _ = bindF _ _
  conv => rhs; simp only [zA3, bindF_ifB, bindF_bindO, bindF_pure, bindF_none, bindF_onSum, zA3.q3, zA3.q11]
  kernel_rfl
theorem zA3.ok (N : Nat) : ConOk Tryz.prog 95 [.one] (zA3.con N) := ok1 (g := zA3.cfg N) (N := N) (res := [(false, (.own .imm))]) tys_ok (zA3.cons N) mixed Tryz.func95 (zA3.ls N) rfl (zA3.b N)
theorem zA3.det (N : Nat) : ConDet (zA3.con N) := det1
def zBZ.con (N : Nat) : Con := { modes := [.v, .rd, .rd, .rd], ptrs := [false], fn := fn4 (.int .i64) .imm (.int .i64) .imm (.int .i64) .imm (.int .i64) .imm (zBZ N) (fun r => [⟨(.int .i64), .imm, r⟩]) (fun r => []) }
def zBZ.cfg (N : Nat) : Cfg := { ty := tys, keep := [], flt := [], elm := elm0, live := [], ord := [], con := [], loops := [], joins := [] }
theorem zBZ.cons (N : Nat) : ConsOk Tryz.prog (zBZ.cfg N).con := consOk_nil
theorem zBZ.ls (N : Nat) : LoopsOk Tryz.prog (zBZ.cfg N) (fnBody Tryz.f94) := loopsL (l := []) (by kernel_rfl) trivial
theorem zBZ.b (N : Nat) (x0 : den (.int .i64)) (x1 : den (.int .i64)) (x2 : den (.int .i64)) (x3 : den (.int .i64)) : body (zBZ.cfg N) N Tryz.f94 [.one] [.v, .rd, .rd, .rd] [(false, .imm)] [⟨(.int .i64), .imm, x0⟩, ⟨(.int .i64), .imm, x1⟩, ⟨(.int .i64), .imm, x2⟩, ⟨(.int .i64), .imm, x3⟩] (fun r i => some (r, i)) = bindO (zBZ N x0 x1 x2 x3) fun r => some ([⟨(.int .i64), .imm, r⟩], []) := by
  show _ = bindF _ _
  conv => rhs; simp only [zBZ, bindF_ifB, bindF_bindO, bindF_pure, bindF_none, bindF_onSum]
  kernel_rfl
theorem zBZ.ok (N : Nat) : ConOk Tryz.prog 94 [.one] (zBZ.con N) := ok4 (g := zBZ.cfg N) (N := N) (res := [(false, .imm)]) tys_ok (zBZ.cons N) mixed Tryz.func94 (zBZ.ls N) rfl (zBZ.b N)
theorem zBZ.det (N : Nat) : ConDet (zBZ.con N) := det4
def zC7.con (N : Nat) : Con := { modes := [.v, .v, .v, .v], ptrs := [false], fn := fn4 s24 .imm (.int .i64) .imm (.int .i64) .imm s23 .imm (zC7 N) (fun r => [⟨s88, (.pr (.pr (.own .imm) .imm) (.pr (.own .imm) .imm)), r⟩]) (fun r => []) }
def zC7.cfg (N : Nat) : Cfg := { ty := tys, keep := [23, 28, 35, 51, 55, 59, 72, 81], flt := [], elm := elm0, live := [], ord := [(1, [0, 1, 2, 3, 4, 5, 6, 7, 8, 9, 10, 11, 12, 13]), (3, [6, 0, 2, 3, 4, 1, 5, 7]), (4, [0, 1, 3, 2, 4, 5]), (7, [20, 0, 1, 2, 3, 4, 5, 6, 7, 8, 11, 12, 13, 15, 16, 17, 9, 10, 14, 18, 19, 21]), (9, [0, 1, 2, 3, 4, 5]), (10, [0, 1, 2, 3, 4, 5, 6, 7, 8])], con := [((53, [.one]), zAN.con N), ((95, [.one]), zA3.con N), ((94, [.one]), zBZ.con N), ((44, [.one]), zAB.con N)], loops := [], joins := [] }
theorem zC7.cons (N : Nat) : ConsOk Tryz.prog (zC7.cfg N).con := (consOk_cons (hb53) (zAN.ok N) (zAN.det N) (consOk_cons (hb95) (zA3.ok N) (zA3.det N) (consOk_cons (hb94) (zBZ.ok N) (zBZ.det N) (consOk_cons (hb44) (zAB.ok N) (zAB.det N) consOk_nil))))
theorem zC7.ls (N : Nat) : LoopsOk Tryz.prog (zC7.cfg N) (fnBody Tryz.f79) := loopsL (l := []) (by kernel_rfl) trivial
theorem zC7.b (N : Nat) (x0 : den s24) (x1 : den (.int .i64)) (x2 : den (.int .i64)) (x3 : den s23) : body (zC7.cfg N) N Tryz.f79 [.one, .one, .one, .one] [.v, .v, .v, .v] [(false, (.pr (.pr (.own .imm) .imm) (.pr (.own .imm) .imm)))] [⟨s24, .imm, x0⟩, ⟨(.int .i64), .imm, x1⟩, ⟨(.int .i64), .imm, x2⟩, ⟨s23, .imm, x3⟩] (fun r i => some (r, i)) = bindO (zC7 N x0 x1 x2 x3) fun r => some ([⟨s88, (.pr (.pr (.own .imm) .imm) (.pr (.own .imm) .imm)), r⟩], []) := by
  show _ = bindF _ _
  conv => rhs; simp only [zC7, bindF_ifB, bindF_bindO, bindF_pure, bindF_none, bindF_onSum]
  kernel_rfl
theorem zC7.ok (N : Nat) : ConOk Tryz.prog 79 [.one, .one, .one, .one] (zC7.con N) := ok4 (g := zC7.cfg N) (N := N) (res := [(false, (.pr (.pr (.own .imm) .imm) (.pr (.own .imm) .imm)))]) tys_ok (zC7.cons N) mixed Tryz.func79 (zC7.ls N) rfl (zC7.b N)
theorem zC7.det (N : Nat) : ConDet (zC7.con N) := det4
def zC4.con (N : Nat) : Con := { modes := [.io, .v, .v, .v], ptrs := [], fn := fn4 s31 (.pr (.pr (.own .imm) .imm) (.pr (.pr (.own (.own .imm)) .imm) .imm)) (.int .i64) .imm (.int .i64) .imm .bool .imm (zC4 N) (fun r => []) (fun r => [⟨s31, (.pr (.pr (.own .imm) .imm) (.pr (.pr (.own (.own .imm)) .imm) .imm)), r⟩]) }
def zC4.cfg (N : Nat) : Cfg := { ty := tys, keep := [24, 36], flt := [], elm := elm0, live := [], ord := [(1, [0, 1, 2, 3, 4, 5, 6, 7, 8, 9, 10, 11, 12, 13, 14, 15, 16])], con := [((78, [.one, .one]), zCW.con N), ((79, [.one, .one, .one, .one]), zC7.con N)], loops := [], joins := [] }
theorem zC4.cons (N : Nat) : ConsOk Tryz.prog (zC4.cfg N).con := (consOk_cons (hb78) (zCW.ok N) (zCW.det N) (consOk_cons (hb79) (zC7.ok N) (zC7.det N) consOk_nil))
theorem zC4.ls (N : Nat) : LoopsOk Tryz.prog (zC4.cfg N) (fnBody Tryz.f52) := loopsL (l := []) (by kernel_rfl) trivial
theorem zC4.b (N : Nat) (x0 : den s31) (x1 : den (.int .i64)) (x2 : den (.int .i64)) (x3 : den .bool) : body (zC4.cfg N) N Tryz.f52 [.one, .one, .one, .one] [.io, .v, .v, .v] [] [⟨s31, (.pr (.pr (.own .imm) .imm) (.pr (.pr (.own (.own .imm)) .imm) .imm)), x0⟩, ⟨(.int .i64), .imm, x1⟩, ⟨(.int .i64), .imm, x2⟩, ⟨.bool, .imm, x3⟩] (fun r i => some (r, i)) = bindO (zC4 N x0 x1 x2 x3) fun r => some ([], [⟨s31, (.pr (.pr (.own .imm) .imm) (.pr (.pr (.own (.own .imm)) .imm) .imm)), r⟩]) := by
  show _ = bindF _ _
  conv => rhs; simp only [zC4, bindF_ifB, bindF_bindO, bindF_pure, bindF_none, bindF_onSum]
  kernel_rfl
theorem zC4.ok (N : Nat) : ConOk Tryz.prog 52 [.one, .one, .one, .one] (zC4.con N) := ok4 (g := zC4.cfg N) (N := N) (res := []) tys_ok (zC4.cons N) mixed Tryz.func52 (zC4.ls N) rfl (zC4.b N)
theorem zC4.det (N : Nat) : ConDet (zC4.con N) := det4
def zCH.con (N : Nat) : Con := { modes := [.v, .v], ptrs := [false], fn := fn2 s27 .imm s24 .imm (zCH N) (fun r => [⟨(.int .i64), .imm, r⟩]) (fun r => []) }
def zCH.cfg (N : Nat) : Cfg := { ty := tys, keep := [7, 11], flt := [], elm := elm0, live := [], ord := [], con := [((11, [.one]), zB8.con N), ((10, [.one]), zBD.con N)], loops := [], joins := [] }
theorem zCH.cons (N : Nat) : ConsOk Tryz.prog (zCH.cfg N).con := (consOk_cons (hb11) (zB8.ok N) (zB8.det N) (consOk_cons (hb10) (zBD.ok N) (zBD.det N) consOk_nil))
theorem zCH.ls (N : Nat) : LoopsOk Tryz.prog (zCH.cfg N) (fnBody Tryz.f80) := loopsL (l := []) (by kernel_rfl) trivial
theorem zCH.b (N : Nat) (x0 : den s27) (x1 : den s24) : body (zCH.cfg N) N Tryz.f80 [.one, .one] [.v, .v] [(false, .imm)] [⟨s27, .imm, x0⟩, ⟨s24, .imm, x1⟩] (fun r i => some (r, i)) = bindO (zCH N x0 x1) fun r => some ([⟨(.int .i64), .imm, r⟩], []) := by
  show _ = bindF _ _
  conv => rhs; simp only [zCH, bindF_ifB, bindF_bindO, bindF_pure, bindF_none, bindF_onSum]
  kernel_rfl
theorem zCH.ok (N : Nat) : ConOk Tryz.prog 80 [.one, .one] (zCH.con N) := ok2 (g := zCH.cfg N) (N := N) (res := [(false, .imm)]) tys_ok (zCH.cons N) mixed Tryz.func80 (zCH.ls N) rfl (zCH.b N)
theorem zCH.det (N : Nat) : ConDet (zCH.con N) := det2
def zCG.con (N : Nat) : Con := { modes := [.v, .v], ptrs := [false], fn := fn2 s27 .imm s24 .imm (zCG N) (fun r => [⟨s78, (.pr (.pr (.own .imm) .imm) .imm), r⟩]) (fun r => []) }
def zCG.cfg (N : Nat) : Cfg := { ty := tys, keep := [10, 27, 41], flt := [], elm := elm0, live := [], ord := [(8, [0, 1, 2, 3, 4, 5, 6, 7, 8, 9, 10])], con := [((80, [.one, .one]), zCH.con N), ((79, [.one, .one, .one, .one]), zC7.con N), ((53, [.one]), zAN.con N)], loops := [], joins := [] }
theorem zCG.cons (N : Nat) : ConsOk Tryz.prog (zCG.cfg N).con := (consOk_cons (hb80) (zCH.ok N) (zCH.det N) (consOk_cons (hb79) (zC7.ok N) (zC7.det N) (consOk_cons (hb53) (zAN.ok N) (zAN.det N) consOk_nil)))
theorem zCG.ls (N : Nat) : LoopsOk Tryz.prog (zCG.cfg N) (fnBody Tryz.f54) := loopsL (l := []) (by kernel_rfl) trivial
theorem zCG.b (N : Nat) (x0 : den s27) (x1 : den s24) : body (zCG.cfg N) N Tryz.f54 [.one, .one] [.v, .v] [(false, (.pr (.pr (.own .imm) .imm) .imm))] [⟨s27, .imm, x0⟩, ⟨s24, .imm, x1⟩] (fun r i => some (r, i)) = bindO (zCG N x0 x1) fun r => some ([⟨s78, (.pr (.pr (.own .imm) .imm) .imm), r⟩], []) := by
  show _ = bindF _ _
  conv => rhs; simp only [zCG, bindF_ifB, bindF_bindO, bindF_pure, bindF_none, bindF_onSum]
  kernel_rfl
theorem zCG.ok (N : Nat) : ConOk Tryz.prog 54 [.one, .one] (zCG.con N) := ok2 (g := zCG.cfg N) (N := N) (res := [(false, (.pr (.pr (.own .imm) .imm) .imm))]) tys_ok (zCG.cons N) mixed Tryz.func54 (zCG.ls N) rfl (zCG.b N)
theorem zCG.det (N : Nat) : ConDet (zCG.con N) := det2
end Go.AE.F
end
