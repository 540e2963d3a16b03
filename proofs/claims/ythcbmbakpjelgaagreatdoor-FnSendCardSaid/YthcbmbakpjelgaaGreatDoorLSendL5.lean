/- The printed functions are what the program comes to: contracts. -/
import Derived.Test.YthcbmbakpjelgaaGreatDoorLSendL4
noncomputable section
namespace Go.AE.F
open Go.AE Go.Proofs Go.Lib
set_option maxRecDepth 100000
def zA0.sk4:Skel:=⟨dd 1 (.pv s23::(.fn 45 []::(dd 12 (.pv s23::(.pv (.int .i64)::(.pv (.int .i64)::(dd 14 []))))))),[]⟩
def zA0.xs4:List XS:=[⟨.exit 0,[],⟨dd 32 [],[]⟩⟩,⟨.ret,[6],⟨dd 6 (.pv .bool::(dd 25 [])),[]⟩⟩]
def zA0.con (N:Nat):Con:={ modes:=[.v,.v],ptrs:=[false],fn:=fn2 s23 .imm s23 .imm (zA0 N) (fun r=>[⟨.bool,.imm,r⟩]) (fun r=>[]) }
def zA0.cfg (N:Nat):Cfg:={ ty:=tys,keep:=[29],flt:=[],elm:=elm0,live:=[(4,[1,2,15,16,17])],ord:=[],con:=[((45,[.one,.one]),zBY.con N)],loops:=[(4,loopCon N zA0.sk4 zA0.xs4 (fun {R}=>zA0.l4 (R:=R) N))],joins:=[] }
theorem zA0.cons (N:Nat):ConsOk Tryz.prog TB (zA0.cfg N).con:=(consOk_cons (hb45) (zBY.ok N) (zBY.det N) consOk_nil)
theorem zA0.h4 {R:Type} (N:Nat) (d:zA0.sk4.D) (kn:zA0.sk4.D->Option R) (kx:XD zA0.xs4->Option R):roundK (zA0.cfg N) N (nthLoop (fnBody Tryz.f44) 0) zA0.sk4 zA0.xs4 d kn kx=zA0.l4 N d kn kx:=by kernel_rfl
theorem zA0.i4 (N:Nat):LoopsOk Tryz.prog TB (zA0.cfg N) (nthLoop (fnBody Tryz.f44) 0):=loopsL (l:=[]) (by kernel_rfl) trivial
theorem zA0.o4 (N:Nat):LoopOk Tryz.prog TB (nthLoop (fnBody Tryz.f44) 0) (loopCon N zA0.sk4 zA0.xs4 (fun {R}=>zA0.l4 (R:=R) N)):=loop_ok (g:=zA0.cfg N) tys_ok (zA0.cons N) mixed (zA0.i4 N) (fun d kn kx=>zA0.h4 N d kn kx)
theorem zA0.ls (N:Nat):LoopsOk Tryz.prog TB (zA0.cfg N) (fnBody Tryz.f44):=loopsL (l:=[nthLoop (fnBody Tryz.f44) 0]) (by kernel_rfl) ⟨loopOne (L0:=loopCon N zA0.sk4 zA0.xs4 (fun {R}=>zA0.l4 (R:=R) N)) (id:=4) (by kernel_rfl) (by kernel_rfl) (zA0.o4 N),trivial⟩
theorem zA0.q4 {R R':Type} {N n:Nat} {d} {k} {g:R->Option R'}:bindF (loopP (zA0.l4 N) n d k) g=loopP (zA0.l4 N) n d fun e=>bindF (k e) g:=bindF_loopP (fun d kn kx=>by simp only [zA0.l4,bindF_ifB,bindF_bindO,bindF_pure,bindF_none,bindF_onSum]) n d k
theorem zA0.b (N:Nat) (x0:den s23) (x1:den s23):body (zA0.cfg N) N Tryz.f44 [.one,.one,.fn 45 0] [.v,.v] [(false,.imm)] [⟨s23,.imm,x0⟩,⟨s23,.imm,x1⟩] (fun r i=>some (r,i))=bindO (zA0 N x0 x1) fun r=>some ([⟨.bool,.imm,r⟩],[]):=by
 show _=bindF _ _
 conv=>rhs;simp only [zA0,bindF_ifB,bindF_bindO,bindF_pure,bindF_none,bindF_onSum,zA0.q4]
 kernel_rfl
theorem zA0.ok (N:Nat):ConOk Tryz.prog TB 44 [.one,.one,.fn 45 0] (zA0.con N):=ok2 (g:=zA0.cfg N) (N:=N) (res:=[(false,.imm)]) tys_ok (zA0.cons N) mixed Tryz.func44 (zA0.ls N) rfl (zA0.b N)
theorem zA0.det (N:Nat):ConDet (zA0.con N):=det2
def zC8.con (N:Nat):Con:={ modes:=[.v,.v],ptrs:=[false],fn:=fn2 s23 .imm s23 .imm (zC8 N) (fun r=>[⟨.bool,.imm,r⟩]) (fun r=>[]) }
def zC8.cfg (N:Nat):Cfg:={ ty:=tys,keep:=[7],flt:=[],elm:=elm0,live:=[],ord:=[],con:=[((44,[.one,.one,.fn 45 0]),zA0.con N)],loops:=[],joins:=[] }
theorem zC8.cons (N:Nat):ConsOk Tryz.prog TB (zC8.cfg N).con:=(consOk_cons (hb44) (zA0.ok N) (zA0.det N) consOk_nil)
theorem zC8.ls (N:Nat):LoopsOk Tryz.prog TB (zC8.cfg N) (fnBody Tryz.f15):=loopsL (l:=[]) (by kernel_rfl) trivial
theorem zC8.b (N:Nat) (x0:den s23) (x1:den s23):body (zC8.cfg N) N Tryz.f15 [.one,.one] [.v,.v] [(false,.imm)] [⟨s23,.imm,x0⟩,⟨s23,.imm,x1⟩] (fun r i=>some (r,i))=bindO (zC8 N x0 x1) fun r=>some ([⟨.bool,.imm,r⟩],[]):=by
 show _=bindF _ _
 conv=>rhs;simp only [zC8,bindF_ifB,bindF_bindO,bindF_pure,bindF_none,bindF_onSum]
 kernel_rfl
theorem zC8.ok (N:Nat):ConOk Tryz.prog TB 15 [.one,.one] (zC8.con N):=ok2 (g:=zC8.cfg N) (N:=N) (res:=[(false,.imm)]) tys_ok (zC8.cons N) mixed Tryz.func15 (zC8.ls N) rfl (zC8.b N)
theorem zC8.det (N:Nat):ConDet (zC8.con N):=det2
def zBI.con (N:Nat):Con:={ modes:=[.v],ptrs:=[false],fn:=fn1 (.int .i64) .imm (zBI N) (fun r=>[⟨.str,.imm,r⟩]) (fun r=>[]) }
def zBI.cfg (N:Nat):Cfg:={ ty:=tys,keep:=[],flt:=[],elm:=elm0,live:=[],ord:=[],con:=[],loops:=[],joins:=[] }
theorem zBI.cons (N:Nat):ConsOk Tryz.prog TB (zBI.cfg N).con:=consOk_nil
theorem zBI.ls (N:Nat):LoopsOk Tryz.prog TB (zBI.cfg N) (fnBody Tryz.f104):=loopsL (l:=[]) (by kernel_rfl) trivial
theorem zBI.b (N:Nat) (x0:den (.int .i64)):body (zBI.cfg N) N Tryz.f104 [.one] [.v] [(false,.imm)] [⟨(.int .i64),.imm,x0⟩] (fun r i=>some (r,i))=bindO (zBI N x0) fun r=>some ([⟨.str,.imm,r⟩],[]):=by
 show _=bindF _ _
 conv=>rhs;simp only [zBI,bindF_ifB,bindF_bindO,bindF_pure,bindF_none,bindF_onSum]
 kernel_rfl
theorem zBI.ok (N:Nat):ConOk Tryz.prog TB 104 [.one] (zBI.con N):=ok1 (g:=zBI.cfg N) (N:=N) (res:=[(false,.imm)]) tys_ok (zBI.cons N) mixed Tryz.func104 (zBI.ls N) rfl (zBI.b N)
theorem zBI.det (N:Nat):ConDet (zBI.con N):=det1
def zB6.con (N:Nat):Con:={ modes:=[.v,.v],ptrs:=[false],fn:=fn2 (.int .i64) .imm (.int .i64) .imm (zB6 N) (fun r=>[⟨.str,.imm,r⟩]) (fun r=>[]) }
def zB6.cfg (N:Nat):Cfg:={ ty:=tys,keep:=[19,27,32,50],flt:=[],elm:=elm0,live:=[],ord:=[],con:=[((104,[.one]),zBI.con N)],loops:=[],joins:=[] }
theorem zB6.cons (N:Nat):ConsOk Tryz.prog TB (zB6.cfg N).con:=(consOk_cons (hb104) (zBI.ok N) (zBI.det N) consOk_nil)
theorem zB6.ls (N:Nat):LoopsOk Tryz.prog TB (zB6.cfg N) (fnBody Tryz.f95):=loopsL (l:=[]) (by kernel_rfl) trivial
theorem zB6.b (N:Nat) (x0:den (.int .i64)) (x1:den (.int .i64)):body (zB6.cfg N) N Tryz.f95 [.one,.one] [.v,.v] [(false,.imm)] [⟨(.int .i64),.imm,x0⟩,⟨(.int .i64),.imm,x1⟩] (fun r i=>some (r,i))=bindO (zB6 N x0 x1) fun r=>some ([⟨.str,.imm,r⟩],[]):=by
 show _=bindF _ _
 conv=>rhs;simp only [zB6,bindF_ifB,bindF_bindO,bindF_pure,bindF_none,bindF_onSum]
 kernel_rfl
theorem zB6.ok (N:Nat):ConOk Tryz.prog TB 95 [.one,.one] (zB6.con N):=ok2 (g:=zB6.cfg N) (N:=N) (res:=[(false,.imm)]) tys_ok (zB6.cons N) mixed Tryz.func95 (zB6.ls N) rfl (zB6.b N)
theorem zB6.det (N:Nat):ConDet (zB6.con N):=det2
def zC5.con (N:Nat):Con:={ modes:=[.v,.v],ptrs:=[false],fn:=fn2 (.int .i64) .imm (.int .i64) .imm (zC5 N) (fun r=>[⟨.str,.imm,r⟩]) (fun r=>[]) }
def zC5.cfg (N:Nat):Cfg:={ ty:=tys,keep:=[7],flt:=[],elm:=elm0,live:=[],ord:=[],con:=[((95,[.one,.one]),zB6.con N)],loops:=[],joins:=[] }
theorem zC5.cons (N:Nat):ConsOk Tryz.prog TB (zC5.cfg N).con:=(consOk_cons (hb95) (zB6.ok N) (zB6.det N) consOk_nil)
theorem zC5.ls (N:Nat):LoopsOk Tryz.prog TB (zC5.cfg N) (fnBody Tryz.f76):=loopsL (l:=[]) (by kernel_rfl) trivial
theorem zC5.b (N:Nat) (x0:den (.int .i64)) (x1:den (.int .i64)):body (zC5.cfg N) N Tryz.f76 [.one,.one] [.v,.v] [(false,.imm)] [⟨(.int .i64),.imm,x0⟩,⟨(.int .i64),.imm,x1⟩] (fun r i=>some (r,i))=bindO (zC5 N x0 x1) fun r=>some ([⟨.str,.imm,r⟩],[]):=by
 show _=bindF _ _
 conv=>rhs;simp only [zC5,bindF_ifB,bindF_bindO,bindF_pure,bindF_none,bindF_onSum]
 kernel_rfl
theorem zC5.ok (N:Nat):ConOk Tryz.prog TB 76 [.one,.one] (zC5.con N):=ok2 (g:=zC5.cfg N) (N:=N) (res:=[(false,.imm)]) tys_ok (zC5.cons N) mixed Tryz.func76 (zC5.ls N) rfl (zC5.b N)
theorem zC5.det (N:Nat):ConDet (zC5.con N):=det2
def zA9.con (N:Nat):Con:={ modes:=[.v],ptrs:=[false],fn:=fn1 (.int .i64) .imm (zA9 N) (fun r=>[⟨.str,.imm,r⟩]) (fun r=>[]) }
def zA9.cfg (N:Nat):Cfg:={ ty:=tys,keep:=[4],flt:=[],elm:=elm0,live:=[],ord:=[],con:=[((76,[.one,.one]),zC5.con N)],loops:=[],joins:=[] }
theorem zA9.cons (N:Nat):ConsOk Tryz.prog TB (zA9.cfg N).con:=(consOk_cons (hb76) (zC5.ok N) (zC5.det N) consOk_nil)
theorem zA9.ls (N:Nat):LoopsOk Tryz.prog TB (zA9.cfg N) (fnBody Tryz.f48):=loopsL (l:=[]) (by kernel_rfl) trivial
theorem zA9.b (N:Nat) (x0:den (.int .i64)):body (zA9.cfg N) N Tryz.f48 [.one] [.v] [(false,.imm)] [⟨(.int .i64),.imm,x0⟩] (fun r i=>some (r,i))=bindO (zA9 N x0) fun r=>some ([⟨.str,.imm,r⟩],[]):=by
 show _=bindF _ _
 conv=>rhs;simp only [zA9,bindF_ifB,bindF_bindO,bindF_pure,bindF_none,bindF_onSum]
 kernel_rfl
theorem zA9.ok (N:Nat):ConOk Tryz.prog TB 48 [.one] (zA9.con N):=ok1 (g:=zA9.cfg N) (N:=N) (res:=[(false,.imm)]) tys_ok (zA9.cons N) mixed Tryz.func48 (zA9.ls N) rfl (zA9.b N)
theorem zA9.det (N:Nat):ConDet (zA9.con N):=det1
def zCV.con (N:Nat):Con:={ modes:=[.v,.v],ptrs:=[false],fn:=fn2 (.int .i64) .imm (.int .i64) .imm (zCV N) (fun r=>[⟨.str,.imm,r⟩]) (fun r=>[]) }
def zCV.cfg (N:Nat):Cfg:={ ty:=tys,keep:=[7,12],flt:=[],elm:=elm0,live:=[],ord:=[],con:=[((48,[.one]),zA9.con N)],loops:=[],joins:=[] }
theorem zCV.cons (N:Nat):ConsOk Tryz.prog TB (zCV.cfg N).con:=(consOk_cons (hb48) (zA9.ok N) (zA9.det N) consOk_nil)
theorem zCV.ls (N:Nat):LoopsOk Tryz.prog TB (zCV.cfg N) (fnBody Tryz.f19):=loopsL (l:=[]) (by kernel_rfl) trivial
theorem zCV.b (N:Nat) (x0:den (.int .i64)) (x1:den (.int .i64)):body (zCV.cfg N) N Tryz.f19 [.one,.one] [.v,.v] [(false,.imm)] [⟨(.int .i64),.imm,x0⟩,⟨(.int .i64),.imm,x1⟩] (fun r i=>some (r,i))=bindO (zCV N x0 x1) fun r=>some ([⟨.str,.imm,r⟩],[]):=by
 show _=bindF _ _
 conv=>rhs;simp only [zCV,bindF_ifB,bindF_bindO,bindF_pure,bindF_none,bindF_onSum]
 kernel_rfl
theorem zCV.ok (N:Nat):ConOk Tryz.prog TB 19 [.one,.one] (zCV.con N):=ok2 (g:=zCV.cfg N) (N:=N) (res:=[(false,.imm)]) tys_ok (zCV.cons N) mixed Tryz.func19 (zCV.ls N) rfl (zCV.b N)
theorem zCV.det (N:Nat):ConDet (zCV.con N):=det2
set_option maxHeartbeats 1000000 in
set_option maxRecDepth 100000 in
theorem blt_cc_used (b:Nat) (w:World) (h0:w.cell? ⟨b,0,none⟩=some (.pointer (some ⟨b,0,none⟩))) :
  Calls Tryz.prog 47 #[.pointer (some ⟨b,0,none⟩)] w fun e w'=>e=.returned (.tuple #[])/\w'=w:=by
 have hj0:(Tryz.prog.info? 39).map (·.size)=some 2:=by kernel_rfl
 obtain ⟨j,hj,_⟩:=Option.map_eq_some_iff.1 hj0
 have mixed:=mixed
 go_enter Tryz.func47,Tryz.ntmps47
 go_wp2
 rw [Go.Lib.run_neq_ptr_same w _ Tryz.underlying37 hj]
 go_wp2
 go_end0
 exact ⟨rfl,rfl⟩
set_option maxHeartbeats 1000000 in
set_option maxRecDepth 100000 in
theorem blt_cc_fresh (b:Nat) (w:World) (h0:w.cell? ⟨b,0,none⟩=some (.pointer none)) (hsh:w.shape? b=some (39,2)) (hfz:w.frozen? ⟨b,0,none⟩=false) :
  Calls Tryz.prog 47 #[.pointer (some ⟨b,0,none⟩)] w fun e w'=>e=.returned (.tuple #[])/\w'=w.setCell ⟨b,0,none⟩ (.pointer (some ⟨b,0,none⟩)):=by
 have hj0:(Tryz.prog.info? 39).map (·.size)=some 2:=by kernel_rfl
 have hlies:liesAt Tryz.prog Tryz.prog.depth 39 (2 / Tryz.prog.cellsOf 39) 0 39 1=true:=by kernel_rfl
 obtain ⟨j,hj,hjs⟩:=Option.map_eq_some_iff.1 hj0
 have mixed:=mixed
 go_enter Tryz.func47,Tryz.ntmps47
 go_wp2
 rw [Go.Lib.run_to_unsafe w ⟨b,0,none⟩ Tryz.underlying37 Tryz.underlying107 hj (by rw [hjs];decide) hsh (Nat.zero_lt_succ 1)]
 simp only [Result.andThen]
 rw [Oper.upon_value]
 go_wp2
 rw [run_callFunc_extern Tryz.func75 (by kernel_rfl) (by kernel_rfl) (by kernel_rfl) (e:=Extern.AbiNoEscape.same) (by kernel_rfl)]
 rw [Go.Lib.run_noEscape]
 simp only [Result.andThen]
 rw [Oper.upon_value]
 go_wp2
 rw [Go.Lib.run_from_unsafe w ⟨b,0,none⟩ Tryz.underlying107 Tryz.underlying37 hj hsh hlies]
 simp only [Result.andThen]
 rw [Oper.upon_value]
 go_wp2
 go_end0
 exact ⟨rfl,rfl⟩
theorem blt_cc (m:Hp) (w:World) (b:Nat) (p:Value) (ad:Option Addr) (cap:Nat) (xs:List Int) (hR:Hp) (I:BltIn m w 39 5 b p ad cap xs hR) :
  Calls Tryz.prog 47 #[self b] w fun e w'=>e=.returned (.tuple #[])/\BltIn m w' 39 5 b (self b) ad cap xs hR/\Mod (blk b 0 [undef,undef]) w w':=by
 rcases I.p with h | h
 ·subst h
  refine (blt_cc_fresh b w I.c0 I.shp (I.nf.at I.c0)).mono ?_
  rintro e w' ⟨rfl,rfl⟩
  exact ⟨rfl,I.checked (.inr ⟨rfl,rfl⟩)⟩
 ·subst h
  refine (blt_cc_used b w I.c0).mono ?_
  rintro e w' ⟨rfl,rfl⟩
  exact ⟨rfl,I.checked (.inl ⟨rfl,rfl⟩)⟩
set_option maxHeartbeats 2000000 in
set_option maxRecDepth 100000 in
theorem strings_Builder_WriteString.run:BltRun Tryz.prog 16 39 5 0:=by
 intro m w b p ad cap xs hR s I hfit
 have mixed:=mixed
 have ht:typeOk Tryz.prog 22 s22=true:=by kernel_rfl
 unfold self
 go_enter Tryz.func16,Tryz.ntmps16
 go_wp2_with (go_at_call 47;refine (blt_cc m w b p ad cap xs hR I).mono ?_)
 rintro e w1 ⟨rfl,I1,M1⟩
 have c0:=I1.c0
 have c1:=I1.c1
 obtain ⟨ad',cap',w2,hR',hrun,k0,k1,kf,M2,I2,dom,wh⟩:=I1.append (P:=Tryz.prog) (ty:=22) ht Tryz.underlying9 hfit
 simp only [List.length_append] at hrun M2 I2
 go_wp2_with (at_builtin;refine Go.Lib.wpList_append_run _ rfl _ _ 22 9 rfl _ _ rfl rfl _ _ hrun ?_)
 go_wp2
 go_ret2
 refine ⟨_,ad',cap',hR',rfl,?_,I2,?_,?_⟩
 ·exact M1.un.trans M2
 ·intro k o h
  exact (dom k o h).imp id fun q=>Nat.le_trans M1.size q
 ·exact wh.imp id fun ⟨q1,g,q2,q3⟩=>⟨q1,g,q2,Nat.le_trans M1.size q3⟩
def strings_Builder_WriteString.con (N:Nat):Con:={ modes:=[],ptrs:=[],bl:=some (39,5,0),fn:=fun _ _=>none }
theorem strings_Builder_WriteString.ok (N:Nat):ConOk Tryz.prog TB 16 [.one,.one] (strings_Builder_WriteString.con N):=⟨fun h=>(by cases h),fun b h=>(by injection h with h;subst h;exact ⟨Tryz.zeroValue39,strings_Builder_WriteString.run⟩)⟩
theorem strings_Builder_WriteString.det (N:Nat):ConDet (strings_Builder_WriteString.con N):=fun ds R k y h=>by cases h
def zAP.con (N:Nat):Con:={ modes:=[.tk,.v],ptrs:=[false],fn:=fn2 s22 (.own .imm) (.int .i32) .imm (zAP N) (fun r=>[⟨s22,(.own .imm),r⟩]) (fun r=>[]) }
def zAP.cfg (N:Nat):Cfg:={ ty:=tys,keep:=[],flt:=[],elm:=elm0,live:=[],ord:=[],con:=[],loops:=[],joins:=[] }
theorem zAP.cons (N:Nat):ConsOk Tryz.prog TB (zAP.cfg N).con:=consOk_nil
theorem zAP.ls (N:Nat):LoopsOk Tryz.prog TB (zAP.cfg N) (fnBody Tryz.f96):=loopsL (l:=[]) (by kernel_rfl) trivial
theorem zAP.b (N:Nat) (x0:den s22) (x1:den (.int .i32)):body (zAP.cfg N) N Tryz.f96 [.one,.one] [.tk,.v] [(false,(.own .imm))] [⟨s22,(.own .imm),x0⟩,⟨(.int .i32),.imm,x1⟩] (fun r i=>some (r,i))=bindO (zAP N x0 x1) fun r=>some ([⟨s22,(.own .imm),r⟩],[]):=by
 show _=bindF _ _
 conv=>rhs;simp only [zAP,bindF_ifB,bindF_bindO,bindF_pure,bindF_none,bindF_onSum]
 kernel_rfl
theorem zAP.ok (N:Nat):ConOk Tryz.prog TB 96 [.one,.one] (zAP.con N):=ok2 (g:=zAP.cfg N) (N:=N) (res:=[(false,(.own .imm))]) tys_ok (zAP.cons N) mixed Tryz.func96 (zAP.ls N) rfl (zAP.b N)
theorem zAP.det (N:Nat):ConDet (zAP.con N):=det2
def zBB.con (N:Nat):Con:={ modes:=[.tk,.v],ptrs:=[false],fn:=fn2 s22 (.own .imm) (.int .i32) .imm (zBB N) (fun r=>[⟨s22,(.own .imm),r⟩]) (fun r=>[]) }
def zBB.cfg (N:Nat):Cfg:={ ty:=tys,keep:=[15],flt:=[],elm:=elm0,live:=[],ord:=[],con:=[((96,[.one,.one]),zAP.con N)],loops:=[],joins:=[] }
theorem zBB.cons (N:Nat):ConsOk Tryz.prog TB (zBB.cfg N).con:=(consOk_cons (hb96) (zAP.ok N) (zAP.det N) consOk_nil)
theorem zBB.ls (N:Nat):LoopsOk Tryz.prog TB (zBB.cfg N) (fnBody Tryz.f77):=loopsL (l:=[]) (by kernel_rfl) trivial
theorem zBB.b (N:Nat) (x0:den s22) (x1:den (.int .i32)):body (zBB.cfg N) N Tryz.f77 [.one,.one] [.tk,.v] [(false,(.own .imm))] [⟨s22,(.own .imm),x0⟩,⟨(.int .i32),.imm,x1⟩] (fun r i=>some (r,i))=bindO (zBB N x0 x1) fun r=>some ([⟨s22,(.own .imm),r⟩],[]):=by
 show _=bindF _ _
 conv=>rhs;simp only [zBB,bindF_ifB,bindF_bindO,bindF_pure,bindF_none,bindF_onSum]
 kernel_rfl
theorem zBB.ok (N:Nat):ConOk Tryz.prog TB 77 [.one,.one] (zBB.con N):=ok2 (g:=zBB.cfg N) (N:=N) (res:=[(false,(.own .imm))]) tys_ok (zBB.cons N) mixed Tryz.func77 (zBB.ls N) rfl (zBB.b N)
theorem zBB.det (N:Nat):ConDet (zBB.con N):=det2
def zB9.sk3:Skel:=⟨dd 3 (.ov 50 []::(dd 3 (.pv s49::(.pv (.int .i64)::(.pv (.int .i64)::(dd 10 [])))))),[⟨50,s22,(.own .imm),false,false⟩]⟩
def zB9.xs3:List XS:=[⟨.exit 0,[3],⟨dd 3 (.ov 50 []::(dd 16 [])),[⟨50,s22,(.own .imm),false,false⟩]⟩⟩]
def zB9.con (N:Nat):Con:={ modes:=[.v],ptrs:=[false],fn:=fn1 s49 .imm (zB9 N) (fun r=>[⟨.str,.imm,r⟩]) (fun r=>[]) }
def zB9.cfg (N:Nat):Cfg:={ ty:=tys,keep:=[16],flt:=[],elm:=elm0,live:=[(3,[3,7,8,9])],ord:=[],con:=[((77,[.one,.one]),zBB.con N)],loops:=[(3,loopCon N zB9.sk3 zB9.xs3 (fun {R}=>zB9.l3 (R:=R) N))],joins:=[] }
theorem zB9.cons (N:Nat):ConsOk Tryz.prog TB (zB9.cfg N).con:=(consOk_cons (hb77) (zBB.ok N) (zBB.det N) consOk_nil)
theorem zB9.h3 {R:Type} (N:Nat) (d:zB9.sk3.D) (kn:zB9.sk3.D->Option R) (kx:XD zB9.xs3->Option R):roundK (zB9.cfg N) N (nthLoop (fnBody Tryz.f49) 0) zB9.sk3 zB9.xs3 d kn kx=zB9.l3 N d kn kx:=by kernel_rfl
theorem zB9.i3 (N:Nat):LoopsOk Tryz.prog TB (zB9.cfg N) (nthLoop (fnBody Tryz.f49) 0):=loopsL (l:=[]) (by kernel_rfl) trivial
theorem zB9.o3 (N:Nat):LoopOk Tryz.prog TB (nthLoop (fnBody Tryz.f49) 0) (loopCon N zB9.sk3 zB9.xs3 (fun {R}=>zB9.l3 (R:=R) N)):=loop_ok (g:=zB9.cfg N) tys_ok (zB9.cons N) mixed (zB9.i3 N) (fun d kn kx=>zB9.h3 N d kn kx)
theorem zB9.ls (N:Nat):LoopsOk Tryz.prog TB (zB9.cfg N) (fnBody Tryz.f49):=loopsL (l:=[nthLoop (fnBody Tryz.f49) 0]) (by kernel_rfl) ⟨loopOne (L0:=loopCon N zB9.sk3 zB9.xs3 (fun {R}=>zB9.l3 (R:=R) N)) (id:=3) (by kernel_rfl) (by kernel_rfl) (zB9.o3 N),trivial⟩
theorem zB9.q3 {R R':Type} {N n:Nat} {d} {k} {g:R->Option R'}:bindF (loopP (zB9.l3 N) n d k) g=loopP (zB9.l3 N) n d fun e=>bindF (k e) g:=bindF_loopP (fun d kn kx=>by simp only [zB9.l3,bindF_ifB,bindF_bindO,bindF_pure,bindF_none,bindF_onSum]) n d k
theorem zB9.b (N:Nat) (x0:den s49):body (zB9.cfg N) N Tryz.f49 [.one] [.v] [(false,.imm)] [⟨s49,.imm,x0⟩] (fun r i=>some (r,i))=bindO (zB9 N x0) fun r=>some ([⟨.str,.imm,r⟩],[]):=by
 show _=bindF _ _
 conv=>rhs;simp only [zB9,bindF_ifB,bindF_bindO,bindF_pure,bindF_none,bindF_onSum,zB9.q3]
 kernel_rfl
theorem zB9.ok (N:Nat):ConOk Tryz.prog TB 49 [.one] (zB9.con N):=ok1 (g:=zB9.cfg N) (N:=N) (res:=[(false,.imm)]) tys_ok (zB9.cons N) mixed Tryz.func49 (zB9.ls N) rfl (zB9.b N)
theorem zB9.det (N:Nat):ConDet (zB9.con N):=det1
set_option maxHeartbeats 2000000 in
set_option maxRecDepth 100000 in
theorem strings_Builder_String.run:BltRun Tryz.prog 20 39 5 2:=by
 intro m w b p ad cap xs hR I
 have mixed:=mixed
 have hcb:Tryz.prog.cellsOf 5=1:=by kernel_rfl
 have c1:w.drew.cell? ⟨b,1,none⟩=some (.slice ad xs.length cap):=I.c1
 obtain ⟨q,w',hSD,hUS,S⟩:=I.string (P:=Tryz.prog) (tS:=22) (pt:=80) (it:=3) (ty:=80) (ty2:=9) Tryz.underlying80 hcb
 have hSD:=hSD w.drew
 unfold self
 go_enter Tryz.func20,Tryz.ntmps20
 go_wp2
 go_region_o
 all_goals (go_wp2;go_ret;exact ⟨rfl,S⟩)
def strings_Builder_String.con (N:Nat):Con:={ modes:=[],ptrs:=[],bl:=some (39,5,2),fn:=fun _ _=>none }
theorem strings_Builder_String.ok (N:Nat):ConOk Tryz.prog TB 20 [.one] (strings_Builder_String.con N):=⟨fun h=>(by cases h),fun b h=>(by injection h with h;subst h;exact ⟨Tryz.zeroValue39,strings_Builder_String.run⟩)⟩
theorem strings_Builder_String.det (N:Nat):ConDet (strings_Builder_String.con N):=fun ds R k y h=>by cases h
end Go.AE.F
end
