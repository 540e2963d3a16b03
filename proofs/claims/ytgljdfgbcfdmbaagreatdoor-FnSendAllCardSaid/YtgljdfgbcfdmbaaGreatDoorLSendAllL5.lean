/- The printed functions are what the program comes to: contracts. -/
import Derived.Test.YtgljdfgbcfdmbaaGreatDoorLSendAllL4
noncomputable section
namespace Go.AE.F
open Go.AE Go.Proofs Go.Lib
set_option maxRecDepth 100000
def zBW.con (N:Nat):Con:={ modes:=[.v,.v],ptrs:=[false],fn:=fn2 s41 .imm s41 .imm (zBW N) (fun r=>[⟨.bool,.imm,r⟩]) (fun r=>[]) }
def zBW.cfg (N:Nat):Cfg:={ ty:=tys,keep:=[15],flt:=[],elm:=elm0,live:=[],ord:=[],con:=[((57,[.one,.one]),zA3.con N)],loops:=[],joins:=[] }
theorem zBW.cons (N:Nat):ConsOk Tryz.prog TB (zBW.cfg N).con:=(consOk_cons (hb57) (zA3.ok N) (zA3.det N) consOk_nil)
theorem zBW.ls (N:Nat):LoopsOk Tryz.prog TB (zBW.cfg N) (fnBody Tryz.f56):=loopsL (l:=[]) (by kernel_rfl) trivial
theorem zBW.b (N:Nat) (x0:den s41) (x1:den s41):body (zBW.cfg N) N Tryz.f56 [.one,.one] [.v,.v] [(false,.imm)] [⟨s41,.imm,x0⟩,⟨s41,.imm,x1⟩] (fun r i=>some (r,i))=bindO (zBW N x0 x1) fun r=>some ([⟨.bool,.imm,r⟩],[]):=by
 show _=bindF _ _
 conv=>rhs;simp only [zBW,bindF_ifB,bindF_bindO,bindF_pure,bindF_none,bindF_onSum]
 kernel_rfl
theorem zBW.ok (N:Nat):ConOk Tryz.prog TB 56 [.one,.one] (zBW.con N):=ok2 (g:=zBW.cfg N) (N:=N) (res:=[(false,.imm)]) tys_ok (zBW.cons N) mixed Tryz.func56 (zBW.ls N) rfl (zBW.b N)
theorem zBW.det (N:Nat):ConDet (zBW.con N):=det2
def zA0.sk4:Skel:=⟨dd 1 (.pv s23::(.fn 56 []::(dd 12 (.pv s23::(.pv (.int .i64)::(.pv (.int .i64)::(dd 14 []))))))),[]⟩
def zA0.xs4:List XS:=[⟨.exit 0,[],⟨dd 32 [],[]⟩⟩,⟨.ret,[6],⟨dd 6 (.pv .bool::(dd 25 [])),[]⟩⟩]
def zA0.con (N:Nat):Con:={ modes:=[.v,.v],ptrs:=[false],fn:=fn2 s23 .imm s23 .imm (zA0 N) (fun r=>[⟨.bool,.imm,r⟩]) (fun r=>[]) }
def zA0.cfg (N:Nat):Cfg:={ ty:=tys,keep:=[29],flt:=[],elm:=elm0,live:=[(4,[1,2,15,16,17])],ord:=[],con:=[((56,[.one,.one]),zBW.con N)],loops:=[(4,loopCon N zA0.sk4 zA0.xs4 (fun {R}=>zA0.l4 (R:=R) N))],joins:=[] }
theorem zA0.cons (N:Nat):ConsOk Tryz.prog TB (zA0.cfg N).con:=(consOk_cons (hb56) (zBW.ok N) (zBW.det N) consOk_nil)
theorem zA0.h4 {R:Type} (N:Nat) (d:zA0.sk4.D) (kn:zA0.sk4.D->Option R) (kx:XD zA0.xs4->Option R):roundK (zA0.cfg N) N (nthLoop (fnBody Tryz.f55) 0) zA0.sk4 zA0.xs4 d kn kx=zA0.l4 N d kn kx:=by kernel_rfl
theorem zA0.i4 (N:Nat):LoopsOk Tryz.prog TB (zA0.cfg N) (nthLoop (fnBody Tryz.f55) 0):=loopsL (l:=[]) (by kernel_rfl) trivial
theorem zA0.o4 (N:Nat):LoopOk Tryz.prog TB (nthLoop (fnBody Tryz.f55) 0) (loopCon N zA0.sk4 zA0.xs4 (fun {R}=>zA0.l4 (R:=R) N)):=loop_ok (g:=zA0.cfg N) tys_ok (zA0.cons N) mixed (zA0.i4 N) (fun d kn kx=>zA0.h4 N d kn kx)
theorem zA0.ls (N:Nat):LoopsOk Tryz.prog TB (zA0.cfg N) (fnBody Tryz.f55):=loopsL (l:=[nthLoop (fnBody Tryz.f55) 0]) (by kernel_rfl) ⟨loopOne (L0:=loopCon N zA0.sk4 zA0.xs4 (fun {R}=>zA0.l4 (R:=R) N)) (id:=4) (by kernel_rfl) (by kernel_rfl) (zA0.o4 N),trivial⟩
theorem zA0.q4 {R R':Type} {N n:Nat} {d} {k} {g:R->Option R'}:bindF (loopP (zA0.l4 N) n d k) g=loopP (zA0.l4 N) n d fun e=>bindF (k e) g:=bindF_loopP (fun d kn kx=>by simp only [zA0.l4,bindF_ifB,bindF_bindO,bindF_pure,bindF_none,bindF_onSum]) n d k
theorem zA0.b (N:Nat) (x0:den s23) (x1:den s23):body (zA0.cfg N) N Tryz.f55 [.one,.one,.fn 56 0] [.v,.v] [(false,.imm)] [⟨s23,.imm,x0⟩,⟨s23,.imm,x1⟩] (fun r i=>some (r,i))=bindO (zA0 N x0 x1) fun r=>some ([⟨.bool,.imm,r⟩],[]):=by
 show _=bindF _ _
 conv=>rhs;simp only [zA0,bindF_ifB,bindF_bindO,bindF_pure,bindF_none,bindF_onSum,zA0.q4]
 kernel_rfl
theorem zA0.ok (N:Nat):ConOk Tryz.prog TB 55 [.one,.one,.fn 56 0] (zA0.con N):=ok2 (g:=zA0.cfg N) (N:=N) (res:=[(false,.imm)]) tys_ok (zA0.cons N) mixed Tryz.func55 (zA0.ls N) rfl (zA0.b N)
theorem zA0.det (N:Nat):ConDet (zA0.con N):=det2
def zCA.con (N:Nat):Con:={ modes:=[.v,.v],ptrs:=[false],fn:=fn2 s23 .imm s23 .imm (zCA N) (fun r=>[⟨.bool,.imm,r⟩]) (fun r=>[]) }
def zCA.cfg (N:Nat):Cfg:={ ty:=tys,keep:=[7],flt:=[],elm:=elm0,live:=[],ord:=[],con:=[((55,[.one,.one,.fn 56 0]),zA0.con N)],loops:=[],joins:=[] }
theorem zCA.cons (N:Nat):ConsOk Tryz.prog TB (zCA.cfg N).con:=(consOk_cons (hb55) (zA0.ok N) (zA0.det N) consOk_nil)
theorem zCA.ls (N:Nat):LoopsOk Tryz.prog TB (zCA.cfg N) (fnBody Tryz.f22):=loopsL (l:=[]) (by kernel_rfl) trivial
theorem zCA.b (N:Nat) (x0:den s23) (x1:den s23):body (zCA.cfg N) N Tryz.f22 [.one,.one] [.v,.v] [(false,.imm)] [⟨s23,.imm,x0⟩,⟨s23,.imm,x1⟩] (fun r i=>some (r,i))=bindO (zCA N x0 x1) fun r=>some ([⟨.bool,.imm,r⟩],[]):=by
 show _=bindF _ _
 conv=>rhs;simp only [zCA,bindF_ifB,bindF_bindO,bindF_pure,bindF_none,bindF_onSum]
 kernel_rfl
theorem zCA.ok (N:Nat):ConOk Tryz.prog TB 22 [.one,.one] (zCA.con N):=ok2 (g:=zCA.cfg N) (N:=N) (res:=[(false,.imm)]) tys_ok (zCA.cons N) mixed Tryz.func22 (zCA.ls N) rfl (zCA.b N)
theorem zCA.det (N:Nat):ConDet (zCA.con N):=det2
def zBI.con (N:Nat):Con:={ modes:=[.v],ptrs:=[false],fn:=fn1 (.int .i64) .imm (zBI N) (fun r=>[⟨.str,.imm,r⟩]) (fun r=>[]) }
def zBI.cfg (N:Nat):Cfg:={ ty:=tys,keep:=[],flt:=[],elm:=elm0,live:=[],ord:=[],con:=[],loops:=[],joins:=[] }
theorem zBI.cons (N:Nat):ConsOk Tryz.prog TB (zBI.cfg N).con:=consOk_nil
theorem zBI.ls (N:Nat):LoopsOk Tryz.prog TB (zBI.cfg N) (fnBody Tryz.f106):=loopsL (l:=[]) (by kernel_rfl) trivial
theorem zBI.b (N:Nat) (x0:den (.int .i64)):body (zBI.cfg N) N Tryz.f106 [.one] [.v] [(false,.imm)] [⟨(.int .i64),.imm,x0⟩] (fun r i=>some (r,i))=bindO (zBI N x0) fun r=>some ([⟨.str,.imm,r⟩],[]):=by
 show _=bindF _ _
 conv=>rhs;simp only [zBI,bindF_ifB,bindF_bindO,bindF_pure,bindF_none,bindF_onSum]
 kernel_rfl
theorem zBI.ok (N:Nat):ConOk Tryz.prog TB 106 [.one] (zBI.con N):=ok1 (g:=zBI.cfg N) (N:=N) (res:=[(false,.imm)]) tys_ok (zBI.cons N) mixed Tryz.func106 (zBI.ls N) rfl (zBI.b N)
theorem zBI.det (N:Nat):ConDet (zBI.con N):=det1
def zB6.con (N:Nat):Con:={ modes:=[.v,.v],ptrs:=[false],fn:=fn2 (.int .i64) .imm (.int .i64) .imm (zB6 N) (fun r=>[⟨.str,.imm,r⟩]) (fun r=>[]) }
def zB6.cfg (N:Nat):Cfg:={ ty:=tys,keep:=[19,27,32,50],flt:=[],elm:=elm0,live:=[],ord:=[],con:=[((106,[.one]),zBI.con N)],loops:=[],joins:=[] }
theorem zB6.cons (N:Nat):ConsOk Tryz.prog TB (zB6.cfg N).con:=(consOk_cons (hb106) (zBI.ok N) (zBI.det N) consOk_nil)
theorem zB6.ls (N:Nat):LoopsOk Tryz.prog TB (zB6.cfg N) (fnBody Tryz.f97):=loopsL (l:=[]) (by kernel_rfl) trivial
theorem zB6.b (N:Nat) (x0:den (.int .i64)) (x1:den (.int .i64)):body (zB6.cfg N) N Tryz.f97 [.one,.one] [.v,.v] [(false,.imm)] [⟨(.int .i64),.imm,x0⟩,⟨(.int .i64),.imm,x1⟩] (fun r i=>some (r,i))=bindO (zB6 N x0 x1) fun r=>some ([⟨.str,.imm,r⟩],[]):=by
 show _=bindF _ _
 conv=>rhs;simp only [zB6,bindF_ifB,bindF_bindO,bindF_pure,bindF_none,bindF_onSum]
 kernel_rfl
theorem zB6.ok (N:Nat):ConOk Tryz.prog TB 97 [.one,.one] (zB6.con N):=ok2 (g:=zB6.cfg N) (N:=N) (res:=[(false,.imm)]) tys_ok (zB6.cons N) mixed Tryz.func97 (zB6.ls N) rfl (zB6.b N)
theorem zB6.det (N:Nat):ConDet (zB6.con N):=det2
def zC7.con (N:Nat):Con:={ modes:=[.v,.v],ptrs:=[false],fn:=fn2 (.int .i64) .imm (.int .i64) .imm (zC7 N) (fun r=>[⟨.str,.imm,r⟩]) (fun r=>[]) }
def zC7.cfg (N:Nat):Cfg:={ ty:=tys,keep:=[7],flt:=[],elm:=elm0,live:=[],ord:=[],con:=[((97,[.one,.one]),zB6.con N)],loops:=[],joins:=[] }
theorem zC7.cons (N:Nat):ConsOk Tryz.prog TB (zC7.cfg N).con:=(consOk_cons (hb97) (zB6.ok N) (zB6.det N) consOk_nil)
theorem zC7.ls (N:Nat):LoopsOk Tryz.prog TB (zC7.cfg N) (fnBody Tryz.f79):=loopsL (l:=[]) (by kernel_rfl) trivial
theorem zC7.b (N:Nat) (x0:den (.int .i64)) (x1:den (.int .i64)):body (zC7.cfg N) N Tryz.f79 [.one,.one] [.v,.v] [(false,.imm)] [⟨(.int .i64),.imm,x0⟩,⟨(.int .i64),.imm,x1⟩] (fun r i=>some (r,i))=bindO (zC7 N x0 x1) fun r=>some ([⟨.str,.imm,r⟩],[]):=by
 show _=bindF _ _
 conv=>rhs;simp only [zC7,bindF_ifB,bindF_bindO,bindF_pure,bindF_none,bindF_onSum]
 kernel_rfl
theorem zC7.ok (N:Nat):ConOk Tryz.prog TB 79 [.one,.one] (zC7.con N):=ok2 (g:=zC7.cfg N) (N:=N) (res:=[(false,.imm)]) tys_ok (zC7.cons N) mixed Tryz.func79 (zC7.ls N) rfl (zC7.b N)
theorem zC7.det (N:Nat):ConDet (zC7.con N):=det2
def zA9.con (N:Nat):Con:={ modes:=[.v],ptrs:=[false],fn:=fn1 (.int .i64) .imm (zA9 N) (fun r=>[⟨.str,.imm,r⟩]) (fun r=>[]) }
def zA9.cfg (N:Nat):Cfg:={ ty:=tys,keep:=[4],flt:=[],elm:=elm0,live:=[],ord:=[],con:=[((79,[.one,.one]),zC7.con N)],loops:=[],joins:=[] }
theorem zA9.cons (N:Nat):ConsOk Tryz.prog TB (zA9.cfg N).con:=(consOk_cons (hb79) (zC7.ok N) (zC7.det N) consOk_nil)
theorem zA9.ls (N:Nat):LoopsOk Tryz.prog TB (zA9.cfg N) (fnBody Tryz.f53):=loopsL (l:=[]) (by kernel_rfl) trivial
theorem zA9.b (N:Nat) (x0:den (.int .i64)):body (zA9.cfg N) N Tryz.f53 [.one] [.v] [(false,.imm)] [⟨(.int .i64),.imm,x0⟩] (fun r i=>some (r,i))=bindO (zA9 N x0) fun r=>some ([⟨.str,.imm,r⟩],[]):=by
 show _=bindF _ _
 conv=>rhs;simp only [zA9,bindF_ifB,bindF_bindO,bindF_pure,bindF_none,bindF_onSum]
 kernel_rfl
theorem zA9.ok (N:Nat):ConOk Tryz.prog TB 53 [.one] (zA9.con N):=ok1 (g:=zA9.cfg N) (N:=N) (res:=[(false,.imm)]) tys_ok (zA9.cons N) mixed Tryz.func53 (zA9.ls N) rfl (zA9.b N)
theorem zA9.det (N:Nat):ConDet (zA9.con N):=det1
def zCX.con (N:Nat):Con:={ modes:=[.v,.v],ptrs:=[false],fn:=fn2 (.int .i64) .imm (.int .i64) .imm (zCX N) (fun r=>[⟨.str,.imm,r⟩]) (fun r=>[]) }
def zCX.cfg (N:Nat):Cfg:={ ty:=tys,keep:=[7,12],flt:=[],elm:=elm0,live:=[],ord:=[],con:=[((53,[.one]),zA9.con N)],loops:=[],joins:=[] }
theorem zCX.cons (N:Nat):ConsOk Tryz.prog TB (zCX.cfg N).con:=(consOk_cons (hb53) (zA9.ok N) (zA9.det N) consOk_nil)
theorem zCX.ls (N:Nat):LoopsOk Tryz.prog TB (zCX.cfg N) (fnBody Tryz.f42):=loopsL (l:=[]) (by kernel_rfl) trivial
theorem zCX.b (N:Nat) (x0:den (.int .i64)) (x1:den (.int .i64)):body (zCX.cfg N) N Tryz.f42 [.one,.one] [.v,.v] [(false,.imm)] [⟨(.int .i64),.imm,x0⟩,⟨(.int .i64),.imm,x1⟩] (fun r i=>some (r,i))=bindO (zCX N x0 x1) fun r=>some ([⟨.str,.imm,r⟩],[]):=by
 show _=bindF _ _
 conv=>rhs;simp only [zCX,bindF_ifB,bindF_bindO,bindF_pure,bindF_none,bindF_onSum]
 kernel_rfl
theorem zCX.ok (N:Nat):ConOk Tryz.prog TB 42 [.one,.one] (zCX.con N):=ok2 (g:=zCX.cfg N) (N:=N) (res:=[(false,.imm)]) tys_ok (zCX.cons N) mixed Tryz.func42 (zCX.ls N) rfl (zCX.b N)
theorem zCX.det (N:Nat):ConDet (zCX.con N):=det2
set_option maxHeartbeats 1000000 in
set_option maxRecDepth 100000 in
theorem blt_cc_used (b:Nat) (w:World) (h0:w.cell? ⟨b,0,none⟩=some (.pointer (some ⟨b,0,none⟩))) :
  Calls Tryz.prog 75 #[.pointer (some ⟨b,0,none⟩)] w fun e w'=>e=.returned (.tuple #[])/\w'=w:=by
 have hj0:(Tryz.prog.info? 66).map (·.size)=some 2:=by kernel_rfl
 obtain ⟨j,hj,_⟩:=Option.map_eq_some_iff.1 hj0
 have mixed:=mixed
 go_enter Tryz.func75,Tryz.ntmps75
 go_wp2
 rw [Go.Lib.run_neq_ptr_same w _ Tryz.underlying64 hj]
 go_wp2
 go_end0
 exact ⟨rfl,rfl⟩
set_option maxHeartbeats 1000000 in
set_option maxRecDepth 100000 in
theorem blt_cc_fresh (b:Nat) (w:World) (h0:w.cell? ⟨b,0,none⟩=some (.pointer none)) (hsh:w.shape? b=some (66,2)) (hfz:w.frozen? ⟨b,0,none⟩=false) :
  Calls Tryz.prog 75 #[.pointer (some ⟨b,0,none⟩)] w fun e w'=>e=.returned (.tuple #[])/\w'=w.setCell ⟨b,0,none⟩ (.pointer (some ⟨b,0,none⟩)):=by
 have hj0:(Tryz.prog.info? 66).map (·.size)=some 2:=by kernel_rfl
 have hlies:liesAt Tryz.prog Tryz.prog.depth 66 (2 / Tryz.prog.cellsOf 66) 0 66 1=true:=by kernel_rfl
 obtain ⟨j,hj,hjs⟩:=Option.map_eq_some_iff.1 hj0
 have mixed:=mixed
 go_enter Tryz.func75,Tryz.ntmps75
 go_wp2
 rw [Go.Lib.run_to_unsafe w ⟨b,0,none⟩ Tryz.underlying64 Tryz.underlying119 hj (by rw [hjs];decide) hsh (Nat.zero_lt_succ 1)]
 simp only [Result.andThen]
 rw [Oper.upon_value]
 go_wp2
 rw [run_callFunc_extern Tryz.func95 (by kernel_rfl) (by kernel_rfl) (by kernel_rfl) (e:=Extern.AbiNoEscape.same) (by kernel_rfl)]
 rw [Go.Lib.run_noEscape]
 simp only [Result.andThen]
 rw [Oper.upon_value]
 go_wp2
 rw [Go.Lib.run_from_unsafe w ⟨b,0,none⟩ Tryz.underlying119 Tryz.underlying64 hj hsh hlies]
 simp only [Result.andThen]
 rw [Oper.upon_value]
 go_wp2
 go_end0
 exact ⟨rfl,rfl⟩
theorem blt_cc (m:Hp) (w:World) (b:Nat) (p:Value) (ad:Option Addr) (cap:Nat) (xs:List Int) (hR:Hp) (I:BltIn m w 66 5 b p ad cap xs hR) :
  Calls Tryz.prog 75 #[self b] w fun e w'=>e=.returned (.tuple #[])/\BltIn m w' 66 5 b (self b) ad cap xs hR/\Mod (blk b 0 [undef,undef]) w w':=by
 rcases I.p with h | h
 ·subst h
  refine (blt_cc_fresh b w I.c0 I.shp (I.nf.at I.c0)).mono ?_
  rintro e w' ⟨rfl,rfl⟩
  exact ⟨rfl,I.checked (.inr ⟨rfl,rfl⟩)⟩
 ·subst h
  refine (blt_cc_used b w I.c0).mono ?_
  rintro e w' ⟨rfl,rfl⟩
  exact ⟨rfl,I.checked (.inl ⟨rfl,rfl⟩)⟩
set_option maxHeartbeats 2000000 in
set_option maxRecDepth 100000 in
theorem strings_Builder_WriteString.run:BltRun Tryz.prog 40 66 5 0:=by
 intro m w b p ad cap xs hR s I hfit
 have mixed:=mixed
 have ht:typeOk Tryz.prog 22 s22=true:=by kernel_rfl
 unfold self
 go_enter Tryz.func40,Tryz.ntmps40
 go_wp2_with (go_at_call 75;refine (blt_cc m w b p ad cap xs hR I).mono ?_)
 rintro e w1 ⟨rfl,I1,M1⟩
 have c0:=I1.c0
 have c1:=I1.c1
 obtain ⟨ad',cap',w2,hR',hrun,k0,k1,kf,M2,I2,dom,wh⟩:=I1.append (P:=Tryz.prog) (ty:=22) ht Tryz.underlying9 hfit
 simp only [List.length_append] at hrun M2 I2
 go_wp2_with (at_builtin;refine Go.Lib.wpList_append_run _ rfl _ _ 22 9 rfl _ _ rfl rfl _ _ hrun ?_)
 go_wp2
 go_ret2
 refine ⟨_,ad',cap',hR',rfl,?_,I2,?_,?_⟩
 ·exact M1.un.trans M2
 ·intro k o h
  exact (dom k o h).imp id fun q=>Nat.le_trans M1.size q
 ·exact wh.imp id fun ⟨q1,g,q2,q3⟩=>⟨q1,g,q2,Nat.le_trans M1.size q3⟩
def strings_Builder_WriteString.con (N:Nat):Con:={ modes:=[],ptrs:=[],bl:=some (66,5,0),fn:=fun _ _=>none }
theorem strings_Builder_WriteString.ok (N:Nat):ConOk Tryz.prog TB 40 [.one,.one] (strings_Builder_WriteString.con N):=⟨fun h=>(by cases h),fun b h=>(by injection h with h;subst h;exact ⟨Tryz.zeroValue66,strings_Builder_WriteString.run⟩)⟩
theorem strings_Builder_WriteString.det (N:Nat):ConDet (strings_Builder_WriteString.con N):=fun ds R k y h=>by cases h
def zAP.con (N:Nat):Con:={ modes:=[.tk,.v],ptrs:=[false],fn:=fn2 s22 (.own .imm) (.int .i32) .imm (zAP N) (fun r=>[⟨s22,(.own .imm),r⟩]) (fun r=>[]) }
def zAP.cfg (N:Nat):Cfg:={ ty:=tys,keep:=[],flt:=[],elm:=elm0,live:=[],ord:=[],con:=[],loops:=[],joins:=[] }
theorem zAP.cons (N:Nat):ConsOk Tryz.prog TB (zAP.cfg N).con:=consOk_nil
theorem zAP.ls (N:Nat):LoopsOk Tryz.prog TB (zAP.cfg N) (fnBody Tryz.f98):=loopsL (l:=[]) (by kernel_rfl) trivial
theorem zAP.b (N:Nat) (x0:den s22) (x1:den (.int .i32)):body (zAP.cfg N) N Tryz.f98 [.one,.one] [.tk,.v] [(false,(.own .imm))] [⟨s22,(.own .imm),x0⟩,⟨(.int .i32),.imm,x1⟩] (fun r i=>some (r,i))=bindO (zAP N x0 x1) fun r=>some ([⟨s22,(.own .imm),r⟩],[]):=by
 show _=bindF _ _
 conv=>rhs;simp only [zAP,bindF_ifB,bindF_bindO,bindF_pure,bindF_none,bindF_onSum]
 kernel_rfl
theorem zAP.ok (N:Nat):ConOk Tryz.prog TB 98 [.one,.one] (zAP.con N):=ok2 (g:=zAP.cfg N) (N:=N) (res:=[(false,(.own .imm))]) tys_ok (zAP.cons N) mixed Tryz.func98 (zAP.ls N) rfl (zAP.b N)
theorem zAP.det (N:Nat):ConDet (zAP.con N):=det2
def zBB.con (N:Nat):Con:={ modes:=[.tk,.v],ptrs:=[false],fn:=fn2 s22 (.own .imm) (.int .i32) .imm (zBB N) (fun r=>[⟨s22,(.own .imm),r⟩]) (fun r=>[]) }
def zBB.cfg (N:Nat):Cfg:={ ty:=tys,keep:=[15],flt:=[],elm:=elm0,live:=[],ord:=[],con:=[((98,[.one,.one]),zAP.con N)],loops:=[],joins:=[] }
theorem zBB.cons (N:Nat):ConsOk Tryz.prog TB (zBB.cfg N).con:=(consOk_cons (hb98) (zAP.ok N) (zAP.det N) consOk_nil)
theorem zBB.ls (N:Nat):LoopsOk Tryz.prog TB (zBB.cfg N) (fnBody Tryz.f80):=loopsL (l:=[]) (by kernel_rfl) trivial
theorem zBB.b (N:Nat) (x0:den s22) (x1:den (.int .i32)):body (zBB.cfg N) N Tryz.f80 [.one,.one] [.tk,.v] [(false,(.own .imm))] [⟨s22,(.own .imm),x0⟩,⟨(.int .i32),.imm,x1⟩] (fun r i=>some (r,i))=bindO (zBB N x0 x1) fun r=>some ([⟨s22,(.own .imm),r⟩],[]):=by
 show _=bindF _ _
 conv=>rhs;simp only [zBB,bindF_ifB,bindF_bindO,bindF_pure,bindF_none,bindF_onSum]
 kernel_rfl
theorem zBB.ok (N:Nat):ConOk Tryz.prog TB 80 [.one,.one] (zBB.con N):=ok2 (g:=zBB.cfg N) (N:=N) (res:=[(false,(.own .imm))]) tys_ok (zBB.cons N) mixed Tryz.func80 (zBB.ls N) rfl (zBB.b N)
theorem zBB.det (N:Nat):ConDet (zBB.con N):=det2
def zBA.sk3:Skel:=⟨dd 3 (.ov 50 []::(dd 3 (.pv s40::(.pv (.int .i64)::(.pv (.int .i64)::(dd 10 [])))))),[⟨50,s22,(.own .imm),false,false⟩]⟩
def zBA.xs3:List XS:=[⟨.exit 0,[3],⟨dd 3 (.ov 50 []::(dd 16 [])),[⟨50,s22,(.own .imm),false,false⟩]⟩⟩]
def zBA.con (N:Nat):Con:={ modes:=[.v],ptrs:=[false],fn:=fn1 s40 .imm (zBA N) (fun r=>[⟨.str,.imm,r⟩]) (fun r=>[]) }
def zBA.cfg (N:Nat):Cfg:={ ty:=tys,keep:=[16],flt:=[],elm:=elm0,live:=[(3,[3,7,8,9])],ord:=[],con:=[((80,[.one,.one]),zBB.con N)],loops:=[(3,loopCon N zBA.sk3 zBA.xs3 (fun {R}=>zBA.l3 (R:=R) N))],joins:=[] }
theorem zBA.cons (N:Nat):ConsOk Tryz.prog TB (zBA.cfg N).con:=(consOk_cons (hb80) (zBB.ok N) (zBB.det N) consOk_nil)
theorem zBA.h3 {R:Type} (N:Nat) (d:zBA.sk3.D) (kn:zBA.sk3.D->Option R) (kx:XD zBA.xs3->Option R):roundK (zBA.cfg N) N (nthLoop (fnBody Tryz.f54) 0) zBA.sk3 zBA.xs3 d kn kx=zBA.l3 N d kn kx:=by kernel_rfl
theorem zBA.i3 (N:Nat):LoopsOk Tryz.prog TB (zBA.cfg N) (nthLoop (fnBody Tryz.f54) 0):=loopsL (l:=[]) (by kernel_rfl) trivial
theorem zBA.o3 (N:Nat):LoopOk Tryz.prog TB (nthLoop (fnBody Tryz.f54) 0) (loopCon N zBA.sk3 zBA.xs3 (fun {R}=>zBA.l3 (R:=R) N)):=loop_ok (g:=zBA.cfg N) tys_ok (zBA.cons N) mixed (zBA.i3 N) (fun d kn kx=>zBA.h3 N d kn kx)
theorem zBA.ls (N:Nat):LoopsOk Tryz.prog TB (zBA.cfg N) (fnBody Tryz.f54):=loopsL (l:=[nthLoop (fnBody Tryz.f54) 0]) (by kernel_rfl) ⟨loopOne (L0:=loopCon N zBA.sk3 zBA.xs3 (fun {R}=>zBA.l3 (R:=R) N)) (id:=3) (by kernel_rfl) (by kernel_rfl) (zBA.o3 N),trivial⟩
theorem zBA.q3 {R R':Type} {N n:Nat} {d} {k} {g:R->Option R'}:bindF (loopP (zBA.l3 N) n d k) g=loopP (zBA.l3 N) n d fun e=>bindF (k e) g:=bindF_loopP (fun d kn kx=>by simp only [zBA.l3,bindF_ifB,bindF_bindO,bindF_pure,bindF_none,bindF_onSum]) n d k
theorem zBA.b (N:Nat) (x0:den s40):body (zBA.cfg N) N Tryz.f54 [.one] [.v] [(false,.imm)] [⟨s40,.imm,x0⟩] (fun r i=>some (r,i))=bindO (zBA N x0) fun r=>some ([⟨.str,.imm,r⟩],[]):=by
 show _=bindF _ _
 conv=>rhs;simp only [zBA,bindF_ifB,bindF_bindO,bindF_pure,bindF_none,bindF_onSum,zBA.q3]
 kernel_rfl
theorem zBA.ok (N:Nat):ConOk Tryz.prog TB 54 [.one] (zBA.con N):=ok1 (g:=zBA.cfg N) (N:=N) (res:=[(false,.imm)]) tys_ok (zBA.cons N) mixed Tryz.func54 (zBA.ls N) rfl (zBA.b N)
theorem zBA.det (N:Nat):ConDet (zBA.con N):=det1
end Go.AE.F
end
