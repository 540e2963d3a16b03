/- The printed functions are what the program comes to: contracts. -/
import Derived.Test.YtgljdfgbcfdmbaaGreatDoorLSendAllL5
noncomputable section
namespace Go.AE.F
open Go.AE Go.Proofs Go.Lib
set_option maxRecDepth 100000
set_option maxHeartbeats 2000000 in
set_option maxRecDepth 100000 in
theorem strings_Builder_String.run:BltRun Tryz.prog 43 66 5 2:=by
 intro m w b p ad cap xs hR I
 have mixed:=mixed
 have hcb:Tryz.prog.cellsOf 5=1:=by kernel_rfl
 have c1:w.drew.cell? ⟨b,1,none⟩=some (.slice ad xs.length cap):=I.c1
 obtain ⟨q,w',hSD,hUS,S⟩:=I.string (P:=Tryz.prog) (tS:=22) (pt:=107) (it:=3) (ty:=107) (ty2:=9) Tryz.underlying107 hcb
 have hSD:=hSD w.drew
 unfold self
 go_enter Tryz.func43,Tryz.ntmps43
 go_wp2
 go_region_o
 all_goals (go_wp2;go_ret;exact ⟨rfl,S⟩)
def strings_Builder_String.con (N:Nat):Con:={ modes:=[],ptrs:=[],bl:=some (66,5,2),fn:=fun _ _=>none }
theorem strings_Builder_String.ok (N:Nat):ConOk Tryz.prog TB 43 [.one] (strings_Builder_String.con N):=⟨fun h=>(by cases h),fun b h=>(by injection h with h;subst h;exact ⟨Tryz.zeroValue66,strings_Builder_String.run⟩)⟩
theorem strings_Builder_String.det (N:Nat):ConDet (strings_Builder_String.con N):=fun ds R k y h=>by cases h
def zAC.sk5:Skel:=⟨dd 5 (.ptr 50 []::(.pv (.int .i64)::(dd 23 (.pv s23::(.pv (.int .i64)::(.pv (.int .i64)::(dd 24 []))))))),[⟨50,(.pair (.sl 66 .unit) (.pair s22 .unit)),(.pr .imm (.pr (.own .imm) .imm)),true,false⟩]⟩
def zAC.xs5:List XS:=[⟨.exit 0,[5,6],⟨dd 5 (.ptr 50 []::(.pv (.int .i64)::(dd 50 []))),[⟨50,(.pair (.sl 66 .unit) (.pair s22 .unit)),(.pr .imm (.pr (.own .imm) .imm)),true,false⟩]⟩⟩]
def zAC.con (N:Nat):Con:={ modes:=[.rd,.v],ptrs:=[false],fn:=fn2 s24 .imm (.int .i64) .imm (zAC N) (fun r=>[⟨.str,.imm,r⟩]) (fun r=>[]) }
def zAC.cfg (N:Nat):Cfg:={ ty:=tys,keep:=[10,12,36,44,47,50,51,55,56],flt:=[],elm:=elm0,live:=[(5,[5,6,30,31,32])],ord:=[(4,[0,1,2,3,4,5,6,7,8,9,10,11,12,13,14,15,16,17,19,18])],con:=[((42,[.one,.one]),zCX.con N),((40,[.one,.one]),strings_Builder_WriteString.con N),((52,[.one]),zB0.con N),((53,[.one]),zA9.con N),((54,[.one]),zBA.con N),((43,[.one]),strings_Builder_String.con N)],loops:=[(5,loopCon N zAC.sk5 zAC.xs5 (fun {R}=>zAC.l5 (R:=R) N))],joins:=[(12,[⟨.normal,[5,6,30,31,32],⟨dd 5 (.ptr 50 []::(.pv (.int .i64)::(dd 23 (.pv s23::(.pv (.int .i64)::(.pv (.int .i64)::(dd 24 []))))))),[⟨50,(.pair (.sl 66 .unit) (.pair s22 .unit)),(.pr .imm (.pr (.own .imm) .imm)),true,false⟩]⟩⟩])] }
theorem zAC.cons (N:Nat):ConsOk Tryz.prog TB (zAC.cfg N).con:=(consOk_cons (hb42) (zCX.ok N) (zCX.det N) (consOk_cons (hb40) (strings_Builder_WriteString.ok N) (strings_Builder_WriteString.det N) (consOk_cons (hb52) (zB0.ok N) (zB0.det N) (consOk_cons (hb53) (zA9.ok N) (zA9.det N) (consOk_cons (hb54) (zBA.ok N) (zBA.det N) (consOk_cons (hb43) (strings_Builder_String.ok N) (strings_Builder_String.det N) consOk_nil))))))
theorem zAC.h5 {R:Type} (N:Nat) (d:zAC.sk5.D) (kn:zAC.sk5.D->Option R) (kx:XD zAC.xs5->Option R):roundK (zAC.cfg N) N (nthLoop (fnBody Tryz.f21) 0) zAC.sk5 zAC.xs5 d kn kx=zAC.l5 N d kn kx:=by kernel_rfl
theorem zAC.i5 (N:Nat):LoopsOk Tryz.prog TB (zAC.cfg N) (nthLoop (fnBody Tryz.f21) 0):=loopsL (l:=[]) (by kernel_rfl) trivial
theorem zAC.o5 (N:Nat):LoopOk Tryz.prog TB (nthLoop (fnBody Tryz.f21) 0) (loopCon N zAC.sk5 zAC.xs5 (fun {R}=>zAC.l5 (R:=R) N)):=loop_ok (g:=zAC.cfg N) tys_ok (zAC.cons N) mixed (zAC.i5 N) (fun d kn kx=>zAC.h5 N d kn kx)
theorem zAC.ls (N:Nat):LoopsOk Tryz.prog TB (zAC.cfg N) (fnBody Tryz.f21):=loopsL (l:=[nthLoop (fnBody Tryz.f21) 0]) (by kernel_rfl) ⟨loopOne (L0:=loopCon N zAC.sk5 zAC.xs5 (fun {R}=>zAC.l5 (R:=R) N)) (id:=5) (by kernel_rfl) (by kernel_rfl) (zAC.o5 N),trivial⟩
theorem zAC.q5 {R R':Type} {N n:Nat} {d} {k} {g:R->Option R'}:bindF (loopP (zAC.l5 N) n d k) g=loopP (zAC.l5 N) n d fun e=>bindF (k e) g:=bindF_loopP (fun d kn kx=>by simp only [zAC.l5,bindF_ifB,bindF_bindO,bindF_pure,bindF_none,bindF_onSum]) n d k
theorem zAC.b (N:Nat) (x0:den s24) (x1:den (.int .i64)):body (zAC.cfg N) N Tryz.f21 [.one,.one] [.rd,.v] [(false,.imm)] [⟨s24,.imm,x0⟩,⟨(.int .i64),.imm,x1⟩] (fun r i=>some (r,i))=bindO (zAC N x0 x1) fun r=>some ([⟨.str,.imm,r⟩],[]):=by
 show _=bindF _ _
 conv=>rhs;simp only [zAC,bindF_ifB,bindF_bindO,bindF_pure,bindF_none,bindF_onSum,zAC.q5]
 kernel_rfl
theorem zAC.ok (N:Nat):ConOk Tryz.prog TB 21 [.one,.one] (zAC.con N):=ok2 (g:=zAC.cfg N) (N:=N) (res:=[(false,.imm)]) tys_ok (zAC.cons N) mixed Tryz.func21 (zAC.ls N) rfl (zAC.b N)
theorem zAC.det (N:Nat):ConDet (zAC.con N):=det2
set_option maxHeartbeats 1000000 in
set_option maxRecDepth 100000 in
theorem strings_Builder_Len.run:BltRun Tryz.prog 41 66 5 1:=by
 intro m w b p ad cap xs hR I
 have mixed:=mixed
 have c1:=I.c1
 unfold self
 go_enter Tryz.func41,Tryz.ntmps41
 go_wp2
 go_ret
 exact ⟨rfl,rfl⟩
def strings_Builder_Len.con (N:Nat):Con:={ modes:=[],ptrs:=[],bl:=some (66,5,1),fn:=fun _ _=>none }
theorem strings_Builder_Len.ok (N:Nat):ConOk Tryz.prog TB 41 [.one] (strings_Builder_Len.con N):=⟨fun h=>(by cases h),fun b h=>(by injection h with h;subst h;exact ⟨Tryz.zeroValue66,strings_Builder_Len.run⟩)⟩
theorem strings_Builder_Len.det (N:Nat):ConDet (strings_Builder_Len.con N):=fun ds R k y h=>by cases h
def zBT.sk5:Skel:=⟨dd 2 (.ptr 50 []::(.ptr 51 []::(dd 1 (.ptr 52 []::(dd 26 (.pv (.int .i64)::(.pv (.int .i64)::(dd 50 [])))))))),[⟨50,s24,.imm,true,false⟩,⟨51,s24,.imm,true,false⟩,⟨52,(.pair (.sl 66 .unit) (.pair s22 .unit)),(.pr .imm (.pr (.own .imm) .imm)),true,false⟩]⟩
def zBT.xs5:List XS:=[⟨.exit 0,[2,3,5],⟨dd 2 (.ptr 50 []::(.ptr 51 []::(dd 1 (.ptr 52 []::(dd 78 []))))),[⟨50,s24,.imm,true,false⟩,⟨51,s24,.imm,true,false⟩,⟨52,(.pair (.sl 66 .unit) (.pair s22 .unit)),(.pr .imm (.pr (.own .imm) .imm)),true,false⟩]⟩⟩]
def zBT.con (N:Nat):Con:={ modes:=[.v,.v],ptrs:=[false],fn:=fn2 s24 .imm s24 .imm (zBT N) (fun r=>[⟨.str,.imm,r⟩]) (fun r=>[]) }
def zBT.cfg (N:Nat):Cfg:={ ty:=tys,keep:=[10,14,55,58,59,61,81,82,83],flt:=[],elm:=elm0,live:=[(5,[2,3,5,32,33])],ord:=[(7,[0,1,2,3,4,5,6,7,8,9,10]),(8,[0,1,2,3,4,5,6,7,8,9,10,11])],con:=[((19,[.one]),zAM.con N),((22,[.one,.one]),zCA.con N),((21,[.one,.one]),zAC.con N),((40,[.one,.one]),strings_Builder_WriteString.con N),((41,[.one]),strings_Builder_Len.con N),((42,[.one,.one]),zCX.con N),((43,[.one]),strings_Builder_String.con N)],loops:=[(5,loopCon N zBT.sk5 zBT.xs5 (fun {R}=>zBT.l5 (R:=R) N))],joins:=[(10,[⟨.normal,[2,3,5,32,33],⟨dd 2 (.ptr 50 []::(.ptr 51 []::(dd 1 (.ptr 52 []::(dd 26 (.pv (.int .i64)::(.pv (.int .i64)::(dd 50 [])))))))),[⟨50,s24,.imm,true,false⟩,⟨51,s24,.imm,true,false⟩,⟨52,(.pair (.sl 66 .unit) (.pair s22 .unit)),(.pr .imm (.pr (.own .imm) .imm)),true,false⟩]⟩⟩])] }
theorem zBT.cons (N:Nat):ConsOk Tryz.prog TB (zBT.cfg N).con:=(consOk_cons (hb19) (zAM.ok N) (zAM.det N) (consOk_cons (hb22) (zCA.ok N) (zCA.det N) (consOk_cons (hb21) (zAC.ok N) (zAC.det N) (consOk_cons (hb40) (strings_Builder_WriteString.ok N) (strings_Builder_WriteString.det N) (consOk_cons (hb41) (strings_Builder_Len.ok N) (strings_Builder_Len.det N) (consOk_cons (hb42) (zCX.ok N) (zCX.det N) (consOk_cons (hb43) (strings_Builder_String.ok N) (strings_Builder_String.det N) consOk_nil)))))))
theorem zBT.h5 {R:Type} (N:Nat) (d:zBT.sk5.D) (kn:zBT.sk5.D->Option R) (kx:XD zBT.xs5->Option R):roundK (zBT.cfg N) N (nthLoop (fnBody Tryz.f14) 0) zBT.sk5 zBT.xs5 d kn kx=zBT.l5 N d kn kx:=by kernel_rfl
theorem zBT.i5 (N:Nat):LoopsOk Tryz.prog TB (zBT.cfg N) (nthLoop (fnBody Tryz.f14) 0):=loopsL (l:=[]) (by kernel_rfl) trivial
theorem zBT.o5 (N:Nat):LoopOk Tryz.prog TB (nthLoop (fnBody Tryz.f14) 0) (loopCon N zBT.sk5 zBT.xs5 (fun {R}=>zBT.l5 (R:=R) N)):=loop_ok (g:=zBT.cfg N) tys_ok (zBT.cons N) mixed (zBT.i5 N) (fun d kn kx=>zBT.h5 N d kn kx)
theorem zBT.ls (N:Nat):LoopsOk Tryz.prog TB (zBT.cfg N) (fnBody Tryz.f14):=loopsL (l:=[nthLoop (fnBody Tryz.f14) 0]) (by kernel_rfl) ⟨loopOne (L0:=loopCon N zBT.sk5 zBT.xs5 (fun {R}=>zBT.l5 (R:=R) N)) (id:=5) (by kernel_rfl) (by kernel_rfl) (zBT.o5 N),trivial⟩
theorem zBT.q5 {R R':Type} {N n:Nat} {d} {k} {g:R->Option R'}:bindF (loopP (zBT.l5 N) n d k) g=loopP (zBT.l5 N) n d fun e=>bindF (k e) g:=bindF_loopP (fun d kn kx=>by simp only [zBT.l5,bindF_ifB,bindF_bindO,bindF_pure,bindF_none,bindF_onSum]) n d k
theorem zBT.b (N:Nat) (x0:den s24) (x1:den s24):body (zBT.cfg N) N Tryz.f14 [.one,.one] [.v,.v] [(false,.imm)] [⟨s24,.imm,x0⟩,⟨s24,.imm,x1⟩] (fun r i=>some (r,i))=bindO (zBT N x0 x1) fun r=>some ([⟨.str,.imm,r⟩],[]):=by
 show _=bindF _ _
 conv=>rhs;simp only [zBT,bindF_ifB,bindF_bindO,bindF_pure,bindF_none,bindF_onSum,zBT.q5]
 kernel_rfl
theorem zBT.ok (N:Nat):ConOk Tryz.prog TB 14 [.one,.one] (zBT.con N):=ok2 (g:=zBT.cfg N) (N:=N) (res:=[(false,.imm)]) tys_ok (zBT.cons N) mixed Tryz.func14 (zBT.ls N) rfl (zBT.b N)
theorem zBT.det (N:Nat):ConDet (zBT.con N):=det2
def zCQ.con (N:Nat):Con:={ modes:=[.v],ptrs:=[false],fn:=fn1 s24 .imm (zCQ N) (fun r=>[⟨.str,.imm,r⟩]) (fun r=>[]) }
def zCQ.cfg (N:Nat):Cfg:={ ty:=tys,keep:=[7,9],flt:=[],elm:=elm0,live:=[],ord:=[(1,[0,1,2,3,5,4,6,7])],con:=[((11,[.one,.one]),zCH.con N),((14,[.one,.one]),zBT.con N)],loops:=[],joins:=[] }
theorem zCQ.cons (N:Nat):ConsOk Tryz.prog TB (zCQ.cfg N).con:=(consOk_cons (hb11) (zCH.ok N) (zCH.det N) (consOk_cons (hb14) (zBT.ok N) (zBT.det N) consOk_nil))
theorem zCQ.ls (N:Nat):LoopsOk Tryz.prog TB (zCQ.cfg N) (fnBody Tryz.f5):=loopsL (l:=[]) (by kernel_rfl) trivial
theorem zCQ.b (N:Nat) (x0:den s24):body (zCQ.cfg N) N Tryz.f5 [.one] [.v] [(false,.imm)] [⟨s24,.imm,x0⟩] (fun r i=>some (r,i))=bindO (zCQ N x0) fun r=>some ([⟨.str,.imm,r⟩],[]):=by
 show _=bindF _ _
 conv=>rhs;simp only [zCQ,bindF_ifB,bindF_bindO,bindF_pure,bindF_none,bindF_onSum]
 kernel_rfl
theorem zCQ.ok (N:Nat):ConOk Tryz.prog TB 5 [.one] (zCQ.con N):=ok1 (g:=zCQ.cfg N) (N:=N) (res:=[(false,.imm)]) tys_ok (zCQ.cons N) mixed Tryz.func5 (zCQ.ls N) rfl (zCQ.b N)
theorem zCQ.det (N:Nat):ConDet (zCQ.con N):=det1
def zA4.sk4:Skel:=⟨dd 1 (.ptr 50 []::(dd 1 (.pv (.int .i64)::(dd 52 [])))),[⟨50,s24,.imm,true,false⟩]⟩
def zA4.xs4:List XS:=[⟨.exit 0,[],⟨dd 56 [],[]⟩⟩,⟨.ret,[2],⟨dd 2 (.pv .bool::(dd 53 [])),[]⟩⟩]
def zA4.sk8:Skel:=⟨dd 1 (.ptr 50 []::(dd 1 (.pv (.int .i64)::(.pv .bool::(.pv (.int .i64)::(dd 50 [])))))),[⟨50,s24,.imm,true,false⟩]⟩
def zA4.xs8:List XS:=[⟨.exit 2,[1,3],⟨dd 1 (.ptr 50 []::(dd 1 (.pv (.int .i64)::(dd 52 [])))),[⟨50,s24,.imm,true,false⟩]⟩⟩,⟨.ret,[2],⟨dd 2 (.pv .bool::(dd 53 [])),[]⟩⟩]
def zA4.con (N:Nat):Con:={ modes:=[.v],ptrs:=[false],fn:=fn1 s24 .imm (zA4 N) (fun r=>[⟨.bool,.imm,r⟩]) (fun r=>[]) }
def zA4.cfg (N:Nat):Cfg:={ ty:=tys,keep:=[8,39],flt:=[],elm:=elm0,live:=[(8,[1,3,4,5]),(4,[1,3])],ord:=[],con:=[((15,[.one]),zAN.con N),((16,[.one,.one]),zCC.con N)],loops:=[(4,loopCon N zA4.sk4 zA4.xs4 (fun {R}=>zA4.l4 (R:=R) N)),(8,loopCon N zA4.sk8 zA4.xs8 (fun {R}=>zA4.l8 (R:=R) N))],joins:=[(9,[⟨.normal,[1,3,4,5],⟨dd 1 (.ptr 50 []::(dd 1 (.pv (.int .i64)::(.pv .bool::(.pv (.int .i64)::(dd 50 [])))))),[⟨50,s24,.imm,true,false⟩]⟩⟩,⟨.ret,[2],⟨dd 2 (.pv .bool::(dd 53 [])),[]⟩⟩])] }
theorem zA4.cons (N:Nat):ConsOk Tryz.prog TB (zA4.cfg N).con:=(consOk_cons (hb15) (zAN.ok N) (zAN.det N) (consOk_cons (hb16) (zCC.ok N) (zCC.det N) consOk_nil))
theorem zA4.h8 {R:Type} (N:Nat) (d:zA4.sk8.D) (kn:zA4.sk8.D->Option R) (kx:XD zA4.xs8->Option R):roundK (zA4.cfg N) N (nthLoop (fnBody Tryz.f6) 1) zA4.sk8 zA4.xs8 d kn kx=zA4.l8 N d kn kx:=by kernel_rfl
theorem zA4.i8 (N:Nat):LoopsOk Tryz.prog TB (zA4.cfg N) (nthLoop (fnBody Tryz.f6) 1):=loopsL (l:=[]) (by kernel_rfl) trivial
theorem zA4.o8 (N:Nat):LoopOk Tryz.prog TB (nthLoop (fnBody Tryz.f6) 1) (loopCon N zA4.sk8 zA4.xs8 (fun {R}=>zA4.l8 (R:=R) N)):=loop_ok (g:=zA4.cfg N) tys_ok (zA4.cons N) mixed (zA4.i8 N) (fun d kn kx=>zA4.h8 N d kn kx)
theorem zA4.h4 {R:Type} (N:Nat) (d:zA4.sk4.D) (kn:zA4.sk4.D->Option R) (kx:XD zA4.xs4->Option R):roundK (zA4.cfg N) N (nthLoop (fnBody Tryz.f6) 0) zA4.sk4 zA4.xs4 d kn kx=zA4.l4 N d kn kx:=by kernel_rfl
theorem zA4.i4 (N:Nat):LoopsOk Tryz.prog TB (zA4.cfg N) (nthLoop (fnBody Tryz.f6) 0):=loopsL (l:=[nthLoop (fnBody Tryz.f6) 1]) (by kernel_rfl) ⟨loopOne (L0:=loopCon N zA4.sk8 zA4.xs8 (fun {R}=>zA4.l8 (R:=R) N)) (id:=8) (by kernel_rfl) (by kernel_rfl) (zA4.o8 N),trivial⟩
theorem zA4.o4 (N:Nat):LoopOk Tryz.prog TB (nthLoop (fnBody Tryz.f6) 0) (loopCon N zA4.sk4 zA4.xs4 (fun {R}=>zA4.l4 (R:=R) N)):=loop_ok (g:=zA4.cfg N) tys_ok (zA4.cons N) mixed (zA4.i4 N) (fun d kn kx=>zA4.h4 N d kn kx)
theorem zA4.ls (N:Nat):LoopsOk Tryz.prog TB (zA4.cfg N) (fnBody Tryz.f6):=loopsL (l:=[nthLoop (fnBody Tryz.f6) 0,nthLoop (fnBody Tryz.f6) 1]) (by kernel_rfl) ⟨loopOne (L0:=loopCon N zA4.sk4 zA4.xs4 (fun {R}=>zA4.l4 (R:=R) N)) (id:=4) (by kernel_rfl) (by kernel_rfl) (zA4.o4 N),⟨loopOne (L0:=loopCon N zA4.sk8 zA4.xs8 (fun {R}=>zA4.l8 (R:=R) N)) (id:=8) (by kernel_rfl) (by kernel_rfl) (zA4.o8 N),trivial⟩⟩
theorem zA4.q8 {R R':Type} {N n:Nat} {d} {k} {g:R->Option R'}:bindF (loopP (zA4.l8 N) n d k) g=loopP (zA4.l8 N) n d fun e=>bindF (k e) g:=bindF_loopP (fun d kn kx=>by simp only [zA4.l8,bindF_ifB,bindF_bindO,bindF_pure,bindF_none,bindF_onSum]) n d k
theorem zA4.q4 {R R':Type} {N n:Nat} {d} {k} {g:R->Option R'}:bindF (loopP (zA4.l4 N) n d k) g=loopP (zA4.l4 N) n d fun e=>bindF (k e) g:=bindF_loopP (fun d kn kx=>by simp only [zA4.l4,bindF_ifB,bindF_bindO,bindF_pure,bindF_none,bindF_onSum,zA4.q8]) n d k
theorem zA4.b (N:Nat) (x0:den s24):body (zA4.cfg N) N Tryz.f6 [.one] [.v] [(false,.imm)] [⟨s24,.imm,x0⟩] (fun r i=>some (r,i))=bindO (zA4 N x0) fun r=>some ([⟨.bool,.imm,r⟩],[]):=by
 show _=bindF _ _
 conv=>rhs;simp only [zA4,bindF_ifB,bindF_bindO,bindF_pure,bindF_none,bindF_onSum,zA4.q4,zA4.q8]
 kernel_rfl
theorem zA4.ok (N:Nat):ConOk Tryz.prog TB 6 [.one] (zA4.con N):=ok1 (g:=zA4.cfg N) (N:=N) (res:=[(false,.imm)]) tys_ok (zA4.cons N) mixed Tryz.func6 (zA4.ls N) rfl (zA4.b N)
theorem zA4.det (N:Nat):ConDet (zA4.con N):=det1
def zB5.sk4:Skel:=⟨.pv s40::(.pv s40::(dd 3 (.pv (.int .i64)::(dd 20 [])))),[]⟩
def zB5.xs4:List XS:=[⟨.exit 0,[],⟨dd 26 [],[]⟩⟩,⟨.ret,[4],⟨dd 4 (.pv .bool::(dd 21 [])),[]⟩⟩]
def zB5.con (N:Nat):Con:={ modes:=[.v,.v],ptrs:=[false],fn:=fn2 s40 .imm s40 .imm (zB5 N) (fun r=>[⟨.bool,.imm,r⟩]) (fun r=>[]) }
def zB5.cfg (N:Nat):Cfg:={ ty:=tys,keep:=[],flt:=[],elm:=elm0,live:=[(4,[0,1,5])],ord:=[(6,[0,1,2,3,4,5,6,7,8])],con:=[],loops:=[(4,loopCon N zB5.sk4 zB5.xs4 (fun {R}=>zB5.l4 (R:=R) N))],joins:=[] }
theorem zB5.cons (N:Nat):ConsOk Tryz.prog TB (zB5.cfg N).con:=consOk_nil
theorem zB5.h4 {R:Type} (N:Nat) (d:zB5.sk4.D) (kn:zB5.sk4.D->Option R) (kx:XD zB5.xs4->Option R):roundK (zB5.cfg N) N (nthLoop (fnBody Tryz.f47) 0) zB5.sk4 zB5.xs4 d kn kx=zB5.l4 N d kn kx:=by kernel_rfl
theorem zB5.i4 (N:Nat):LoopsOk Tryz.prog TB (zB5.cfg N) (nthLoop (fnBody Tryz.f47) 0):=loopsL (l:=[]) (by kernel_rfl) trivial
theorem zB5.o4 (N:Nat):LoopOk Tryz.prog TB (nthLoop (fnBody Tryz.f47) 0) (loopCon N zB5.sk4 zB5.xs4 (fun {R}=>zB5.l4 (R:=R) N)):=loop_ok (g:=zB5.cfg N) tys_ok (zB5.cons N) mixed (zB5.i4 N) (fun d kn kx=>zB5.h4 N d kn kx)
theorem zB5.ls (N:Nat):LoopsOk Tryz.prog TB (zB5.cfg N) (fnBody Tryz.f47):=loopsL (l:=[nthLoop (fnBody Tryz.f47) 0]) (by kernel_rfl) ⟨loopOne (L0:=loopCon N zB5.sk4 zB5.xs4 (fun {R}=>zB5.l4 (R:=R) N)) (id:=4) (by kernel_rfl) (by kernel_rfl) (zB5.o4 N),trivial⟩
theorem zB5.q4 {R R':Type} {N n:Nat} {d} {k} {g:R->Option R'}:bindF (loopP (zB5.l4 N) n d k) g=loopP (zB5.l4 N) n d fun e=>bindF (k e) g:=bindF_loopP (fun d kn kx=>by simp only [zB5.l4,bindF_ifB,bindF_bindO,bindF_pure,bindF_none,bindF_onSum]) n d k
theorem zB5.b (N:Nat) (x0:den s40) (x1:den s40):body (zB5.cfg N) N Tryz.f47 [.one,.one] [.v,.v] [(false,.imm)] [⟨s40,.imm,x0⟩,⟨s40,.imm,x1⟩] (fun r i=>some (r,i))=bindO (zB5 N x0 x1) fun r=>some ([⟨.bool,.imm,r⟩],[]):=by
 show _=bindF _ _
 conv=>rhs;simp only [zB5,bindF_ifB,bindF_bindO,bindF_pure,bindF_none,bindF_onSum,zB5.q4]
 kernel_rfl
theorem zB5.ok (N:Nat):ConOk Tryz.prog TB 47 [.one,.one] (zB5.con N):=ok2 (g:=zB5.cfg N) (N:=N) (res:=[(false,.imm)]) tys_ok (zB5.cons N) mixed Tryz.func47 (zB5.ls N) rfl (zB5.b N)
theorem zB5.det (N:Nat):ConDet (zB5.con N):=det2
def zBD.sk4:Skel:=⟨dd 1 (.pv (.int .i64)::(.ptr 50 []::(dd 2 (.ov 51 []::(.pv (.int .i64)::(.pv (.int .i64)::(dd 50 []))))))),[⟨50,s24,.imm,true,false⟩,⟨51,s22,(.own .imm),false,false⟩]⟩
def zBD.xs4:List XS:=[⟨.exit 0,[5,6],⟨dd 5 (.ov 50 []::(.pv (.int .i64)::(dd 51 []))),[⟨50,s22,(.own .imm),false,false⟩]⟩⟩]
def zBD.con (N:Nat):Con:={ modes:=[.v,.v],ptrs:=[false],fn:=fn2 s24 .imm (.int .i64) .imm (zBD N) (fun r=>[⟨s22,(.own .imm),r⟩]) (fun r=>[]) }
def zBD.cfg (N:Nat):Cfg:={ ty:=tys,keep:=[11,42,51],flt:=[],elm:=elm0,live:=[(4,[1,2,5,6,7])],ord:=[],con:=[((49,[.one]),zA5.con N),((78,[.one]),zAW.con N)],loops:=[(4,loopCon N zBD.sk4 zBD.xs4 (fun {R}=>zBD.l4 (R:=R) N))],joins:=[(5,[⟨.normal,[1,2,5,6,7],⟨dd 1 (.pv (.int .i64)::(.ptr 50 []::(dd 2 (.ov 51 []::(.pv (.int .i64)::(.pv (.int .i64)::(dd 50 []))))))),[⟨50,s24,.imm,true,false⟩,⟨51,s22,(.own .imm),false,false⟩]⟩⟩])] }
theorem zBD.cons (N:Nat):ConsOk Tryz.prog TB (zBD.cfg N).con:=(consOk_cons (hb49) (zA5.ok N) (zA5.det N) (consOk_cons (hb78) (zAW.ok N) (zAW.det N) consOk_nil))
theorem zBD.h4 {R:Type} (N:Nat) (d:zBD.sk4.D) (kn:zBD.sk4.D->Option R) (kx:XD zBD.xs4->Option R):roundK (zBD.cfg N) N (nthLoop (fnBody Tryz.f48) 0) zBD.sk4 zBD.xs4 d kn kx=zBD.l4 N d kn kx:=by kernel_rfl
theorem zBD.i4 (N:Nat):LoopsOk Tryz.prog TB (zBD.cfg N) (nthLoop (fnBody Tryz.f48) 0):=loopsL (l:=[]) (by kernel_rfl) trivial
theorem zBD.o4 (N:Nat):LoopOk Tryz.prog TB (nthLoop (fnBody Tryz.f48) 0) (loopCon N zBD.sk4 zBD.xs4 (fun {R}=>zBD.l4 (R:=R) N)):=loop_ok (g:=zBD.cfg N) tys_ok (zBD.cons N) mixed (zBD.i4 N) (fun d kn kx=>zBD.h4 N d kn kx)
theorem zBD.ls (N:Nat):LoopsOk Tryz.prog TB (zBD.cfg N) (fnBody Tryz.f48):=loopsL (l:=[nthLoop (fnBody Tryz.f48) 0]) (by kernel_rfl) ⟨loopOne (L0:=loopCon N zBD.sk4 zBD.xs4 (fun {R}=>zBD.l4 (R:=R) N)) (id:=4) (by kernel_rfl) (by kernel_rfl) (zBD.o4 N),trivial⟩
theorem zBD.q4 {R R':Type} {N n:Nat} {d} {k} {g:R->Option R'}:bindF (loopP (zBD.l4 N) n d k) g=loopP (zBD.l4 N) n d fun e=>bindF (k e) g:=bindF_loopP (fun d kn kx=>by simp only [zBD.l4,bindF_ifB,bindF_bindO,bindF_pure,bindF_none,bindF_onSum]) n d k
theorem zBD.b (N:Nat) (x0:den s24) (x1:den (.int .i64)):body (zBD.cfg N) N Tryz.f48 [.one,.one] [.v,.v] [(false,(.own .imm))] [⟨s24,.imm,x0⟩,⟨(.int .i64),.imm,x1⟩] (fun r i=>some (r,i))=bindO (zBD N x0 x1) fun r=>some ([⟨s22,(.own .imm),r⟩],[]):=by
 show _=bindF _ _
 conv=>rhs;simp only [zBD,bindF_ifB,bindF_bindO,bindF_pure,bindF_none,bindF_onSum,zBD.q4]
 kernel_rfl
theorem zBD.ok (N:Nat):ConOk Tryz.prog TB 48 [.one,.one] (zBD.con N):=ok2 (g:=zBD.cfg N) (N:=N) (res:=[(false,(.own .imm))]) tys_ok (zBD.cons N) mixed Tryz.func48 (zBD.ls N) rfl (zBD.b N)
theorem zBD.det (N:Nat):ConDet (zBD.con N):=det2
def zAY.sk5:Skel:=⟨dd 2 (.ptr 50 []::(.ptr 51 []::(dd 1 (.ov 52 []::(.pv (.int .i64)::(dd 114 [])))))),[⟨50,s24,.imm,true,false⟩,⟨51,s24,.imm,true,false⟩,⟨52,s22,(.own .imm),false,false⟩]⟩
def zAY.xs5:List XS:=[⟨.exit 0,[2,3,5],⟨dd 2 (.ptr 50 []::(.ptr 51 []::(dd 1 (.ov 52 []::(dd 115 []))))),[⟨50,s24,.imm,true,false⟩,⟨51,s24,.imm,true,false⟩,⟨52,s22,(.own .imm),false,false⟩]⟩⟩]
def zAY.sk9:Skel:=⟨dd 2 (.ptr 50 []::(.ptr 51 []::(dd 1 (.ov 52 []::(.pv (.int .i64)::(.pv .bool::(.pv (.int .i64)::(dd 112 [])))))))),[⟨50,s24,.imm,true,false⟩,⟨51,s24,.imm,true,false⟩,⟨52,s22,(.own .imm),false,false⟩]⟩
def zAY.xs9:List XS:=[⟨.exit 2,[2,3,5,6,7],⟨dd 2 (.ptr 50 []::(.ptr 51 []::(dd 1 (.ov 52 []::(.pv (.int .i64)::(.pv .bool::(dd 113 []))))))),[⟨50,s24,.imm,true,false⟩,⟨51,s24,.imm,true,false⟩,⟨52,s22,(.own .imm),false,false⟩]⟩⟩]
def zAY.con (N:Nat):Con:={ modes:=[.v,.v],ptrs:=[false],fn:=fn2 s24 .imm s24 .imm (zAY N) (fun r=>[⟨.str,.imm,r⟩]) (fun r=>[]) }
def zAY.cfg (N:Nat):Cfg:={ ty:=tys,keep:=[12,16,79,86,109,115],flt:=[],elm:=elm0,live:=[(9,[2,3,5,6,7,8]),(5,[2,3,5,6])],ord:=[(17,[0,1,2,3,7,8,9,4,5,6,10,11,12,13,14])],con:=[((6,[.one]),zA4.con N),((47,[.one,.one]),zB5.con N),((48,[.one,.one]),zBD.con N),((49,[.one]),zA5.con N)],loops:=[(5,loopCon N zAY.sk5 zAY.xs5 (fun {R}=>zAY.l5 (R:=R) N)),(9,loopCon N zAY.sk9 zAY.xs9 (fun {R}=>zAY.l9 (R:=R) N))],joins:=[(6,[⟨.normal,[2,3,5,6],⟨dd 2 (.ptr 50 []::(.ptr 51 []::(dd 1 (.ov 52 []::(.pv (.int .i64)::(dd 114 [])))))),[⟨50,s24,.imm,true,false⟩,⟨51,s24,.imm,true,false⟩,⟨52,s22,(.own .imm),false,false⟩]⟩⟩])] }
theorem zAY.cons (N:Nat):ConsOk Tryz.prog TB (zAY.cfg N).con:=(consOk_cons (hb6) (zA4.ok N) (zA4.det N) (consOk_cons (hb47) (zB5.ok N) (zB5.det N) (consOk_cons (hb48) (zBD.ok N) (zBD.det N) (consOk_cons (hb49) (zA5.ok N) (zA5.det N) consOk_nil))))
theorem zAY.h9 {R:Type} (N:Nat) (d:zAY.sk9.D) (kn:zAY.sk9.D->Option R) (kx:XD zAY.xs9->Option R):roundK (zAY.cfg N) N (nthLoop (fnBody Tryz.f17) 1) zAY.sk9 zAY.xs9 d kn kx=zAY.l9 N d kn kx:=by kernel_rfl
theorem zAY.i9 (N:Nat):LoopsOk Tryz.prog TB (zAY.cfg N) (nthLoop (fnBody Tryz.f17) 1):=loopsL (l:=[]) (by kernel_rfl) trivial
theorem zAY.o9 (N:Nat):LoopOk Tryz.prog TB (nthLoop (fnBody Tryz.f17) 1) (loopCon N zAY.sk9 zAY.xs9 (fun {R}=>zAY.l9 (R:=R) N)):=loop_ok (g:=zAY.cfg N) tys_ok (zAY.cons N) mixed (zAY.i9 N) (fun d kn kx=>zAY.h9 N d kn kx)
theorem zAY.h5 {R:Type} (N:Nat) (d:zAY.sk5.D) (kn:zAY.sk5.D->Option R) (kx:XD zAY.xs5->Option R):roundK (zAY.cfg N) N (nthLoop (fnBody Tryz.f17) 0) zAY.sk5 zAY.xs5 d kn kx=zAY.l5 N d kn kx:=by kernel_rfl
theorem zAY.i5 (N:Nat):LoopsOk Tryz.prog TB (zAY.cfg N) (nthLoop (fnBody Tryz.f17) 0):=loopsL (l:=[nthLoop (fnBody Tryz.f17) 1]) (by kernel_rfl) ⟨loopOne (L0:=loopCon N zAY.sk9 zAY.xs9 (fun {R}=>zAY.l9 (R:=R) N)) (id:=9) (by kernel_rfl) (by kernel_rfl) (zAY.o9 N),trivial⟩
theorem zAY.o5 (N:Nat):LoopOk Tryz.prog TB (nthLoop (fnBody Tryz.f17) 0) (loopCon N zAY.sk5 zAY.xs5 (fun {R}=>zAY.l5 (R:=R) N)):=loop_ok (g:=zAY.cfg N) tys_ok (zAY.cons N) mixed (zAY.i5 N) (fun d kn kx=>zAY.h5 N d kn kx)
theorem zAY.ls (N:Nat):LoopsOk Tryz.prog TB (zAY.cfg N) (fnBody Tryz.f17):=loopsL (l:=[nthLoop (fnBody Tryz.f17) 0,nthLoop (fnBody Tryz.f17) 1]) (by kernel_rfl) ⟨loopOne (L0:=loopCon N zAY.sk5 zAY.xs5 (fun {R}=>zAY.l5 (R:=R) N)) (id:=5) (by kernel_rfl) (by kernel_rfl) (zAY.o5 N),⟨loopOne (L0:=loopCon N zAY.sk9 zAY.xs9 (fun {R}=>zAY.l9 (R:=R) N)) (id:=9) (by kernel_rfl) (by kernel_rfl) (zAY.o9 N),trivial⟩⟩
theorem zAY.q9 {R R':Type} {N n:Nat} {d} {k} {g:R->Option R'}:bindF (loopP (zAY.l9 N) n d k) g=loopP (zAY.l9 N) n d fun e=>bindF (k e) g:=bindF_loopP (fun d kn kx=>by simp only [zAY.l9,bindF_ifB,bindF_bindO,bindF_pure,bindF_none,bindF_onSum]) n d k
theorem zAY.q5 {R R':Type} {N n:Nat} {d} {k} {g:R->Option R'}:bindF (loopP (zAY.l5 N) n d k) g=loopP (zAY.l5 N) n d fun e=>bindF (k e) g:=bindF_loopP (fun d kn kx=>by simp only [zAY.l5,bindF_ifB,bindF_bindO,bindF_pure,bindF_none,bindF_onSum,zAY.q9]) n d k
theorem zAY.b (N:Nat) (x0:den s24) (x1:den s24):body (zAY.cfg N) N Tryz.f17 [.one,.one] [.v,.v] [(false,.imm)] [⟨s24,.imm,x0⟩,⟨s24,.imm,x1⟩] (fun r i=>some (r,i))=bindO (zAY N x0 x1) fun r=>some ([⟨.str,.imm,r⟩],[]):=by
 show _=bindF _ _
 conv=>rhs;simp only [zAY,bindF_ifB,bindF_bindO,bindF_pure,bindF_none,bindF_onSum,zAY.q5,zAY.q9]
 kernel_rfl
theorem zAY.ok (N:Nat):ConOk Tryz.prog TB 17 [.one,.one] (zAY.con N):=ok2 (g:=zAY.cfg N) (N:=N) (res:=[(false,.imm)]) tys_ok (zAY.cons N) mixed Tryz.func17 (zAY.ls N) rfl (zAY.b N)
theorem zAY.det (N:Nat):ConDet (zAY.con N):=det2
def zCP.con (N:Nat):Con:={ modes:=[.v],ptrs:=[false],fn:=fn1 s24 .imm (zCP N) (fun r=>[⟨.str,.imm,r⟩]) (fun r=>[]) }
def zCP.cfg (N:Nat):Cfg:={ ty:=tys,keep:=[4,10,12],flt:=[],elm:=elm0,live:=[],ord:=[(3,[0,1,2,3,5,4,6,7])],con:=[((6,[.one]),zA4.con N),((18,[.one,.one]),zCB.con N),((17,[.one,.one]),zAY.con N)],loops:=[],joins:=[] }
theorem zCP.cons (N:Nat):ConsOk Tryz.prog TB (zCP.cfg N).con:=(consOk_cons (hb6) (zA4.ok N) (zA4.det N) (consOk_cons (hb18) (zCB.ok N) (zCB.det N) (consOk_cons (hb17) (zAY.ok N) (zAY.det N) consOk_nil)))
theorem zCP.ls (N:Nat):LoopsOk Tryz.prog TB (zCP.cfg N) (fnBody Tryz.f7):=loopsL (l:=[]) (by kernel_rfl) trivial
theorem zCP.b (N:Nat) (x0:den s24):body (zCP.cfg N) N Tryz.f7 [.one] [.v] [(false,.imm)] [⟨s24,.imm,x0⟩] (fun r i=>some (r,i))=bindO (zCP N x0) fun r=>some ([⟨.str,.imm,r⟩],[]):=by
 show _=bindF _ _
 conv=>rhs;simp only [zCP,bindF_ifB,bindF_bindO,bindF_pure,bindF_none,bindF_onSum]
 kernel_rfl
theorem zCP.ok (N:Nat):ConOk Tryz.prog TB 7 [.one] (zCP.con N):=ok1 (g:=zCP.cfg N) (N:=N) (res:=[(false,.imm)]) tys_ok (zCP.cons N) mixed Tryz.func7 (zCP.ls N) rfl (zCP.b N)
theorem zCP.det (N:Nat):ConDet (zCP.con N):=det1
def zCR.con (N:Nat):Con:={ modes:=[.v,.v],ptrs:=[false],fn:=fn2 s24 .imm (.int .i64) .imm (zCR N) (fun r=>[⟨.str,.imm,r⟩]) (fun r=>[]) }
def zCR.cfg (N:Nat):Cfg:={ ty:=tys,keep:=[6,13,17],flt:=[],elm:=elm0,live:=[],ord:=[],con:=[((19,[.one]),zAM.con N),((20,[.one,.one,.one]),zB7.con N),((21,[.one,.one]),zAC.con N)],loops:=[],joins:=[] }
theorem zCR.cons (N:Nat):ConsOk Tryz.prog TB (zCR.cfg N).con:=(consOk_cons (hb19) (zAM.ok N) (zAM.det N) (consOk_cons (hb20) (zB7.ok N) (zB7.det N) (consOk_cons (hb21) (zAC.ok N) (zAC.det N) consOk_nil)))
theorem zCR.ls (N:Nat):LoopsOk Tryz.prog TB (zCR.cfg N) (fnBody Tryz.f8):=loopsL (l:=[]) (by kernel_rfl) trivial
theorem zCR.b (N:Nat) (x0:den s24) (x1:den (.int .i64)):body (zCR.cfg N) N Tryz.f8 [.one,.one] [.v,.v] [(false,.imm)] [⟨s24,.imm,x0⟩,⟨(.int .i64),.imm,x1⟩] (fun r i=>some (r,i))=bindO (zCR N x0 x1) fun r=>some ([⟨.str,.imm,r⟩],[]):=by
 show _=bindF _ _
 conv=>rhs;simp only [zCR,bindF_ifB,bindF_bindO,bindF_pure,bindF_none,bindF_onSum]
 kernel_rfl
theorem zCR.ok (N:Nat):ConOk Tryz.prog TB 8 [.one,.one] (zCR.con N):=ok2 (g:=zCR.cfg N) (N:=N) (res:=[(false,.imm)]) tys_ok (zCR.cons N) mixed Tryz.func8 (zCR.ls N) rfl (zCR.b N)
theorem zCR.det (N:Nat):ConDet (zCR.con N):=det2
def zCI.con (N:Nat):Con:={ modes:=[.v],ptrs:=[false],fn:=fn1 .str .imm (zCI N) (fun r=>[⟨.bool,.imm,r⟩]) (fun r=>[]) }
def zCI.cfg (N:Nat):Cfg:={ ty:=tys,keep:=[],flt:=[],elm:=elm0,live:=[],ord:=[],con:=[],loops:=[],joins:=[] }
theorem zCI.cons (N:Nat):ConsOk Tryz.prog TB (zCI.cfg N).con:=consOk_nil
theorem zCI.ls (N:Nat):LoopsOk Tryz.prog TB (zCI.cfg N) (fnBody Tryz.f59):=loopsL (l:=[]) (by kernel_rfl) trivial
theorem zCI.b (N:Nat) (x0:den .str):body (zCI.cfg N) N Tryz.f59 [.one] [.v] [(false,.imm)] [⟨.str,.imm,x0⟩] (fun r i=>some (r,i))=bindO (zCI N x0) fun r=>some ([⟨.bool,.imm,r⟩],[]):=by
 show _=bindF _ _
 conv=>rhs;simp only [zCI,bindF_ifB,bindF_bindO,bindF_pure,bindF_none,bindF_onSum]
 kernel_rfl
theorem zCI.ok (N:Nat):ConOk Tryz.prog TB 59 [.one] (zCI.con N):=ok1 (g:=zCI.cfg N) (N:=N) (res:=[(false,.imm)]) tys_ok (zCI.cons N) mixed Tryz.func59 (zCI.ls N) rfl (zCI.b N)
theorem zCI.det (N:Nat):ConDet (zCI.con N):=det1
end Go.AE.F
end
