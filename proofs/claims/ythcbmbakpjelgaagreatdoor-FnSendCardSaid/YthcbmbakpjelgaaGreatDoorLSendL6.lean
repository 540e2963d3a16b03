/- The printed functions are what the program comes to: contracts. -/
import Derived.Test.YthcbmbakpjelgaaGreatDoorLSendL5
noncomputable section
namespace Go.AE.F
open Go.AE Go.Proofs Go.Lib
set_option maxRecDepth 100000
def zAH.sk5:Skel:=⟨dd 5 (.ptr 50 []::(.pv (.int .i64)::(dd 23 (.pv s23::(.pv (.int .i64)::(.pv (.int .i64)::(dd 24 []))))))),[⟨50,(.pair (.sl 39 .unit) (.pair s22 .unit)),(.pr .imm (.pr (.own .imm) .imm)),true,false⟩]⟩
def zAH.xs5:List XS:=[⟨.exit 0,[5,6],⟨dd 5 (.ptr 50 []::(.pv (.int .i64)::(dd 50 []))),[⟨50,(.pair (.sl 39 .unit) (.pair s22 .unit)),(.pr .imm (.pr (.own .imm) .imm)),true,false⟩]⟩⟩]
def zAH.con (N:Nat):Con:={ modes:=[.rd,.v],ptrs:=[false],fn:=fn2 s24 .imm (.int .i64) .imm (zAH N) (fun r=>[⟨.str,.imm,r⟩]) (fun r=>[]) }
def zAH.cfg (N:Nat):Cfg:={ ty:=tys,keep:=[10,12,36,44,47,50,51,55,56],flt:=[],elm:=elm0,live:=[(5,[5,6,30,31,32])],ord:=[(4,[0,1,2,3,4,5,6,7,8,9,10,11,12,13,14,15,16,17,19,18])],con:=[((19,[.one,.one]),zCV.con N),((16,[.one,.one]),strings_Builder_WriteString.con N),((43,[.one]),zB0.con N),((48,[.one]),zA9.con N),((49,[.one]),zB9.con N),((20,[.one]),strings_Builder_String.con N)],loops:=[(5,loopCon N zAH.sk5 zAH.xs5 (fun {R}=>zAH.l5 (R:=R) N))],joins:=[(12,[⟨.normal,[5,6,30,31,32],⟨dd 5 (.ptr 50 []::(.pv (.int .i64)::(dd 23 (.pv s23::(.pv (.int .i64)::(.pv (.int .i64)::(dd 24 []))))))),[⟨50,(.pair (.sl 39 .unit) (.pair s22 .unit)),(.pr .imm (.pr (.own .imm) .imm)),true,false⟩]⟩⟩])] }
theorem zAH.cons (N:Nat):ConsOk Tryz.prog TB (zAH.cfg N).con:=(consOk_cons (hb19) (zCV.ok N) (zCV.det N) (consOk_cons (hb16) (strings_Builder_WriteString.ok N) (strings_Builder_WriteString.det N) (consOk_cons (hb43) (zB0.ok N) (zB0.det N) (consOk_cons (hb48) (zA9.ok N) (zA9.det N) (consOk_cons (hb49) (zB9.ok N) (zB9.det N) (consOk_cons (hb20) (strings_Builder_String.ok N) (strings_Builder_String.det N) consOk_nil))))))
theorem zAH.h5 {R:Type} (N:Nat) (d:zAH.sk5.D) (kn:zAH.sk5.D->Option R) (kx:XD zAH.xs5->Option R):roundK (zAH.cfg N) N (nthLoop (fnBody Tryz.f17) 0) zAH.sk5 zAH.xs5 d kn kx=zAH.l5 N d kn kx:=by kernel_rfl
theorem zAH.i5 (N:Nat):LoopsOk Tryz.prog TB (zAH.cfg N) (nthLoop (fnBody Tryz.f17) 0):=loopsL (l:=[]) (by kernel_rfl) trivial
theorem zAH.o5 (N:Nat):LoopOk Tryz.prog TB (nthLoop (fnBody Tryz.f17) 0) (loopCon N zAH.sk5 zAH.xs5 (fun {R}=>zAH.l5 (R:=R) N)):=loop_ok (g:=zAH.cfg N) tys_ok (zAH.cons N) mixed (zAH.i5 N) (fun d kn kx=>zAH.h5 N d kn kx)
theorem zAH.ls (N:Nat):LoopsOk Tryz.prog TB (zAH.cfg N) (fnBody Tryz.f17):=loopsL (l:=[nthLoop (fnBody Tryz.f17) 0]) (by kernel_rfl) ⟨loopOne (L0:=loopCon N zAH.sk5 zAH.xs5 (fun {R}=>zAH.l5 (R:=R) N)) (id:=5) (by kernel_rfl) (by kernel_rfl) (zAH.o5 N),trivial⟩
theorem zAH.q5 {R R':Type} {N n:Nat} {d} {k} {g:R->Option R'}:bindF (loopP (zAH.l5 N) n d k) g=loopP (zAH.l5 N) n d fun e=>bindF (k e) g:=bindF_loopP (fun d kn kx=>by simp only [zAH.l5,bindF_ifB,bindF_bindO,bindF_pure,bindF_none,bindF_onSum]) n d k
theorem zAH.b (N:Nat) (x0:den s24) (x1:den (.int .i64)):body (zAH.cfg N) N Tryz.f17 [.one,.one] [.rd,.v] [(false,.imm)] [⟨s24,.imm,x0⟩,⟨(.int .i64),.imm,x1⟩] (fun r i=>some (r,i))=bindO (zAH N x0 x1) fun r=>some ([⟨.str,.imm,r⟩],[]):=by
 show _=bindF _ _
 conv=>rhs;simp only [zAH,bindF_ifB,bindF_bindO,bindF_pure,bindF_none,bindF_onSum,zAH.q5]
 kernel_rfl
theorem zAH.ok (N:Nat):ConOk Tryz.prog TB 17 [.one,.one] (zAH.con N):=ok2 (g:=zAH.cfg N) (N:=N) (res:=[(false,.imm)]) tys_ok (zAH.cons N) mixed Tryz.func17 (zAH.ls N) rfl (zAH.b N)
theorem zAH.det (N:Nat):ConDet (zAH.con N):=det2
set_option maxHeartbeats 1000000 in
set_option maxRecDepth 100000 in
theorem strings_Builder_Len.run:BltRun Tryz.prog 18 39 5 1:=by
 intro m w b p ad cap xs hR I
 have mixed:=mixed
 have c1:=I.c1
 unfold self
 go_enter Tryz.func18,Tryz.ntmps18
 go_wp2
 go_ret
 exact ⟨rfl,rfl⟩
def strings_Builder_Len.con (N:Nat):Con:={ modes:=[],ptrs:=[],bl:=some (39,5,1),fn:=fun _ _=>none }
theorem strings_Builder_Len.ok (N:Nat):ConOk Tryz.prog TB 18 [.one] (strings_Builder_Len.con N):=⟨fun h=>(by cases h),fun b h=>(by injection h with h;subst h;exact ⟨Tryz.zeroValue39,strings_Builder_Len.run⟩)⟩
theorem strings_Builder_Len.det (N:Nat):ConDet (strings_Builder_Len.con N):=fun ds R k y h=>by cases h
def zBN.sk5:Skel:=⟨dd 2 (.ptr 50 []::(.ptr 51 []::(dd 1 (.ptr 52 []::(dd 26 (.pv (.int .i64)::(.pv (.int .i64)::(dd 50 [])))))))),[⟨50,s24,.imm,true,false⟩,⟨51,s24,.imm,true,false⟩,⟨52,(.pair (.sl 39 .unit) (.pair s22 .unit)),(.pr .imm (.pr (.own .imm) .imm)),true,false⟩]⟩
def zBN.xs5:List XS:=[⟨.exit 0,[2,3,5],⟨dd 2 (.ptr 50 []::(.ptr 51 []::(dd 1 (.ptr 52 []::(dd 78 []))))),[⟨50,s24,.imm,true,false⟩,⟨51,s24,.imm,true,false⟩,⟨52,(.pair (.sl 39 .unit) (.pair s22 .unit)),(.pr .imm (.pr (.own .imm) .imm)),true,false⟩]⟩⟩]
def zBN.con (N:Nat):Con:={ modes:=[.v,.v],ptrs:=[false],fn:=fn2 s24 .imm s24 .imm (zBN N) (fun r=>[⟨.str,.imm,r⟩]) (fun r=>[]) }
def zBN.cfg (N:Nat):Cfg:={ ty:=tys,keep:=[10,14,55,58,59,61,81,82,83],flt:=[],elm:=elm0,live:=[(5,[2,3,5,32,33])],ord:=[(7,[0,1,2,3,4,5,6,7,8,9,10]),(8,[0,1,2,3,4,5,6,7,8,9,10,11])],con:=[((14,[.one]),zAO.con N),((15,[.one,.one]),zC8.con N),((17,[.one,.one]),zAH.con N),((16,[.one,.one]),strings_Builder_WriteString.con N),((18,[.one]),strings_Builder_Len.con N),((19,[.one,.one]),zCV.con N),((20,[.one]),strings_Builder_String.con N)],loops:=[(5,loopCon N zBN.sk5 zBN.xs5 (fun {R}=>zBN.l5 (R:=R) N))],joins:=[(10,[⟨.normal,[2,3,5,32,33],⟨dd 2 (.ptr 50 []::(.ptr 51 []::(dd 1 (.ptr 52 []::(dd 26 (.pv (.int .i64)::(.pv (.int .i64)::(dd 50 [])))))))),[⟨50,s24,.imm,true,false⟩,⟨51,s24,.imm,true,false⟩,⟨52,(.pair (.sl 39 .unit) (.pair s22 .unit)),(.pr .imm (.pr (.own .imm) .imm)),true,false⟩]⟩⟩])] }
theorem zBN.cons (N:Nat):ConsOk Tryz.prog TB (zBN.cfg N).con:=(consOk_cons (hb14) (zAO.ok N) (zAO.det N) (consOk_cons (hb15) (zC8.ok N) (zC8.det N) (consOk_cons (hb17) (zAH.ok N) (zAH.det N) (consOk_cons (hb16) (strings_Builder_WriteString.ok N) (strings_Builder_WriteString.det N) (consOk_cons (hb18) (strings_Builder_Len.ok N) (strings_Builder_Len.det N) (consOk_cons (hb19) (zCV.ok N) (zCV.det N) (consOk_cons (hb20) (strings_Builder_String.ok N) (strings_Builder_String.det N) consOk_nil)))))))
theorem zBN.h5 {R:Type} (N:Nat) (d:zBN.sk5.D) (kn:zBN.sk5.D->Option R) (kx:XD zBN.xs5->Option R):roundK (zBN.cfg N) N (nthLoop (fnBody Tryz.f5) 0) zBN.sk5 zBN.xs5 d kn kx=zBN.l5 N d kn kx:=by kernel_rfl
theorem zBN.i5 (N:Nat):LoopsOk Tryz.prog TB (zBN.cfg N) (nthLoop (fnBody Tryz.f5) 0):=loopsL (l:=[]) (by kernel_rfl) trivial
theorem zBN.o5 (N:Nat):LoopOk Tryz.prog TB (nthLoop (fnBody Tryz.f5) 0) (loopCon N zBN.sk5 zBN.xs5 (fun {R}=>zBN.l5 (R:=R) N)):=loop_ok (g:=zBN.cfg N) tys_ok (zBN.cons N) mixed (zBN.i5 N) (fun d kn kx=>zBN.h5 N d kn kx)
theorem zBN.ls (N:Nat):LoopsOk Tryz.prog TB (zBN.cfg N) (fnBody Tryz.f5):=loopsL (l:=[nthLoop (fnBody Tryz.f5) 0]) (by kernel_rfl) ⟨loopOne (L0:=loopCon N zBN.sk5 zBN.xs5 (fun {R}=>zBN.l5 (R:=R) N)) (id:=5) (by kernel_rfl) (by kernel_rfl) (zBN.o5 N),trivial⟩
theorem zBN.q5 {R R':Type} {N n:Nat} {d} {k} {g:R->Option R'}:bindF (loopP (zBN.l5 N) n d k) g=loopP (zBN.l5 N) n d fun e=>bindF (k e) g:=bindF_loopP (fun d kn kx=>by simp only [zBN.l5,bindF_ifB,bindF_bindO,bindF_pure,bindF_none,bindF_onSum]) n d k
theorem zBN.b (N:Nat) (x0:den s24) (x1:den s24):body (zBN.cfg N) N Tryz.f5 [.one,.one] [.v,.v] [(false,.imm)] [⟨s24,.imm,x0⟩,⟨s24,.imm,x1⟩] (fun r i=>some (r,i))=bindO (zBN N x0 x1) fun r=>some ([⟨.str,.imm,r⟩],[]):=by
 show _=bindF _ _
 conv=>rhs;simp only [zBN,bindF_ifB,bindF_bindO,bindF_pure,bindF_none,bindF_onSum,zBN.q5]
 kernel_rfl
theorem zBN.ok (N:Nat):ConOk Tryz.prog TB 5 [.one,.one] (zBN.con N):=ok2 (g:=zBN.cfg N) (N:=N) (res:=[(false,.imm)]) tys_ok (zBN.cons N) mixed Tryz.func5 (zBN.ls N) rfl (zBN.b N)
theorem zBN.det (N:Nat):ConDet (zBN.con N):=det2
def zA4.sk4:Skel:=⟨dd 1 (.ptr 50 []::(dd 1 (.pv (.int .i64)::(dd 52 [])))),[⟨50,s24,.imm,true,false⟩]⟩
def zA4.xs4:List XS:=[⟨.exit 0,[],⟨dd 56 [],[]⟩⟩,⟨.ret,[2],⟨dd 2 (.pv .bool::(dd 53 [])),[]⟩⟩]
def zA4.sk8:Skel:=⟨dd 1 (.ptr 50 []::(dd 1 (.pv (.int .i64)::(.pv .bool::(.pv (.int .i64)::(dd 50 [])))))),[⟨50,s24,.imm,true,false⟩]⟩
def zA4.xs8:List XS:=[⟨.exit 2,[1,3],⟨dd 1 (.ptr 50 []::(dd 1 (.pv (.int .i64)::(dd 52 [])))),[⟨50,s24,.imm,true,false⟩]⟩⟩,⟨.ret,[2],⟨dd 2 (.pv .bool::(dd 53 [])),[]⟩⟩]
def zA4.con (N:Nat):Con:={ modes:=[.v],ptrs:=[false],fn:=fn1 s24 .imm (zA4 N) (fun r=>[⟨.bool,.imm,r⟩]) (fun r=>[]) }
def zA4.cfg (N:Nat):Cfg:={ ty:=tys,keep:=[8,39],flt:=[],elm:=elm0,live:=[(8,[1,3,4,5]),(4,[1,3])],ord:=[],con:=[((24,[.one]),zAM.con N),((25,[.one,.one]),zCA.con N)],loops:=[(4,loopCon N zA4.sk4 zA4.xs4 (fun {R}=>zA4.l4 (R:=R) N)),(8,loopCon N zA4.sk8 zA4.xs8 (fun {R}=>zA4.l8 (R:=R) N))],joins:=[(9,[⟨.normal,[1,3,4,5],⟨dd 1 (.ptr 50 []::(dd 1 (.pv (.int .i64)::(.pv .bool::(.pv (.int .i64)::(dd 50 [])))))),[⟨50,s24,.imm,true,false⟩]⟩⟩,⟨.ret,[2],⟨dd 2 (.pv .bool::(dd 53 [])),[]⟩⟩])] }
theorem zA4.cons (N:Nat):ConsOk Tryz.prog TB (zA4.cfg N).con:=(consOk_cons (hb24) (zAM.ok N) (zAM.det N) (consOk_cons (hb25) (zCA.ok N) (zCA.det N) consOk_nil))
theorem zA4.h8 {R:Type} (N:Nat) (d:zA4.sk8.D) (kn:zA4.sk8.D->Option R) (kx:XD zA4.xs8->Option R):roundK (zA4.cfg N) N (nthLoop (fnBody Tryz.f8) 1) zA4.sk8 zA4.xs8 d kn kx=zA4.l8 N d kn kx:=by kernel_rfl
theorem zA4.i8 (N:Nat):LoopsOk Tryz.prog TB (zA4.cfg N) (nthLoop (fnBody Tryz.f8) 1):=loopsL (l:=[]) (by kernel_rfl) trivial
theorem zA4.o8 (N:Nat):LoopOk Tryz.prog TB (nthLoop (fnBody Tryz.f8) 1) (loopCon N zA4.sk8 zA4.xs8 (fun {R}=>zA4.l8 (R:=R) N)):=loop_ok (g:=zA4.cfg N) tys_ok (zA4.cons N) mixed (zA4.i8 N) (fun d kn kx=>zA4.h8 N d kn kx)
theorem zA4.h4 {R:Type} (N:Nat) (d:zA4.sk4.D) (kn:zA4.sk4.D->Option R) (kx:XD zA4.xs4->Option R):roundK (zA4.cfg N) N (nthLoop (fnBody Tryz.f8) 0) zA4.sk4 zA4.xs4 d kn kx=zA4.l4 N d kn kx:=by kernel_rfl
theorem zA4.i4 (N:Nat):LoopsOk Tryz.prog TB (zA4.cfg N) (nthLoop (fnBody Tryz.f8) 0):=loopsL (l:=[nthLoop (fnBody Tryz.f8) 1]) (by kernel_rfl) ⟨loopOne (L0:=loopCon N zA4.sk8 zA4.xs8 (fun {R}=>zA4.l8 (R:=R) N)) (id:=8) (by kernel_rfl) (by kernel_rfl) (zA4.o8 N),trivial⟩
theorem zA4.o4 (N:Nat):LoopOk Tryz.prog TB (nthLoop (fnBody Tryz.f8) 0) (loopCon N zA4.sk4 zA4.xs4 (fun {R}=>zA4.l4 (R:=R) N)):=loop_ok (g:=zA4.cfg N) tys_ok (zA4.cons N) mixed (zA4.i4 N) (fun d kn kx=>zA4.h4 N d kn kx)
theorem zA4.ls (N:Nat):LoopsOk Tryz.prog TB (zA4.cfg N) (fnBody Tryz.f8):=loopsL (l:=[nthLoop (fnBody Tryz.f8) 0,nthLoop (fnBody Tryz.f8) 1]) (by kernel_rfl) ⟨loopOne (L0:=loopCon N zA4.sk4 zA4.xs4 (fun {R}=>zA4.l4 (R:=R) N)) (id:=4) (by kernel_rfl) (by kernel_rfl) (zA4.o4 N),⟨loopOne (L0:=loopCon N zA4.sk8 zA4.xs8 (fun {R}=>zA4.l8 (R:=R) N)) (id:=8) (by kernel_rfl) (by kernel_rfl) (zA4.o8 N),trivial⟩⟩
theorem zA4.q8 {R R':Type} {N n:Nat} {d} {k} {g:R->Option R'}:bindF (loopP (zA4.l8 N) n d k) g=loopP (zA4.l8 N) n d fun e=>bindF (k e) g:=bindF_loopP (fun d kn kx=>by simp only [zA4.l8,bindF_ifB,bindF_bindO,bindF_pure,bindF_none,bindF_onSum]) n d k
theorem zA4.q4 {R R':Type} {N n:Nat} {d} {k} {g:R->Option R'}:bindF (loopP (zA4.l4 N) n d k) g=loopP (zA4.l4 N) n d fun e=>bindF (k e) g:=bindF_loopP (fun d kn kx=>by simp only [zA4.l4,bindF_ifB,bindF_bindO,bindF_pure,bindF_none,bindF_onSum,zA4.q8]) n d k
theorem zA4.b (N:Nat) (x0:den s24):body (zA4.cfg N) N Tryz.f8 [.one] [.v] [(false,.imm)] [⟨s24,.imm,x0⟩] (fun r i=>some (r,i))=bindO (zA4 N x0) fun r=>some ([⟨.bool,.imm,r⟩],[]):=by
 show _=bindF _ _
 conv=>rhs;simp only [zA4,bindF_ifB,bindF_bindO,bindF_pure,bindF_none,bindF_onSum,zA4.q4,zA4.q8]
 kernel_rfl
theorem zA4.ok (N:Nat):ConOk Tryz.prog TB 8 [.one] (zA4.con N):=ok1 (g:=zA4.cfg N) (N:=N) (res:=[(false,.imm)]) tys_ok (zA4.cons N) mixed Tryz.func8 (zA4.ls N) rfl (zA4.b N)
theorem zA4.det (N:Nat):ConDet (zA4.con N):=det1
def zB2.sk4:Skel:=⟨.pv s49::(.pv s49::(dd 3 (.pv (.int .i64)::(dd 20 [])))),[]⟩
def zB2.xs4:List XS:=[⟨.exit 0,[],⟨dd 26 [],[]⟩⟩,⟨.ret,[4],⟨dd 4 (.pv .bool::(dd 21 [])),[]⟩⟩]
def zB2.con (N:Nat):Con:={ modes:=[.v,.v],ptrs:=[false],fn:=fn2 s49 .imm s49 .imm (zB2 N) (fun r=>[⟨.bool,.imm,r⟩]) (fun r=>[]) }
def zB2.cfg (N:Nat):Cfg:={ ty:=tys,keep:=[],flt:=[],elm:=elm0,live:=[(4,[0,1,5])],ord:=[(6,[0,1,2,3,4,5,6,7,8])],con:=[],loops:=[(4,loopCon N zB2.sk4 zB2.xs4 (fun {R}=>zB2.l4 (R:=R) N))],joins:=[] }
theorem zB2.cons (N:Nat):ConsOk Tryz.prog TB (zB2.cfg N).con:=consOk_nil
theorem zB2.h4 {R:Type} (N:Nat) (d:zB2.sk4.D) (kn:zB2.sk4.D->Option R) (kx:XD zB2.xs4->Option R):roundK (zB2.cfg N) N (nthLoop (fnBody Tryz.f21) 0) zB2.sk4 zB2.xs4 d kn kx=zB2.l4 N d kn kx:=by kernel_rfl
theorem zB2.i4 (N:Nat):LoopsOk Tryz.prog TB (zB2.cfg N) (nthLoop (fnBody Tryz.f21) 0):=loopsL (l:=[]) (by kernel_rfl) trivial
theorem zB2.o4 (N:Nat):LoopOk Tryz.prog TB (nthLoop (fnBody Tryz.f21) 0) (loopCon N zB2.sk4 zB2.xs4 (fun {R}=>zB2.l4 (R:=R) N)):=loop_ok (g:=zB2.cfg N) tys_ok (zB2.cons N) mixed (zB2.i4 N) (fun d kn kx=>zB2.h4 N d kn kx)
theorem zB2.ls (N:Nat):LoopsOk Tryz.prog TB (zB2.cfg N) (fnBody Tryz.f21):=loopsL (l:=[nthLoop (fnBody Tryz.f21) 0]) (by kernel_rfl) ⟨loopOne (L0:=loopCon N zB2.sk4 zB2.xs4 (fun {R}=>zB2.l4 (R:=R) N)) (id:=4) (by kernel_rfl) (by kernel_rfl) (zB2.o4 N),trivial⟩
theorem zB2.q4 {R R':Type} {N n:Nat} {d} {k} {g:R->Option R'}:bindF (loopP (zB2.l4 N) n d k) g=loopP (zB2.l4 N) n d fun e=>bindF (k e) g:=bindF_loopP (fun d kn kx=>by simp only [zB2.l4,bindF_ifB,bindF_bindO,bindF_pure,bindF_none,bindF_onSum]) n d k
theorem zB2.b (N:Nat) (x0:den s49) (x1:den s49):body (zB2.cfg N) N Tryz.f21 [.one,.one] [.v,.v] [(false,.imm)] [⟨s49,.imm,x0⟩,⟨s49,.imm,x1⟩] (fun r i=>some (r,i))=bindO (zB2 N x0 x1) fun r=>some ([⟨.bool,.imm,r⟩],[]):=by
 show _=bindF _ _
 conv=>rhs;simp only [zB2,bindF_ifB,bindF_bindO,bindF_pure,bindF_none,bindF_onSum,zB2.q4]
 kernel_rfl
theorem zB2.ok (N:Nat):ConOk Tryz.prog TB 21 [.one,.one] (zB2.con N):=ok2 (g:=zB2.cfg N) (N:=N) (res:=[(false,.imm)]) tys_ok (zB2.cons N) mixed Tryz.func21 (zB2.ls N) rfl (zB2.b N)
theorem zB2.det (N:Nat):ConDet (zB2.con N):=det2
def zBD.sk4:Skel:=⟨dd 1 (.pv (.int .i64)::(.ptr 50 []::(dd 2 (.ov 51 []::(.pv (.int .i64)::(.pv (.int .i64)::(dd 50 []))))))),[⟨50,s24,.imm,true,false⟩,⟨51,s22,(.own .imm),false,false⟩]⟩
def zBD.xs4:List XS:=[⟨.exit 0,[5,6],⟨dd 5 (.ov 50 []::(.pv (.int .i64)::(dd 51 []))),[⟨50,s22,(.own .imm),false,false⟩]⟩⟩]
def zBD.con (N:Nat):Con:={ modes:=[.v,.v],ptrs:=[false],fn:=fn2 s24 .imm (.int .i64) .imm (zBD N) (fun r=>[⟨s22,(.own .imm),r⟩]) (fun r=>[]) }
def zBD.cfg (N:Nat):Cfg:={ ty:=tys,keep:=[11,42,51],flt:=[],elm:=elm0,live:=[(4,[1,2,5,6,7])],ord:=[],con:=[((23,[.one]),zA5.con N),((50,[.one]),zAU.con N)],loops:=[(4,loopCon N zBD.sk4 zBD.xs4 (fun {R}=>zBD.l4 (R:=R) N))],joins:=[(5,[⟨.normal,[1,2,5,6,7],⟨dd 1 (.pv (.int .i64)::(.ptr 50 []::(dd 2 (.ov 51 []::(.pv (.int .i64)::(.pv (.int .i64)::(dd 50 []))))))),[⟨50,s24,.imm,true,false⟩,⟨51,s22,(.own .imm),false,false⟩]⟩⟩])] }
theorem zBD.cons (N:Nat):ConsOk Tryz.prog TB (zBD.cfg N).con:=(consOk_cons (hb23) (zA5.ok N) (zA5.det N) (consOk_cons (hb50) (zAU.ok N) (zAU.det N) consOk_nil))
theorem zBD.h4 {R:Type} (N:Nat) (d:zBD.sk4.D) (kn:zBD.sk4.D->Option R) (kx:XD zBD.xs4->Option R):roundK (zBD.cfg N) N (nthLoop (fnBody Tryz.f22) 0) zBD.sk4 zBD.xs4 d kn kx=zBD.l4 N d kn kx:=by kernel_rfl
theorem zBD.i4 (N:Nat):LoopsOk Tryz.prog TB (zBD.cfg N) (nthLoop (fnBody Tryz.f22) 0):=loopsL (l:=[]) (by kernel_rfl) trivial
theorem zBD.o4 (N:Nat):LoopOk Tryz.prog TB (nthLoop (fnBody Tryz.f22) 0) (loopCon N zBD.sk4 zBD.xs4 (fun {R}=>zBD.l4 (R:=R) N)):=loop_ok (g:=zBD.cfg N) tys_ok (zBD.cons N) mixed (zBD.i4 N) (fun d kn kx=>zBD.h4 N d kn kx)
theorem zBD.ls (N:Nat):LoopsOk Tryz.prog TB (zBD.cfg N) (fnBody Tryz.f22):=loopsL (l:=[nthLoop (fnBody Tryz.f22) 0]) (by kernel_rfl) ⟨loopOne (L0:=loopCon N zBD.sk4 zBD.xs4 (fun {R}=>zBD.l4 (R:=R) N)) (id:=4) (by kernel_rfl) (by kernel_rfl) (zBD.o4 N),trivial⟩
theorem zBD.q4 {R R':Type} {N n:Nat} {d} {k} {g:R->Option R'}:bindF (loopP (zBD.l4 N) n d k) g=loopP (zBD.l4 N) n d fun e=>bindF (k e) g:=bindF_loopP (fun d kn kx=>by simp only [zBD.l4,bindF_ifB,bindF_bindO,bindF_pure,bindF_none,bindF_onSum]) n d k
theorem zBD.b (N:Nat) (x0:den s24) (x1:den (.int .i64)):body (zBD.cfg N) N Tryz.f22 [.one,.one] [.v,.v] [(false,(.own .imm))] [⟨s24,.imm,x0⟩,⟨(.int .i64),.imm,x1⟩] (fun r i=>some (r,i))=bindO (zBD N x0 x1) fun r=>some ([⟨s22,(.own .imm),r⟩],[]):=by
 show _=bindF _ _
 conv=>rhs;simp only [zBD,bindF_ifB,bindF_bindO,bindF_pure,bindF_none,bindF_onSum,zBD.q4]
 kernel_rfl
theorem zBD.ok (N:Nat):ConOk Tryz.prog TB 22 [.one,.one] (zBD.con N):=ok2 (g:=zBD.cfg N) (N:=N) (res:=[(false,(.own .imm))]) tys_ok (zBD.cons N) mixed Tryz.func22 (zBD.ls N) rfl (zBD.b N)
theorem zBD.det (N:Nat):ConDet (zBD.con N):=det2
def zAX.sk5:Skel:=⟨dd 2 (.ptr 50 []::(.ptr 51 []::(dd 1 (.ov 52 []::(.pv (.int .i64)::(dd 114 [])))))),[⟨50,s24,.imm,true,false⟩,⟨51,s24,.imm,true,false⟩,⟨52,s22,(.own .imm),false,false⟩]⟩
def zAX.xs5:List XS:=[⟨.exit 0,[2,3,5],⟨dd 2 (.ptr 50 []::(.ptr 51 []::(dd 1 (.ov 52 []::(dd 115 []))))),[⟨50,s24,.imm,true,false⟩,⟨51,s24,.imm,true,false⟩,⟨52,s22,(.own .imm),false,false⟩]⟩⟩]
def zAX.sk9:Skel:=⟨dd 2 (.ptr 50 []::(.ptr 51 []::(dd 1 (.ov 52 []::(.pv (.int .i64)::(.pv .bool::(.pv (.int .i64)::(dd 112 [])))))))),[⟨50,s24,.imm,true,false⟩,⟨51,s24,.imm,true,false⟩,⟨52,s22,(.own .imm),false,false⟩]⟩
def zAX.xs9:List XS:=[⟨.exit 2,[2,3,5,6,7],⟨dd 2 (.ptr 50 []::(.ptr 51 []::(dd 1 (.ov 52 []::(.pv (.int .i64)::(.pv .bool::(dd 113 []))))))),[⟨50,s24,.imm,true,false⟩,⟨51,s24,.imm,true,false⟩,⟨52,s22,(.own .imm),false,false⟩]⟩⟩]
def zAX.con (N:Nat):Con:={ modes:=[.v,.v],ptrs:=[false],fn:=fn2 s24 .imm s24 .imm (zAX N) (fun r=>[⟨.str,.imm,r⟩]) (fun r=>[]) }
def zAX.cfg (N:Nat):Cfg:={ ty:=tys,keep:=[12,16,79,86,109,115],flt:=[],elm:=elm0,live:=[(9,[2,3,5,6,7,8]),(5,[2,3,5,6])],ord:=[(17,[0,1,2,3,7,8,9,4,5,6,10,11,12,13,14])],con:=[((8,[.one]),zA4.con N),((21,[.one,.one]),zB2.con N),((22,[.one,.one]),zBD.con N),((23,[.one]),zA5.con N)],loops:=[(5,loopCon N zAX.sk5 zAX.xs5 (fun {R}=>zAX.l5 (R:=R) N)),(9,loopCon N zAX.sk9 zAX.xs9 (fun {R}=>zAX.l9 (R:=R) N))],joins:=[(6,[⟨.normal,[2,3,5,6],⟨dd 2 (.ptr 50 []::(.ptr 51 []::(dd 1 (.ov 52 []::(.pv (.int .i64)::(dd 114 [])))))),[⟨50,s24,.imm,true,false⟩,⟨51,s24,.imm,true,false⟩,⟨52,s22,(.own .imm),false,false⟩]⟩⟩])] }
theorem zAX.cons (N:Nat):ConsOk Tryz.prog TB (zAX.cfg N).con:=(consOk_cons (hb8) (zA4.ok N) (zA4.det N) (consOk_cons (hb21) (zB2.ok N) (zB2.det N) (consOk_cons (hb22) (zBD.ok N) (zBD.det N) (consOk_cons (hb23) (zA5.ok N) (zA5.det N) consOk_nil))))
theorem zAX.h9 {R:Type} (N:Nat) (d:zAX.sk9.D) (kn:zAX.sk9.D->Option R) (kx:XD zAX.xs9->Option R):roundK (zAX.cfg N) N (nthLoop (fnBody Tryz.f6) 1) zAX.sk9 zAX.xs9 d kn kx=zAX.l9 N d kn kx:=by kernel_rfl
theorem zAX.i9 (N:Nat):LoopsOk Tryz.prog TB (zAX.cfg N) (nthLoop (fnBody Tryz.f6) 1):=loopsL (l:=[]) (by kernel_rfl) trivial
theorem zAX.o9 (N:Nat):LoopOk Tryz.prog TB (nthLoop (fnBody Tryz.f6) 1) (loopCon N zAX.sk9 zAX.xs9 (fun {R}=>zAX.l9 (R:=R) N)):=loop_ok (g:=zAX.cfg N) tys_ok (zAX.cons N) mixed (zAX.i9 N) (fun d kn kx=>zAX.h9 N d kn kx)
theorem zAX.h5 {R:Type} (N:Nat) (d:zAX.sk5.D) (kn:zAX.sk5.D->Option R) (kx:XD zAX.xs5->Option R):roundK (zAX.cfg N) N (nthLoop (fnBody Tryz.f6) 0) zAX.sk5 zAX.xs5 d kn kx=zAX.l5 N d kn kx:=by kernel_rfl
theorem zAX.i5 (N:Nat):LoopsOk Tryz.prog TB (zAX.cfg N) (nthLoop (fnBody Tryz.f6) 0):=loopsL (l:=[nthLoop (fnBody Tryz.f6) 1]) (by kernel_rfl) ⟨loopOne (L0:=loopCon N zAX.sk9 zAX.xs9 (fun {R}=>zAX.l9 (R:=R) N)) (id:=9) (by kernel_rfl) (by kernel_rfl) (zAX.o9 N),trivial⟩
theorem zAX.o5 (N:Nat):LoopOk Tryz.prog TB (nthLoop (fnBody Tryz.f6) 0) (loopCon N zAX.sk5 zAX.xs5 (fun {R}=>zAX.l5 (R:=R) N)):=loop_ok (g:=zAX.cfg N) tys_ok (zAX.cons N) mixed (zAX.i5 N) (fun d kn kx=>zAX.h5 N d kn kx)
theorem zAX.ls (N:Nat):LoopsOk Tryz.prog TB (zAX.cfg N) (fnBody Tryz.f6):=loopsL (l:=[nthLoop (fnBody Tryz.f6) 0,nthLoop (fnBody Tryz.f6) 1]) (by kernel_rfl) ⟨loopOne (L0:=loopCon N zAX.sk5 zAX.xs5 (fun {R}=>zAX.l5 (R:=R) N)) (id:=5) (by kernel_rfl) (by kernel_rfl) (zAX.o5 N),⟨loopOne (L0:=loopCon N zAX.sk9 zAX.xs9 (fun {R}=>zAX.l9 (R:=R) N)) (id:=9) (by kernel_rfl) (by kernel_rfl) (zAX.o9 N),trivial⟩⟩
theorem zAX.q9 {R R':Type} {N n:Nat} {d} {k} {g:R->Option R'}:bindF (loopP (zAX.l9 N) n d k) g=loopP (zAX.l9 N) n d fun e=>bindF (k e) g:=bindF_loopP (fun d kn kx=>by simp only [zAX.l9,bindF_ifB,bindF_bindO,bindF_pure,bindF_none,bindF_onSum]) n d k
theorem zAX.q5 {R R':Type} {N n:Nat} {d} {k} {g:R->Option R'}:bindF (loopP (zAX.l5 N) n d k) g=loopP (zAX.l5 N) n d fun e=>bindF (k e) g:=bindF_loopP (fun d kn kx=>by simp only [zAX.l5,bindF_ifB,bindF_bindO,bindF_pure,bindF_none,bindF_onSum,zAX.q9]) n d k
theorem zAX.b (N:Nat) (x0:den s24) (x1:den s24):body (zAX.cfg N) N Tryz.f6 [.one,.one] [.v,.v] [(false,.imm)] [⟨s24,.imm,x0⟩,⟨s24,.imm,x1⟩] (fun r i=>some (r,i))=bindO (zAX N x0 x1) fun r=>some ([⟨.str,.imm,r⟩],[]):=by
 show _=bindF _ _
 conv=>rhs;simp only [zAX,bindF_ifB,bindF_bindO,bindF_pure,bindF_none,bindF_onSum,zAX.q5,zAX.q9]
 kernel_rfl
theorem zAX.ok (N:Nat):ConOk Tryz.prog TB 6 [.one,.one] (zAX.con N):=ok2 (g:=zAX.cfg N) (N:=N) (res:=[(false,.imm)]) tys_ok (zAX.cons N) mixed Tryz.func6 (zAX.ls N) rfl (zAX.b N)
theorem zAX.det (N:Nat):ConDet (zAX.con N):=det2
def zCH.con (N:Nat):Con:={ modes:=[.v,.v],ptrs:=[false],fn:=fn2 s24 .imm s24 .imm (zCH N) (fun r=>[⟨(.int .i64),.imm,r⟩]) (fun r=>[]) }
def zCH.cfg (N:Nat):Cfg:={ ty:=tys,keep:=[7],flt:=[],elm:=elm0,live:=[],ord:=[],con:=[((5,[.one,.one]),zBN.con N)],loops:=[],joins:=[] }
theorem zCH.cons (N:Nat):ConsOk Tryz.prog TB (zCH.cfg N).con:=(consOk_cons (hb5) (zBN.ok N) (zBN.det N) consOk_nil)
theorem zCH.ls (N:Nat):LoopsOk Tryz.prog TB (zCH.cfg N) (fnBody Tryz.f7):=loopsL (l:=[]) (by kernel_rfl) trivial
theorem zCH.b (N:Nat) (x0:den s24) (x1:den s24):body (zCH.cfg N) N Tryz.f7 [.one,.one] [.v,.v] [(false,.imm)] [⟨s24,.imm,x0⟩,⟨s24,.imm,x1⟩] (fun r i=>some (r,i))=bindO (zCH N x0 x1) fun r=>some ([⟨(.int .i64),.imm,r⟩],[]):=by
 show _=bindF _ _
 conv=>rhs;simp only [zCH,bindF_ifB,bindF_bindO,bindF_pure,bindF_none,bindF_onSum]
 kernel_rfl
theorem zCH.ok (N:Nat):ConOk Tryz.prog TB 7 [.one,.one] (zCH.con N):=ok2 (g:=zCH.cfg N) (N:=N) (res:=[(false,.imm)]) tys_ok (zCH.cons N) mixed Tryz.func7 (zCH.ls N) rfl (zCH.b N)
theorem zCH.det (N:Nat):ConDet (zCH.con N):=det2
def zCG.con (N:Nat):Con:={ modes:=[.v],ptrs:=[false],fn:=fn1 .str .imm (zCG N) (fun r=>[⟨.bool,.imm,r⟩]) (fun r=>[]) }
def zCG.cfg (N:Nat):Cfg:={ ty:=tys,keep:=[],flt:=[],elm:=elm0,live:=[],ord:=[],con:=[],loops:=[],joins:=[] }
theorem zCG.cons (N:Nat):ConsOk Tryz.prog TB (zCG.cfg N).con:=consOk_nil
theorem zCG.ls (N:Nat):LoopsOk Tryz.prog TB (zCG.cfg N) (fnBody Tryz.f55):=loopsL (l:=[]) (by kernel_rfl) trivial
theorem zCG.b (N:Nat) (x0:den .str):body (zCG.cfg N) N Tryz.f55 [.one] [.v] [(false,.imm)] [⟨.str,.imm,x0⟩] (fun r i=>some (r,i))=bindO (zCG N x0) fun r=>some ([⟨.bool,.imm,r⟩],[]):=by
 show _=bindF _ _
 conv=>rhs;simp only [zCG,bindF_ifB,bindF_bindO,bindF_pure,bindF_none,bindF_onSum]
 kernel_rfl
theorem zCG.ok (N:Nat):ConOk Tryz.prog TB 55 [.one] (zCG.con N):=ok1 (g:=zCG.cfg N) (N:=N) (res:=[(false,.imm)]) tys_ok (zCG.cons N) mixed Tryz.func55 (zCG.ls N) rfl (zCG.b N)
theorem zCG.det (N:Nat):ConDet (zCG.con N):=det1
def zA1.sk2:Skel:=⟨.pv (.sl 9 .str)::(.fn 55 []::(dd 5 (.pv (.int .i64)::(.pv (.int .i64)::(dd 10 []))))),[]⟩
def zA1.xs2:List XS:=[⟨.exit 0,[],⟨dd 19 [],[]⟩⟩,⟨.ret,[4],⟨dd 4 (.pv (.int .i64)::(dd 14 [])),[]⟩⟩]
def zA1.con (N:Nat):Con:={ modes:=[.v],ptrs:=[false],fn:=fn1 (.sl 9 .str) .imm (zA1 N) (fun r=>[⟨(.int .i64),.imm,r⟩]) (fun r=>[]) }
def zA1.cfg (N:Nat):Cfg:={ ty:=tys,keep:=[16],flt:=[],elm:=elm0,live:=[(2,[0,1,7,8])],ord:=[],con:=[((55,[.one]),zCG.con N)],loops:=[(2,loopCon N zA1.sk2 zA1.xs2 (fun {R}=>zA1.l2 (R:=R) N))],joins:=[] }
theorem zA1.cons (N:Nat):ConsOk Tryz.prog TB (zA1.cfg N).con:=(consOk_cons (hb55) (zCG.ok N) (zCG.det N) consOk_nil)
theorem zA1.h2 {R:Type} (N:Nat) (d:zA1.sk2.D) (kn:zA1.sk2.D->Option R) (kx:XD zA1.xs2->Option R):roundK (zA1.cfg N) N (nthLoop (fnBody Tryz.f81) 0) zA1.sk2 zA1.xs2 d kn kx=zA1.l2 N d kn kx:=by kernel_rfl
theorem zA1.i2 (N:Nat):LoopsOk Tryz.prog TB (zA1.cfg N) (nthLoop (fnBody Tryz.f81) 0):=loopsL (l:=[]) (by kernel_rfl) trivial
theorem zA1.o2 (N:Nat):LoopOk Tryz.prog TB (nthLoop (fnBody Tryz.f81) 0) (loopCon N zA1.sk2 zA1.xs2 (fun {R}=>zA1.l2 (R:=R) N)):=loop_ok (g:=zA1.cfg N) tys_ok (zA1.cons N) mixed (zA1.i2 N) (fun d kn kx=>zA1.h2 N d kn kx)
theorem zA1.ls (N:Nat):LoopsOk Tryz.prog TB (zA1.cfg N) (fnBody Tryz.f81):=loopsL (l:=[nthLoop (fnBody Tryz.f81) 0]) (by kernel_rfl) ⟨loopOne (L0:=loopCon N zA1.sk2 zA1.xs2 (fun {R}=>zA1.l2 (R:=R) N)) (id:=2) (by kernel_rfl) (by kernel_rfl) (zA1.o2 N),trivial⟩
theorem zA1.q2 {R R':Type} {N n:Nat} {d} {k} {g:R->Option R'}:bindF (loopP (zA1.l2 N) n d k) g=loopP (zA1.l2 N) n d fun e=>bindF (k e) g:=bindF_loopP (fun d kn kx=>by simp only [zA1.l2,bindF_ifB,bindF_bindO,bindF_pure,bindF_none,bindF_onSum]) n d k
theorem zA1.b (N:Nat) (x0:den (.sl 9 .str)):body (zA1.cfg N) N Tryz.f81 [.one,.fn 55 0] [.v] [(false,.imm)] [⟨(.sl 9 .str),.imm,x0⟩] (fun r i=>some (r,i))=bindO (zA1 N x0) fun r=>some ([⟨(.int .i64),.imm,r⟩],[]):=by
 show _=bindF _ _
 conv=>rhs;simp only [zA1,bindF_ifB,bindF_bindO,bindF_pure,bindF_none,bindF_onSum,zA1.q2]
 kernel_rfl
theorem zA1.ok (N:Nat):ConOk Tryz.prog TB 81 [.one,.fn 55 0] (zA1.con N):=ok1 (g:=zA1.cfg N) (N:=N) (res:=[(false,.imm)]) tys_ok (zA1.cons N) mixed Tryz.func81 (zA1.ls N) rfl (zA1.b N)
theorem zA1.det (N:Nat):ConDet (zA1.con N):=det1
def zA6.con (N:Nat):Con:={ modes:=[.v],ptrs:=[false],fn:=fn1 (.sl 9 .str) .imm (zA6 N) (fun r=>[⟨.bool,.imm,r⟩]) (fun r=>[]) }
def zA6.cfg (N:Nat):Cfg:={ ty:=tys,keep:=[7],flt:=[],elm:=elm0,live:=[],ord:=[],con:=[((81,[.one,.fn 55 0]),zA1.con N)],loops:=[],joins:=[] }
theorem zA6.cons (N:Nat):ConsOk Tryz.prog TB (zA6.cfg N).con:=(consOk_cons (hb81) (zA1.ok N) (zA1.det N) consOk_nil)
theorem zA6.ls (N:Nat):LoopsOk Tryz.prog TB (zA6.cfg N) (fnBody Tryz.f54):=loopsL (l:=[]) (by kernel_rfl) trivial
theorem zA6.b (N:Nat) (x0:den (.sl 9 .str)):body (zA6.cfg N) N Tryz.f54 [.one,.fn 55 0] [.v] [(false,.imm)] [⟨(.sl 9 .str),.imm,x0⟩] (fun r i=>some (r,i))=bindO (zA6 N x0) fun r=>some ([⟨.bool,.imm,r⟩],[]):=by
 show _=bindF _ _
 conv=>rhs;simp only [zA6,bindF_ifB,bindF_bindO,bindF_pure,bindF_none,bindF_onSum]
 kernel_rfl
theorem zA6.ok (N:Nat):ConOk Tryz.prog TB 54 [.one,.fn 55 0] (zA6.con N):=ok1 (g:=zA6.cfg N) (N:=N) (res:=[(false,.imm)]) tys_ok (zA6.cons N) mixed Tryz.func54 (zA6.ls N) rfl (zA6.b N)
theorem zA6.det (N:Nat):ConDet (zA6.con N):=det1
def zCR.con (N:Nat):Con:={ modes:=[.v],ptrs:=[false],fn:=fn1 (.sl 9 .str) .imm (zCR N) (fun r=>[⟨.bool,.imm,r⟩]) (fun r=>[]) }
def zCR.cfg (N:Nat):Cfg:={ ty:=tys,keep:=[4],flt:=[],elm:=elm0,live:=[],ord:=[],con:=[((54,[.one,.fn 55 0]),zA6.con N)],loops:=[],joins:=[] }
theorem zCR.cons (N:Nat):ConsOk Tryz.prog TB (zCR.cfg N).con:=(consOk_cons (hb54) (zA6.ok N) (zA6.det N) consOk_nil)
theorem zCR.ls (N:Nat):LoopsOk Tryz.prog TB (zCR.cfg N) (fnBody Tryz.f26):=loopsL (l:=[]) (by kernel_rfl) trivial
theorem zCR.b (N:Nat) (x0:den (.sl 9 .str)):body (zCR.cfg N) N Tryz.f26 [.one] [.v] [(false,.imm)] [⟨(.sl 9 .str),.imm,x0⟩] (fun r i=>some (r,i))=bindO (zCR N x0) fun r=>some ([⟨.bool,.imm,r⟩],[]):=by
 show _=bindF _ _
 conv=>rhs;simp only [zCR,bindF_ifB,bindF_bindO,bindF_pure,bindF_none,bindF_onSum]
 kernel_rfl
theorem zCR.ok (N:Nat):ConOk Tryz.prog TB 26 [.one] (zCR.con N):=ok1 (g:=zCR.cfg N) (N:=N) (res:=[(false,.imm)]) tys_ok (zCR.cons N) mixed Tryz.func26 (zCR.ls N) rfl (zCR.b N)
theorem zCR.det (N:Nat):ConDet (zCR.con N):=det1
end Go.AE.F
end
