/- The printed functions are what the program comes to: contracts. -/
import Derived.Test.YthcbmbakpjelgaaGreatDoorLSendL7
noncomputable section
namespace Go.AE.F
open Go.AE Go.Proofs
set_option maxRecDepth 100000
def zCI.con (N:Nat):Con:={ modes:=[.v,.v],ptrs:=[false],fn:=fn2 s24 .imm s24 .imm (zCI N) (fun r=>[⟨.bool,.imm,r⟩]) (fun r=>[]) }
def zCI.cfg (N:Nat):Cfg:={ ty:=tys,keep:=[22],flt:=[],elm:=elm0,live:=[],ord:=[],con:=[((15,[.one,.one]),zC8.con N)],loops:=[],joins:=[] }
theorem zCI.cons (N:Nat):ConsOk Tryz.prog TB (zCI.cfg N).con:=(consOk_cons (hb15) (zC8.ok N) (zC8.det N) consOk_nil)
theorem zCI.ls (N:Nat):LoopsOk Tryz.prog TB (zCI.cfg N) (fnBody Tryz.f9):=loopsL (l:=[]) (by kernel_rfl) trivial
theorem zCI.b (N:Nat) (x0:den s24) (x1:den s24):body (zCI.cfg N) N Tryz.f9 [.one,.one] [.v,.v] [(false,.imm)] [⟨s24,.imm,x0⟩,⟨s24,.imm,x1⟩] (fun r i=>some (r,i))=bindO (zCI N x0 x1) fun r=>some ([⟨.bool,.imm,r⟩],[]):=by
 show _=bindF _ _
 conv=>rhs;simp only [zCI,bindF_ifB,bindF_bindO,bindF_pure,bindF_none,bindF_onSum]
 kernel_rfl
theorem zCI.ok (N:Nat):ConOk Tryz.prog TB 9 [.one,.one] (zCI.con N):=ok2 (g:=zCI.cfg N) (N:=N) (res:=[(false,.imm)]) tys_ok (zCI.cons N) mixed Tryz.func9 (zCI.ls N) rfl (zCI.b N)
theorem zCI.det (N:Nat):ConDet (zCI.con N):=det2
def zAZ.sk4:Skel:=⟨dd 2 (.ptr 50 []::(.ptr 51 []::(dd 1 (.pv (.int .i64)::(dd 85 []))))),[⟨50,s24,.imm,true,false⟩,⟨51,s24,.imm,true,false⟩]⟩
def zAZ.xs4:List XS:=[⟨.exit 0,[],⟨dd 91 [],[]⟩⟩,⟨.ret,[4],⟨dd 4 (.pv .bool::(dd 86 [])),[]⟩⟩]
def zAZ.con (N:Nat):Con:={ modes:=[.v,.v],ptrs:=[false],fn:=fn2 s24 .imm s24 .imm (zAZ N) (fun r=>[⟨.bool,.imm,r⟩]) (fun r=>[]) }
def zAZ.cfg (N:Nat):Cfg:={ ty:=tys,keep:=[88],flt:=[],elm:=elm0,live:=[(4,[2,3,5])],ord:=[(6,[0,1,2,3,4,5,6,7,8,9,10,11,12,13,14,15,16,17,18,19,20,21,22,23,24,25,26,27,28])],con:=[((21,[.one,.one]),zB2.con N)],loops:=[(4,loopCon N zAZ.sk4 zAZ.xs4 (fun {R}=>zAZ.l4 (R:=R) N))],joins:=[] }
theorem zAZ.cons (N:Nat):ConsOk Tryz.prog TB (zAZ.cfg N).con:=(consOk_cons (hb21) (zB2.ok N) (zB2.det N) consOk_nil)
theorem zAZ.h4 {R:Type} (N:Nat) (d:zAZ.sk4.D) (kn:zAZ.sk4.D->Option R) (kx:XD zAZ.xs4->Option R):roundK (zAZ.cfg N) N (nthLoop (fnBody Tryz.f11) 0) zAZ.sk4 zAZ.xs4 d kn kx=zAZ.l4 N d kn kx:=by kernel_rfl
theorem zAZ.i4 (N:Nat):LoopsOk Tryz.prog TB (zAZ.cfg N) (nthLoop (fnBody Tryz.f11) 0):=loopsL (l:=[]) (by kernel_rfl) trivial
theorem zAZ.o4 (N:Nat):LoopOk Tryz.prog TB (nthLoop (fnBody Tryz.f11) 0) (loopCon N zAZ.sk4 zAZ.xs4 (fun {R}=>zAZ.l4 (R:=R) N)):=loop_ok (g:=zAZ.cfg N) tys_ok (zAZ.cons N) mixed (zAZ.i4 N) (fun d kn kx=>zAZ.h4 N d kn kx)
theorem zAZ.ls (N:Nat):LoopsOk Tryz.prog TB (zAZ.cfg N) (fnBody Tryz.f11):=loopsL (l:=[nthLoop (fnBody Tryz.f11) 0]) (by kernel_rfl) ⟨loopOne (L0:=loopCon N zAZ.sk4 zAZ.xs4 (fun {R}=>zAZ.l4 (R:=R) N)) (id:=4) (by kernel_rfl) (by kernel_rfl) (zAZ.o4 N),trivial⟩
theorem zAZ.q4 {R R':Type} {N n:Nat} {d} {k} {g:R->Option R'}:bindF (loopP (zAZ.l4 N) n d k) g=loopP (zAZ.l4 N) n d fun e=>bindF (k e) g:=bindF_loopP (fun d kn kx=>by simp only [zAZ.l4,bindF_ifB,bindF_bindO,bindF_pure,bindF_none,bindF_onSum]) n d k
theorem zAZ.b (N:Nat) (x0:den s24) (x1:den s24):body (zAZ.cfg N) N Tryz.f11 [.one,.one] [.v,.v] [(false,.imm)] [⟨s24,.imm,x0⟩,⟨s24,.imm,x1⟩] (fun r i=>some (r,i))=bindO (zAZ N x0 x1) fun r=>some ([⟨.bool,.imm,r⟩],[]):=by
 show _=bindF _ _
 conv=>rhs;simp only [zAZ,bindF_ifB,bindF_bindO,bindF_pure,bindF_none,bindF_onSum,zAZ.q4]
 kernel_rfl
theorem zAZ.ok (N:Nat):ConOk Tryz.prog TB 11 [.one,.one] (zAZ.con N):=ok2 (g:=zAZ.cfg N) (N:=N) (res:=[(false,.imm)]) tys_ok (zAZ.cons N) mixed Tryz.func11 (zAZ.ls N) rfl (zAZ.b N)
theorem zAZ.det (N:Nat):ConDet (zAZ.con N):=det2
def zCS.con (N:Nat):Con:={ modes:=[.v],ptrs:=[false],fn:=fn1 s22 .imm (zCS N) (fun r=>[⟨.bool,.imm,r⟩]) (fun r=>[]) }
def zCS.cfg (N:Nat):Cfg:={ ty:=tys,keep:=[],flt:=[],elm:=elm0,live:=[],ord:=[(9,[0,1,3,2,4,5,6,7,9,8,10,11,12,13,14,15,16,17,18])],con:=[((4,[.one]),zCL.con N),((5,[.one,.one]),zBN.con N),((6,[.one,.one]),zAX.con N),((7,[.one,.one]),zCH.con N),((8,[.one]),zA4.con N),((10,[.one,.one]),zB1.con N),((9,[.one,.one]),zCI.con N),((11,[.one,.one]),zAZ.con N)],loops:=[],joins:=[] }
theorem zCS.cons (N:Nat):ConsOk Tryz.prog TB (zCS.cfg N).con:=(consOk_cons (hb4) (zCL.ok N) (zCL.det N) (consOk_cons (hb5) (zBN.ok N) (zBN.det N) (consOk_cons (hb6) (zAX.ok N) (zAX.det N) (consOk_cons (hb7) (zCH.ok N) (zCH.det N) (consOk_cons (hb8) (zA4.ok N) (zA4.det N) (consOk_cons (hb10) (zB1.ok N) (zB1.det N) (consOk_cons (hb9) (zCI.ok N) (zCI.det N) (consOk_cons (hb11) (zAZ.ok N) (zAZ.det N) consOk_nil))))))))
theorem zCS.ls (N:Nat):LoopsOk Tryz.prog TB (zCS.cfg N) (fnBody Tryz.f3):=loopsL (l:=[]) (by kernel_rfl) trivial
theorem zCS.b (N:Nat) (x0:den s22):body (zCS.cfg N) N Tryz.f3 [.one] [.v] [(false,.imm)] [⟨s22,.imm,x0⟩] (fun r i=>some (r,i))=bindO (zCS N x0) fun r=>some ([⟨.bool,.imm,r⟩],[]):=by
 show _=bindF _ _
 conv=>rhs;simp only [zCS,bindF_ifB,bindF_bindO,bindF_pure,bindF_none,bindF_onSum]
 kernel_rfl
theorem zCS.ok (N:Nat):ConOk Tryz.prog TB 3 [.one] (zCS.con N):=ok1 (g:=zCS.cfg N) (N:=N) (res:=[(false,.imm)]) tys_ok (zCS.cons N) mixed Tryz.func3 (zCS.ls N) rfl (zCS.b N)
theorem zCS.det (N:Nat):ConDet (zCS.con N):=det1
end Go.AE.F
end
