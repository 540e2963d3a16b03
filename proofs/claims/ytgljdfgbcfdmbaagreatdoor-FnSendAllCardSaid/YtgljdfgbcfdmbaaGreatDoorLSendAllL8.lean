/- The printed functions are what the program comes to: contracts. -/
import Derived.Test.YtgljdfgbcfdmbaaGreatDoorLSendAllL7
noncomputable section
namespace Go.AE.F
open Go.AE Go.Proofs
set_option maxRecDepth 100000
def zCD.con (N:Nat):Con:={ modes:=[.io,.v],ptrs:=[],fn:=fn2 s24 (.pr .imm (.pr .imm (.pr (.own .imm) .imm))) (.int .i64) .imm (zCD N) (fun r=>[]) (fun r=>[⟨s24,(.pr .imm (.pr .imm (.pr (.own .imm) .imm))),r⟩]) }
def zCD.cfg (N:Nat):Cfg:={ ty:=tys,keep:=[34,44,59],flt:=[],elm:=elm0,live:=[],ord:=[(0,[0,1,2,3,4,5,6,7,8,9,10,11,12,13,14])],con:=[((51,[.one,.one]),zAV.con N),((52,[.one]),zB0.con N),((62,[.one]),zAA.con N)],loops:=[],joins:=[] }
theorem zCD.cons (N:Nat):ConsOk Tryz.prog TB (zCD.cfg N).con:=(consOk_cons (hb51) (zAV.ok N) (zAV.det N) (consOk_cons (hb52) (zB0.ok N) (zB0.det N) (consOk_cons (hb62) (zAA.ok N) (zAA.det N) consOk_nil)))
theorem zCD.ls (N:Nat):LoopsOk Tryz.prog TB (zCD.cfg N) (fnBody Tryz.f66):=loopsL (l:=[]) (by kernel_rfl) trivial
theorem zCD.b (N:Nat) (x0:den s24) (x1:den (.int .i64)):body (zCD.cfg N) N Tryz.f66 [.one,.one] [.io,.v] [] [⟨s24,(.pr .imm (.pr .imm (.pr (.own .imm) .imm))),x0⟩,⟨(.int .i64),.imm,x1⟩] (fun r i=>some (r,i))=bindO (zCD N x0 x1) fun r=>some ([],[⟨s24,(.pr .imm (.pr .imm (.pr (.own .imm) .imm))),r⟩]):=by
 show _=bindF _ _
 conv=>rhs;simp only [zCD,bindF_ifB,bindF_bindO,bindF_pure,bindF_none,bindF_onSum]
 kernel_rfl
theorem zCD.ok (N:Nat):ConOk Tryz.prog TB 66 [.one,.one] (zCD.con N):=ok2 (g:=zCD.cfg N) (N:=N) (res:=[]) tys_ok (zCD.cons N) mixed Tryz.func66 (zCD.ls N) rfl (zCD.b N)
theorem zCD.det (N:Nat):ConDet (zCD.con N):=det2
def zAO.sk8:Skel:=⟨.ptr 0 []::(.pv (.int .i64)::(dd 2 (.pv (.int .i64)::(.pv (.int .i64)::(dd 50 (.pv (.int .i64)::(.pv (.int .i64)::(dd 49 [])))))))),[⟨0,s24,(.pr .imm (.pr .imm (.pr (.own .imm) .imm))),true,false⟩]⟩
def zAO.xs8:List XS:=[⟨.exit 0,[0,1,4,5],⟨.ptr 0 []::(.pv (.int .i64)::(dd 2 (.pv (.int .i64)::(.pv (.int .i64)::(dd 101 []))))),[⟨0,s24,(.pr .imm (.pr .imm (.pr (.own .imm) .imm))),true,false⟩]⟩⟩]
def zAO.con (N:Nat):Con:={ modes:=[.io,.v],ptrs:=[],fn:=fn2 s24 (.pr .imm (.pr .imm (.pr (.own .imm) .imm))) (.int .i64) .imm (zAO N) (fun r=>[]) (fun r=>[⟨s24,(.pr .imm (.pr .imm (.pr (.own .imm) .imm))),r⟩]) }
def zAO.cfg (N:Nat):Cfg:={ ty:=tys,keep:=[8,13,41,68],flt:=[],elm:=elm0,live:=[(8,[0,1,4,5,56,57])],ord:=[(3,[0,1,2,3,4,5,6,7,8,9,10,11,12,13,14,15,16,17,18,19]),(6,[0,1,2,3,4,5,6,7,8,9,10,11,12,13,14]),(14,[0,1,2,3,4,5,6,7,8])],con:=[((65,[.one]),zAX.con N),((66,[.one,.one]),zCD.con N),((28,[.one]),zBN.con N),((67,[.one,.one,.one]),zBU.con N)],loops:=[(8,loopCon N zAO.sk8 zAO.xs8 (fun {R}=>zAO.l8 (R:=R) N))],joins:=[] }
theorem zAO.cons (N:Nat):ConsOk Tryz.prog TB (zAO.cfg N).con:=(consOk_cons (hb65) (zAX.ok N) (zAX.det N) (consOk_cons (hb66) (zCD.ok N) (zCD.det N) (consOk_cons (hb28) (zBN.ok N) (zBN.det N) (consOk_cons (hb67) (zBU.ok N) (zBU.det N) consOk_nil))))
theorem zAO.h8 {R:Type} (N:Nat) (d:zAO.sk8.D) (kn:zAO.sk8.D->Option R) (kx:XD zAO.xs8->Option R):roundK (zAO.cfg N) N (nthLoop (fnBody Tryz.f30) 0) zAO.sk8 zAO.xs8 d kn kx=zAO.l8 N d kn kx:=by kernel_rfl
theorem zAO.i8 (N:Nat):LoopsOk Tryz.prog TB (zAO.cfg N) (nthLoop (fnBody Tryz.f30) 0):=loopsL (l:=[]) (by kernel_rfl) trivial
theorem zAO.o8 (N:Nat):LoopOk Tryz.prog TB (nthLoop (fnBody Tryz.f30) 0) (loopCon N zAO.sk8 zAO.xs8 (fun {R}=>zAO.l8 (R:=R) N)):=loop_ok (g:=zAO.cfg N) tys_ok (zAO.cons N) mixed (zAO.i8 N) (fun d kn kx=>zAO.h8 N d kn kx)
theorem zAO.ls (N:Nat):LoopsOk Tryz.prog TB (zAO.cfg N) (fnBody Tryz.f30):=loopsL (l:=[nthLoop (fnBody Tryz.f30) 0]) (by kernel_rfl) ⟨loopOne (L0:=loopCon N zAO.sk8 zAO.xs8 (fun {R}=>zAO.l8 (R:=R) N)) (id:=8) (by kernel_rfl) (by kernel_rfl) (zAO.o8 N),trivial⟩
theorem zAO.q8 {R R':Type} {N n:Nat} {d} {k} {g:R->Option R'}:bindF (loopP (zAO.l8 N) n d k) g=loopP (zAO.l8 N) n d fun e=>bindF (k e) g:=bindF_loopP (fun d kn kx=>by simp only [zAO.l8,bindF_ifB,bindF_bindO,bindF_pure,bindF_none,bindF_onSum]) n d k
theorem zAO.b (N:Nat) (x0:den s24) (x1:den (.int .i64)):body (zAO.cfg N) N Tryz.f30 [.one,.one] [.io,.v] [] [⟨s24,(.pr .imm (.pr .imm (.pr (.own .imm) .imm))),x0⟩,⟨(.int .i64),.imm,x1⟩] (fun r i=>some (r,i))=bindO (zAO N x0 x1) fun r=>some ([],[⟨s24,(.pr .imm (.pr .imm (.pr (.own .imm) .imm))),r⟩]):=by
 show _=bindF _ _
 conv=>rhs;simp only [zAO,bindF_ifB,bindF_bindO,bindF_pure,bindF_none,bindF_onSum,zAO.q8]
 kernel_rfl
theorem zAO.ok (N:Nat):ConOk Tryz.prog TB 30 [.one,.one] (zAO.con N):=ok2 (g:=zAO.cfg N) (N:=N) (res:=[]) tys_ok (zAO.cons N) mixed Tryz.func30 (zAO.ls N) rfl (zAO.b N)
theorem zAO.det (N:Nat):ConDet (zAO.con N):=det2
def zB1.sk5:Skel:=⟨dd 4 (.ptr 50 []::(.ptr 51 []::(.pv s40::(dd 77 [])))),[⟨50,s24,(.pr .imm (.pr .imm (.pr (.own (.pr (.own .imm) .imm)) .imm))),true,false⟩,⟨51,s24,(.pr .imm (.pr .imm (.pr (.own .imm) .imm))),true,false⟩]⟩
def zB1.xs5:List XS:=[⟨.exit 0,[4,5],⟨dd 4 (.ptr 50 []::(.ptr 51 []::(dd 78 []))),[⟨50,s24,(.pr .imm (.pr .imm (.pr (.own (.pr (.own .imm) .imm)) .imm))),true,false⟩,⟨51,s24,(.pr .imm (.pr .imm (.pr (.own .imm) .imm))),true,false⟩]⟩⟩]
def zB1.con (N:Nat):Con:={ modes:=[.v,.v],ptrs:=[false],fn:=fn2 s24 .imm .str .imm (zB1 N) (fun r=>[⟨s24,(.pr .imm (.pr .imm (.pr (.own .imm) .imm))),r⟩]) (fun r=>[]) }
def zB1.cfg (N:Nat):Cfg:={ ty:=tys,keep:=[10,13,18,20,47,66,78,81,83],flt:=[],elm:=elm0,live:=[(5,[4,5,6])],ord:=[],con:=[((23,[.one]),zCU.con N),((24,[.one]),zAL.con N),((25,[.one]),zB2.con N),((26,[.one]),zAR.con N),((27,[.one,.one]),zAF.con N),((28,[.one]),zBN.con N),((29,[.one]),zBS.con N),((30,[.one,.one]),zAO.con N)],loops:=[(5,loopCon N zB1.sk5 zB1.xs5 (fun {R}=>zB1.l5 (R:=R) N))],joins:=[] }
theorem zB1.cons (N:Nat):ConsOk Tryz.prog TB (zB1.cfg N).con:=(consOk_cons (hb23) (zCU.ok N) (zCU.det N) (consOk_cons (hb24) (zAL.ok N) (zAL.det N) (consOk_cons (hb25) (zB2.ok N) (zB2.det N) (consOk_cons (hb26) (zAR.ok N) (zAR.det N) (consOk_cons (hb27) (zAF.ok N) (zAF.det N) (consOk_cons (hb28) (zBN.ok N) (zBN.det N) (consOk_cons (hb29) (zBS.ok N) (zBS.det N) (consOk_cons (hb30) (zAO.ok N) (zAO.det N) consOk_nil))))))))
theorem zB1.h5 {R:Type} (N:Nat) (d:zB1.sk5.D) (kn:zB1.sk5.D->Option R) (kx:XD zB1.xs5->Option R):roundK (zB1.cfg N) N (nthLoop (fnBody Tryz.f10) 0) zB1.sk5 zB1.xs5 d kn kx=zB1.l5 N d kn kx:=by kernel_rfl
theorem zB1.i5 (N:Nat):LoopsOk Tryz.prog TB (zB1.cfg N) (nthLoop (fnBody Tryz.f10) 0):=loopsL (l:=[]) (by kernel_rfl) trivial
theorem zB1.o5 (N:Nat):LoopOk Tryz.prog TB (nthLoop (fnBody Tryz.f10) 0) (loopCon N zB1.sk5 zB1.xs5 (fun {R}=>zB1.l5 (R:=R) N)):=loop_ok (g:=zB1.cfg N) tys_ok (zB1.cons N) mixed (zB1.i5 N) (fun d kn kx=>zB1.h5 N d kn kx)
theorem zB1.ls (N:Nat):LoopsOk Tryz.prog TB (zB1.cfg N) (fnBody Tryz.f10):=loopsL (l:=[nthLoop (fnBody Tryz.f10) 0]) (by kernel_rfl) ⟨loopOne (L0:=loopCon N zB1.sk5 zB1.xs5 (fun {R}=>zB1.l5 (R:=R) N)) (id:=5) (by kernel_rfl) (by kernel_rfl) (zB1.o5 N),trivial⟩
theorem zB1.q5 {R R':Type} {N n:Nat} {d} {k} {g:R->Option R'}:bindF (loopP (zB1.l5 N) n d k) g=loopP (zB1.l5 N) n d fun e=>bindF (k e) g:=bindF_loopP (fun d kn kx=>by simp only [zB1.l5,bindF_ifB,bindF_bindO,bindF_pure,bindF_none,bindF_onSum]) n d k
theorem zB1.b (N:Nat) (x0:den s24) (x1:den .str):body (zB1.cfg N) N Tryz.f10 [.one,.one] [.v,.v] [(false,(.pr .imm (.pr .imm (.pr (.own .imm) .imm))))] [⟨s24,.imm,x0⟩,⟨.str,.imm,x1⟩] (fun r i=>some (r,i))=bindO (zB1 N x0 x1) fun r=>some ([⟨s24,(.pr .imm (.pr .imm (.pr (.own .imm) .imm))),r⟩],[]):=by
 show _=bindF _ _
 conv=>rhs;simp only [zB1,bindF_ifB,bindF_bindO,bindF_pure,bindF_none,bindF_onSum,zB1.q5]
 kernel_rfl
theorem zB1.ok (N:Nat):ConOk Tryz.prog TB 10 [.one,.one] (zB1.con N):=ok2 (g:=zB1.cfg N) (N:=N) (res:=[(false,(.pr .imm (.pr .imm (.pr (.own .imm) .imm))))]) tys_ok (zB1.cons N) mixed Tryz.func10 (zB1.ls N) rfl (zB1.b N)
theorem zB1.det (N:Nat):ConDet (zB1.con N):=det2
def zCM.con (N:Nat):Con:={ modes:=[.v,.v],ptrs:=[false],fn:=fn2 s24 .imm s24 .imm (zCM N) (fun r=>[⟨.bool,.imm,r⟩]) (fun r=>[]) }
def zCM.cfg (N:Nat):Cfg:={ ty:=tys,keep:=[22],flt:=[],elm:=elm0,live:=[],ord:=[],con:=[((22,[.one,.one]),zCA.con N)],loops:=[],joins:=[] }
theorem zCM.cons (N:Nat):ConsOk Tryz.prog TB (zCM.cfg N).con:=(consOk_cons (hb22) (zCA.ok N) (zCA.det N) consOk_nil)
theorem zCM.ls (N:Nat):LoopsOk Tryz.prog TB (zCM.cfg N) (fnBody Tryz.f9):=loopsL (l:=[]) (by kernel_rfl) trivial
theorem zCM.b (N:Nat) (x0:den s24) (x1:den s24):body (zCM.cfg N) N Tryz.f9 [.one,.one] [.v,.v] [(false,.imm)] [⟨s24,.imm,x0⟩,⟨s24,.imm,x1⟩] (fun r i=>some (r,i))=bindO (zCM N x0 x1) fun r=>some ([⟨.bool,.imm,r⟩],[]):=by
 show _=bindF _ _
 conv=>rhs;simp only [zCM,bindF_ifB,bindF_bindO,bindF_pure,bindF_none,bindF_onSum]
 kernel_rfl
theorem zCM.ok (N:Nat):ConOk Tryz.prog TB 9 [.one,.one] (zCM.con N):=ok2 (g:=zCM.cfg N) (N:=N) (res:=[(false,.imm)]) tys_ok (zCM.cons N) mixed Tryz.func9 (zCM.ls N) rfl (zCM.b N)
theorem zCM.det (N:Nat):ConDet (zCM.con N):=det2
def zAT.sk11:Skel:=⟨dd 3 (.ptr 50 []::(.pv .str::(.pv (.int .i64)::(.pv (.int .i64)::(dd 51 []))))),[⟨50,s24,(.pr .imm (.pr .imm (.pr (.own .imm) .imm))),true,false⟩]⟩
def zAT.xs11:List XS:=[⟨.exit 0,[3,4,5],⟨dd 3 (.ptr 50 []::(.pv .str::(.pv (.int .i64)::(dd 52 [])))),[⟨50,s24,(.pr .imm (.pr .imm (.pr (.own .imm) .imm))),true,false⟩]⟩⟩]
def zAT.con (N:Nat):Con:={ modes:=[.v],ptrs:=[false],fn:=fn1 s22 .imm (zAT N) (fun r=>[⟨.bool,.imm,r⟩]) (fun r=>[]) }
def zAT.cfg (N:Nat):Cfg:={ ty:=tys,keep:=[11,13,15,21,32,52,54,56],flt:=[],elm:=elm0,live:=[(11,[3,4,5,6])],ord:=[(16,[0,1,2,3,4,5,6,7,9,11,8,10,12,13,14])],con:=[((4,[.one]),zC5.con N),((5,[.one]),zCQ.con N),((6,[.one]),zA4.con N),((7,[.one]),zCP.con N),((8,[.one,.one]),zCR.con N),((11,[.one,.one]),zCH.con N),((10,[.one,.one]),zB1.con N),((9,[.one,.one]),zCM.con N)],loops:=[(11,loopCon N zAT.sk11 zAT.xs11 (fun {R}=>zAT.l11 (R:=R) N))],joins:=[] }
theorem zAT.cons (N:Nat):ConsOk Tryz.prog TB (zAT.cfg N).con:=(consOk_cons (hb4) (zC5.ok N) (zC5.det N) (consOk_cons (hb5) (zCQ.ok N) (zCQ.det N) (consOk_cons (hb6) (zA4.ok N) (zA4.det N) (consOk_cons (hb7) (zCP.ok N) (zCP.det N) (consOk_cons (hb8) (zCR.ok N) (zCR.det N) (consOk_cons (hb11) (zCH.ok N) (zCH.det N) (consOk_cons (hb10) (zB1.ok N) (zB1.det N) (consOk_cons (hb9) (zCM.ok N) (zCM.det N) consOk_nil))))))))
theorem zAT.h11 {R:Type} (N:Nat) (d:zAT.sk11.D) (kn:zAT.sk11.D->Option R) (kx:XD zAT.xs11->Option R):roundK (zAT.cfg N) N (nthLoop (fnBody Tryz.f3) 0) zAT.sk11 zAT.xs11 d kn kx=zAT.l11 N d kn kx:=by kernel_rfl
theorem zAT.i11 (N:Nat):LoopsOk Tryz.prog TB (zAT.cfg N) (nthLoop (fnBody Tryz.f3) 0):=loopsL (l:=[]) (by kernel_rfl) trivial
theorem zAT.o11 (N:Nat):LoopOk Tryz.prog TB (nthLoop (fnBody Tryz.f3) 0) (loopCon N zAT.sk11 zAT.xs11 (fun {R}=>zAT.l11 (R:=R) N)):=loop_ok (g:=zAT.cfg N) tys_ok (zAT.cons N) mixed (zAT.i11 N) (fun d kn kx=>zAT.h11 N d kn kx)
theorem zAT.ls (N:Nat):LoopsOk Tryz.prog TB (zAT.cfg N) (fnBody Tryz.f3):=loopsL (l:=[nthLoop (fnBody Tryz.f3) 0]) (by kernel_rfl) ⟨loopOne (L0:=loopCon N zAT.sk11 zAT.xs11 (fun {R}=>zAT.l11 (R:=R) N)) (id:=11) (by kernel_rfl) (by kernel_rfl) (zAT.o11 N),trivial⟩
theorem zAT.q11 {R R':Type} {N n:Nat} {d} {k} {g:R->Option R'}:bindF (loopP (zAT.l11 N) n d k) g=loopP (zAT.l11 N) n d fun e=>bindF (k e) g:=bindF_loopP (fun d kn kx=>by simp only [zAT.l11,bindF_ifB,bindF_bindO,bindF_pure,bindF_none,bindF_onSum]) n d k
theorem zAT.b (N:Nat) (x0:den s22):body (zAT.cfg N) N Tryz.f3 [.one] [.v] [(false,.imm)] [⟨s22,.imm,x0⟩] (fun r i=>some (r,i))=bindO (zAT N x0) fun r=>some ([⟨.bool,.imm,r⟩],[]):=by
 show _=bindF _ _
 conv=>rhs;simp only [zAT,bindF_ifB,bindF_bindO,bindF_pure,bindF_none,bindF_onSum,zAT.q11]
 kernel_rfl
theorem zAT.ok (N:Nat):ConOk Tryz.prog TB 3 [.one] (zAT.con N):=ok1 (g:=zAT.cfg N) (N:=N) (res:=[(false,.imm)]) tys_ok (zAT.cons N) mixed Tryz.func3 (zAT.ls N) rfl (zAT.b N)
theorem zAT.det (N:Nat):ConDet (zAT.con N):=det1
end Go.AE.F
end
