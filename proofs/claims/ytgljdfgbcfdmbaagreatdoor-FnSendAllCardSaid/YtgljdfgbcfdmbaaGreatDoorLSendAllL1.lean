/- The printed functions are what the program comes to: contracts. -/
import Derived.Test.YtgljdfgbcfdmbaaGreatDoorLSendAllL0
noncomputable section
namespace Go.AE.F
open Go.AE Go.Proofs
set_option maxRecDepth 100000
def zC2.con (N:Nat):Con:={ modes:=[.v],ptrs:=[false],fn:=fn1 s41 .imm (zC2 N) (fun r=>[⟨.bool,.imm,r⟩]) (fun r=>[]) }
def zC2.cfg (N:Nat):Cfg:={ ty:=tys,keep:=[12],flt:=[],elm:=elm0,live:=[],ord:=[],con:=[((77,[.one]),zC4.con N)],loops:=[],joins:=[] }
theorem zC2.cons (N:Nat):ConsOk Tryz.prog TB (zC2.cfg N).con:=(consOk_cons (hb77) (zC4.ok N) (zC4.det N) consOk_nil)
theorem zC2.ls (N:Nat):LoopsOk Tryz.prog TB (zC2.cfg N) (fnBody Tryz.f46):=loopsL (l:=[]) (by kernel_rfl) trivial
theorem zC2.b (N:Nat) (x0:den s41):body (zC2.cfg N) N Tryz.f46 [.one] [.v] [(false,.imm)] [⟨s41,.imm,x0⟩] (fun r i=>some (r,i))=bindO (zC2 N x0) fun r=>some ([⟨.bool,.imm,r⟩],[]):=by
 show _=bindF _ _
 conv=>rhs;simp only [zC2,bindF_ifB,bindF_bindO,bindF_pure,bindF_none,bindF_onSum]
 kernel_rfl
theorem zC2.ok (N:Nat):ConOk Tryz.prog TB 46 [.one] (zC2.con N):=ok1 (g:=zC2.cfg N) (N:=N) (res:=[(false,.imm)]) tys_ok (zC2.cons N) mixed Tryz.func46 (zC2.ls N) rfl (zC2.b N)
theorem zC2.det (N:Nat):ConDet (zC2.con N):=det1
def zC1.con (N:Nat):Con:={ modes:=[.v],ptrs:=[false],fn:=fn1 s40 .imm (zC1 N) (fun r=>[⟨s40,(.own .imm),r⟩]) (fun r=>[]) }
def zC1.cfg (N:Nat):Cfg:={ ty:=tys,keep:=[],flt:=[],elm:=elm0,live:=[],ord:=[],con:=[],loops:=[],joins:=[] }
theorem zC1.cons (N:Nat):ConsOk Tryz.prog TB (zC1.cfg N).con:=consOk_nil
theorem zC1.ls (N:Nat):LoopsOk Tryz.prog TB (zC1.cfg N) (fnBody Tryz.f101):=loopsL (l:=[]) (by kernel_rfl) trivial
theorem zC1.b (N:Nat) (x0:den s40):body (zC1.cfg N) N Tryz.f101 [.one] [.v] [(false,(.own .imm))] [⟨s40,.imm,x0⟩] (fun r i=>some (r,i))=bindO (zC1 N x0) fun r=>some ([⟨s40,(.own .imm),r⟩],[]):=by
 show _=bindF _ _
 conv=>rhs;simp only [zC1,bindF_ifB,bindF_bindO,bindF_pure,bindF_none,bindF_onSum]
 kernel_rfl
theorem zC1.ok (N:Nat):ConOk Tryz.prog TB 101 [.one] (zC1.con N):=ok1 (g:=zC1.cfg N) (N:=N) (res:=[(false,(.own .imm))]) tys_ok (zC1.cons N) mixed Tryz.func101 (zC1.ls N) rfl (zC1.b N)
theorem zC1.det (N:Nat):ConDet (zC1.con N):=det1
def zC0.con (N:Nat):Con:={ modes:=[.io,.v,.v],ptrs:=[],fn:=fn3 s104 (.pr .imm (.pr (.own (.own (.pr (.own .imm) .imm))) .imm)) (.int .i64) .imm (.int .i64) .imm (zC0 N) (fun r=>[]) (fun r=>[⟨s104,(.pr .imm (.pr (.own (.own (.pr (.own .imm) .imm))) .imm)),r⟩]) }
def zC0.cfg (N:Nat):Cfg:={ ty:=tys,keep:=[10,38,69,87],flt:=[],elm:=elm0,live:=[],ord:=[(1,[0,1,2,3,4,5,6,7,8,9,10,11,12]),(8,[0,1,2,3,4,5,6,7,8,9,10]),(10,[0,1,2,3,4,5,6,7,8,9,10,11,12])],con:=[((77,[.one]),zC4.con N),((46,[.one]),zC2.con N),((101,[.one]),zC1.con N),((85,[.one]),zBH.con N)],loops:=[],joins:=[] }
theorem zC0.cons (N:Nat):ConsOk Tryz.prog TB (zC0.cfg N).con:=(consOk_cons (hb77) (zC4.ok N) (zC4.det N) (consOk_cons (hb46) (zC2.ok N) (zC2.det N) (consOk_cons (hb101) (zC1.ok N) (zC1.det N) (consOk_cons (hb85) (zBH.ok N) (zBH.det N) consOk_nil))))
theorem zC0.ls (N:Nat):LoopsOk Tryz.prog TB (zC0.cfg N) (fnBody Tryz.f100):=loopsL (l:=[]) (by kernel_rfl) trivial
theorem zC0.b (N:Nat) (x0:den s104) (x1:den (.int .i64)) (x2:den (.int .i64)):body (zC0.cfg N) N Tryz.f100 [.one,.one,.one] [.io,.v,.v] [] [⟨s104,(.pr .imm (.pr (.own (.own (.pr (.own .imm) .imm))) .imm)),x0⟩,⟨(.int .i64),.imm,x1⟩,⟨(.int .i64),.imm,x2⟩] (fun r i=>some (r,i))=bindO (zC0 N x0 x1 x2) fun r=>some ([],[⟨s104,(.pr .imm (.pr (.own (.own (.pr (.own .imm) .imm))) .imm)),r⟩]):=by
 show _=bindF _ _
 conv=>rhs;simp only [zC0,bindF_ifB,bindF_bindO,bindF_pure,bindF_none,bindF_onSum]
 kernel_rfl
theorem zC0.ok (N:Nat):ConOk Tryz.prog TB 100 [.one,.one,.one] (zC0.con N):=ok3 (g:=zC0.cfg N) (N:=N) (res:=[]) tys_ok (zC0.cons N) mixed Tryz.func100 (zC0.ls N) rfl (zC0.b N)
theorem zC0.det (N:Nat):ConDet (zC0.con N):=det3
def zAB.sk4:Skel:=⟨.ptr 0 []::(dd 1 (.pv (.int .i64)::(dd 3 (.ov 50 []::(.pv (.int .i64)::(dd 19 [])))))),[⟨0,s104,(.pr .imm (.pr (.own (.own (.pr (.own .imm) .imm))) .imm)),true,false⟩,⟨50,s40,(.own .imm),false,false⟩]⟩
def zAB.xs4:List XS:=[⟨.exit 0,[],⟨dd 27 [],[⟨0,s104,(.pr .imm (.pr (.own (.own (.pr (.own .imm) .imm))) .imm)),true,false⟩]⟩⟩]
def zAB.con (N:Nat):Con:={ modes:=[.io,.v,.v],ptrs:=[],fn:=fn3 s104 (.pr .imm (.pr (.own (.own (.pr (.own .imm) .imm))) .imm)) (.int .i64) .imm (.int .i64) .imm (zAB N) (fun r=>[]) (fun r=>[⟨s104,(.pr .imm (.pr (.own (.own (.pr (.own .imm) .imm))) .imm)),r⟩]) }
def zAB.cfg (N:Nat):Cfg:={ ty:=tys,keep:=[11,13,26],flt:=[],elm:=elm0,live:=[(4,[0,2,6,7])],ord:=[],con:=[((85,[.one]),zBH.con N),((99,[.one]),zCL.con N),((100,[.one,.one,.one]),zC0.con N)],loops:=[(4,loopCon N zAB.sk4 zAB.xs4 (fun {R}=>zAB.l4 (R:=R) N))],joins:=[] }
theorem zAB.cons (N:Nat):ConsOk Tryz.prog TB (zAB.cfg N).con:=(consOk_cons (hb85) (zBH.ok N) (zBH.det N) (consOk_cons (hb99) (zCL.ok N) (zCL.det N) (consOk_cons (hb100) (zC0.ok N) (zC0.det N) consOk_nil)))
theorem zAB.h4 {R:Type} (N:Nat) (d:zAB.sk4.D) (kn:zAB.sk4.D->Option R) (kx:XD zAB.xs4->Option R):roundK (zAB.cfg N) N (nthLoop (fnBody Tryz.f86) 0) zAB.sk4 zAB.xs4 d kn kx=zAB.l4 N d kn kx:=by kernel_rfl
theorem zAB.i4 (N:Nat):LoopsOk Tryz.prog TB (zAB.cfg N) (nthLoop (fnBody Tryz.f86) 0):=loopsL (l:=[]) (by kernel_rfl) trivial
theorem zAB.o4 (N:Nat):LoopOk Tryz.prog TB (nthLoop (fnBody Tryz.f86) 0) (loopCon N zAB.sk4 zAB.xs4 (fun {R}=>zAB.l4 (R:=R) N)):=loop_ok (g:=zAB.cfg N) tys_ok (zAB.cons N) mixed (zAB.i4 N) (fun d kn kx=>zAB.h4 N d kn kx)
theorem zAB.ls (N:Nat):LoopsOk Tryz.prog TB (zAB.cfg N) (fnBody Tryz.f86):=loopsL (l:=[nthLoop (fnBody Tryz.f86) 0]) (by kernel_rfl) ⟨loopOne (L0:=loopCon N zAB.sk4 zAB.xs4 (fun {R}=>zAB.l4 (R:=R) N)) (id:=4) (by kernel_rfl) (by kernel_rfl) (zAB.o4 N),trivial⟩
theorem zAB.q4 {R R':Type} {N n:Nat} {d} {k} {g:R->Option R'}:bindF (loopP (zAB.l4 N) n d k) g=loopP (zAB.l4 N) n d fun e=>bindF (k e) g:=bindF_loopP (fun d kn kx=>by simp only [zAB.l4,bindF_ifB,bindF_bindO,bindF_pure,bindF_none,bindF_onSum]) n d k
theorem zAB.b (N:Nat) (x0:den s104) (x1:den (.int .i64)) (x2:den (.int .i64)):body (zAB.cfg N) N Tryz.f86 [.one,.one,.one] [.io,.v,.v] [] [⟨s104,(.pr .imm (.pr (.own (.own (.pr (.own .imm) .imm))) .imm)),x0⟩,⟨(.int .i64),.imm,x1⟩,⟨(.int .i64),.imm,x2⟩] (fun r i=>some (r,i))=bindO (zAB N x0 x1 x2) fun r=>some ([],[⟨s104,(.pr .imm (.pr (.own (.own (.pr (.own .imm) .imm))) .imm)),r⟩]):=by
 show _=bindF _ _
 conv=>rhs;simp only [zAB,bindF_ifB,bindF_bindO,bindF_pure,bindF_none,bindF_onSum,zAB.q4]
 kernel_rfl
theorem zAB.ok (N:Nat):ConOk Tryz.prog TB 86 [.one,.one,.one] (zAB.con N):=ok3 (g:=zAB.cfg N) (N:=N) (res:=[]) tys_ok (zAB.cons N) mixed Tryz.func86 (zAB.ls N) rfl (zAB.b N)
theorem zAB.det (N:Nat):ConDet (zAB.con N):=det3
def zBM.con (N:Nat):Con:={ modes:=[.rd],ptrs:=[false],fn:=fn1 s104 .imm (zBM N) (fun r=>[⟨s100,.imm,r⟩]) (fun r=>[]) }
def zBM.cfg (N:Nat):Cfg:={ ty:=tys,keep:=[],flt:=[],elm:=elm0,live:=[],ord:=[(2,[0,1,2,3,4,5,6,7,8])],con:=[],loops:=[],joins:=[] }
theorem zBM.cons (N:Nat):ConsOk Tryz.prog TB (zBM.cfg N).con:=consOk_nil
theorem zBM.ls (N:Nat):LoopsOk Tryz.prog TB (zBM.cfg N) (fnBody Tryz.f87):=loopsL (l:=[]) (by kernel_rfl) trivial
theorem zBM.b (N:Nat) (x0:den s104):body (zBM.cfg N) N Tryz.f87 [.one] [.rd] [(false,.imm)] [⟨s104,.imm,x0⟩] (fun r i=>some (r,i))=bindO (zBM N x0) fun r=>some ([⟨s100,.imm,r⟩],[]):=by
 show _=bindF _ _
 conv=>rhs;simp only [zBM,bindF_ifB,bindF_bindO,bindF_pure,bindF_none,bindF_onSum]
 kernel_rfl
theorem zBM.ok (N:Nat):ConOk Tryz.prog TB 87 [.one] (zBM.con N):=ok1 (g:=zBM.cfg N) (N:=N) (res:=[(false,.imm)]) tys_ok (zBM.cons N) mixed Tryz.func87 (zBM.ls N) rfl (zBM.b N)
theorem zBM.det (N:Nat):ConDet (zBM.con N):=det1
def zCF.con (N:Nat):Con:={ modes:=[.v,.v],ptrs:=[false],fn:=fn2 (.int .i64) .imm (.int .i64) .imm (zCF N) (fun r=>[⟨(.int .i64),.imm,r⟩]) (fun r=>[]) }
def zCF.cfg (N:Nat):Cfg:={ ty:=tys,keep:=[],flt:=[],elm:=elm0,live:=[],ord:=[],con:=[],loops:=[],joins:=[] }
theorem zCF.cons (N:Nat):ConsOk Tryz.prog TB (zCF.cfg N).con:=consOk_nil
theorem zCF.ls (N:Nat):LoopsOk Tryz.prog TB (zCF.cfg N) (fnBody Tryz.f88):=loopsL (l:=[]) (by kernel_rfl) trivial
theorem zCF.b (N:Nat) (x0:den (.int .i64)) (x1:den (.int .i64)):body (zCF.cfg N) N Tryz.f88 [.one,.one] [.v,.v] [(false,.imm)] [⟨(.int .i64),.imm,x0⟩,⟨(.int .i64),.imm,x1⟩] (fun r i=>some (r,i))=bindO (zCF N x0 x1) fun r=>some ([⟨(.int .i64),.imm,r⟩],[]):=by
 show _=bindF _ _
 conv=>rhs;simp only [zCF,bindF_ifB,bindF_bindO,bindF_pure,bindF_none,bindF_onSum]
 kernel_rfl
theorem zCF.ok (N:Nat):ConOk Tryz.prog TB 88 [.one,.one] (zCF.con N):=ok2 (g:=zCF.cfg N) (N:=N) (res:=[(false,.imm)]) tys_ok (zCF.cons N) mixed Tryz.func88 (zCF.ls N) rfl (zCF.b N)
theorem zCF.det (N:Nat):ConDet (zCF.con N):=det2
def zBV.con (N:Nat):Con:={ modes:=[.v,.v],ptrs:=[false],fn:=fn2 (.int .i64) .imm (.int .i64) .imm (zBV N) (fun r=>[⟨(.int .i64),.imm,r⟩]) (fun r=>[]) }
def zBV.cfg (N:Nat):Cfg:={ ty:=tys,keep:=[],flt:=[],elm:=elm0,live:=[],ord:=[],con:=[],loops:=[],joins:=[] }
theorem zBV.cons (N:Nat):ConsOk Tryz.prog TB (zBV.cfg N).con:=consOk_nil
theorem zBV.ls (N:Nat):LoopsOk Tryz.prog TB (zBV.cfg N) (fnBody Tryz.f71):=loopsL (l:=[]) (by kernel_rfl) trivial
theorem zBV.b (N:Nat) (x0:den (.int .i64)) (x1:den (.int .i64)):body (zBV.cfg N) N Tryz.f71 [.one,.one] [.v,.v] [(false,.imm)] [⟨(.int .i64),.imm,x0⟩,⟨(.int .i64),.imm,x1⟩] (fun r i=>some (r,i))=bindO (zBV N x0 x1) fun r=>some ([⟨(.int .i64),.imm,r⟩],[]):=by
 show _=bindF _ _
 conv=>rhs;simp only [zBV,bindF_ifB,bindF_bindO,bindF_pure,bindF_none,bindF_onSum]
 kernel_rfl
theorem zBV.ok (N:Nat):ConOk Tryz.prog TB 71 [.one,.one] (zBV.con N):=ok2 (g:=zBV.cfg N) (N:=N) (res:=[(false,.imm)]) tys_ok (zBV.cons N) mixed Tryz.func71 (zBV.ls N) rfl (zBV.b N)
theorem zBV.det (N:Nat):ConDet (zBV.con N):=det2
def zAK.sk4:Skel:=⟨.pv s40::(dd 1 (.pv .bool::(dd 2 (.ptr 50 []::(dd 4 (.ptr 51 []::(.pv (.int .i64)::(dd 68 [])))))))),[⟨50,s60,.imm,true,false⟩,⟨51,s104,(.pr .imm (.pr (.own (.own (.pr (.own .imm) .imm))) .imm)),true,false⟩]⟩
def zAK.xs4:List XS:=[⟨.exit 0,[2,5,10],⟨dd 2 (.pv .bool::(dd 2 (.ptr 50 []::(dd 4 (.ptr 51 []::(dd 69 [])))))),[⟨50,s60,.imm,true,false⟩,⟨51,s104,(.pr .imm (.pr (.own (.own (.pr (.own .imm) .imm))) .imm)),true,false⟩]⟩⟩]
def zAK.sk11:Skel:=⟨dd 2 (.pv .bool::(dd 2 (.ptr 50 []::(dd 4 (.ptr 51 []::(dd 1 (.ov 52 []::(.pv (.int .i64)::(.pv (.int .i64)::(.pv (.int .i64)::(dd 64 []))))))))))),[⟨50,s60,.imm,true,false⟩,⟨51,s104,(.pr .imm (.pr (.own (.own (.pr (.own .imm) .imm))) .imm)),true,false⟩,⟨52,s97,(.own .imm),false,false⟩]⟩
def zAK.xs11:List XS:=[⟨.exit 2,[10,12],⟨dd 10 (.ptr 50 []::(dd 1 (.ov 51 []::(dd 67 [])))),[⟨50,s104,(.pr .imm (.pr (.own (.own (.pr (.own .imm) .imm))) .imm)),true,false⟩,⟨51,s97,(.own .imm),false,false⟩]⟩⟩]
def zAK.con (N:Nat):Con:={ modes:=[.v,.v,.v,.v],ptrs:=[true,false],fn:=fn4 s40 .imm s60 .imm .bool .imm (.int .i64) .imm (zAK N) (fun r=>[⟨s104,.imm,r.1⟩,⟨s97,.imm,r.2⟩]) (fun r=>[]) }
def zAK.cfg (N:Nat):Cfg:={ ty:=tys,keep:=[21,33,35,41,46,72,75],flt:=[],elm:=elm0,live:=[(11,[2,5,10,12,13,14,15]),(4,[0,2,5,10,11])],ord:=[],con:=[((85,[.one]),zBH.con N),((86,[.one,.one,.one]),zAB.con N),((87,[.one]),zBM.con N),((88,[.one,.one]),zCF.con N),((71,[.one,.one]),zBV.con N)],loops:=[(4,loopCon N zAK.sk4 zAK.xs4 (fun {R}=>zAK.l4 (R:=R) N)),(11,loopCon N zAK.sk11 zAK.xs11 (fun {R}=>zAK.l11 (R:=R) N))],joins:=[(12,[⟨.normal,[2,5,10,12,13,14,15],⟨dd 2 (.pv .bool::(dd 2 (.ptr 50 []::(dd 4 (.ptr 51 []::(dd 1 (.ov 52 []::(.pv (.int .i64)::(.pv (.int .i64)::(.pv (.int .i64)::(dd 64 []))))))))))),[⟨50,s60,.imm,true,false⟩,⟨51,s104,(.pr .imm (.pr (.own (.own (.pr (.own .imm) .imm))) .imm)),true,false⟩,⟨52,s97,(.own .imm),false,false⟩]⟩⟩])] }
theorem zAK.cons (N:Nat):ConsOk Tryz.prog TB (zAK.cfg N).con:=(consOk_cons (hb85) (zBH.ok N) (zBH.det N) (consOk_cons (hb86) (zAB.ok N) (zAB.det N) (consOk_cons (hb87) (zBM.ok N) (zBM.det N) (consOk_cons (hb88) (zCF.ok N) (zCF.det N) (consOk_cons (hb71) (zBV.ok N) (zBV.det N) consOk_nil)))))
theorem zAK.h11 {R:Type} (N:Nat) (d:zAK.sk11.D) (kn:zAK.sk11.D->Option R) (kx:XD zAK.xs11->Option R):roundK (zAK.cfg N) N (nthLoop (fnBody Tryz.f70) 1) zAK.sk11 zAK.xs11 d kn kx=zAK.l11 N d kn kx:=by kernel_rfl
theorem zAK.i11 (N:Nat):LoopsOk Tryz.prog TB (zAK.cfg N) (nthLoop (fnBody Tryz.f70) 1):=loopsL (l:=[]) (by kernel_rfl) trivial
theorem zAK.o11 (N:Nat):LoopOk Tryz.prog TB (nthLoop (fnBody Tryz.f70) 1) (loopCon N zAK.sk11 zAK.xs11 (fun {R}=>zAK.l11 (R:=R) N)):=loop_ok (g:=zAK.cfg N) tys_ok (zAK.cons N) mixed (zAK.i11 N) (fun d kn kx=>zAK.h11 N d kn kx)
theorem zAK.h4 {R:Type} (N:Nat) (d:zAK.sk4.D) (kn:zAK.sk4.D->Option R) (kx:XD zAK.xs4->Option R):roundK (zAK.cfg N) N (nthLoop (fnBody Tryz.f70) 0) zAK.sk4 zAK.xs4 d kn kx=zAK.l4 N d kn kx:=by kernel_rfl
theorem zAK.i4 (N:Nat):LoopsOk Tryz.prog TB (zAK.cfg N) (nthLoop (fnBody Tryz.f70) 0):=loopsL (l:=[]) (by kernel_rfl) trivial
theorem zAK.o4 (N:Nat):LoopOk Tryz.prog TB (nthLoop (fnBody Tryz.f70) 0) (loopCon N zAK.sk4 zAK.xs4 (fun {R}=>zAK.l4 (R:=R) N)):=loop_ok (g:=zAK.cfg N) tys_ok (zAK.cons N) mixed (zAK.i4 N) (fun d kn kx=>zAK.h4 N d kn kx)
theorem zAK.ls (N:Nat):LoopsOk Tryz.prog TB (zAK.cfg N) (fnBody Tryz.f70):=loopsL (l:=[nthLoop (fnBody Tryz.f70) 0,nthLoop (fnBody Tryz.f70) 1]) (by kernel_rfl) ⟨loopOne (L0:=loopCon N zAK.sk4 zAK.xs4 (fun {R}=>zAK.l4 (R:=R) N)) (id:=4) (by kernel_rfl) (by kernel_rfl) (zAK.o4 N),⟨loopOne (L0:=loopCon N zAK.sk11 zAK.xs11 (fun {R}=>zAK.l11 (R:=R) N)) (id:=11) (by kernel_rfl) (by kernel_rfl) (zAK.o11 N),trivial⟩⟩
theorem zAK.q11 {R R':Type} {N n:Nat} {d} {k} {g:R->Option R'}:bindF (loopP (zAK.l11 N) n d k) g=loopP (zAK.l11 N) n d fun e=>bindF (k e) g:=bindF_loopP (fun d kn kx=>by simp only [zAK.l11,bindF_ifB,bindF_bindO,bindF_pure,bindF_none,bindF_onSum]) n d k
theorem zAK.q4 {R R':Type} {N n:Nat} {d} {k} {g:R->Option R'}:bindF (loopP (zAK.l4 N) n d k) g=loopP (zAK.l4 N) n d fun e=>bindF (k e) g:=bindF_loopP (fun d kn kx=>by simp only [zAK.l4,bindF_ifB,bindF_bindO,bindF_pure,bindF_none,bindF_onSum]) n d k
theorem zAK.b (N:Nat) (x0:den s40) (x1:den s60) (x2:den .bool) (x3:den (.int .i64)):body (zAK.cfg N) N Tryz.f70 [.one,.one,.one,.one] [.v,.v,.v,.v] [(true,.imm),(false,.imm)] [⟨s40,.imm,x0⟩,⟨s60,.imm,x1⟩,⟨.bool,.imm,x2⟩,⟨(.int .i64),.imm,x3⟩] (fun r i=>some (r,i))=bindO (zAK N x0 x1 x2 x3) fun r=>some ([⟨s104,.imm,r.1⟩,⟨s97,.imm,r.2⟩],[]):=by
 show _=bindF _ _
 conv=>rhs;simp only [zAK,bindF_ifB,bindF_bindO,bindF_pure,bindF_none,bindF_onSum,zAK.q4,zAK.q11]
 kernel_rfl
theorem zAK.ok (N:Nat):ConOk Tryz.prog TB 70 [.one,.one,.one,.one] (zAK.con N):=ok4 (g:=zAK.cfg N) (N:=N) (res:=[(true,.imm),(false,.imm)]) tys_ok (zAK.cons N) mixed Tryz.func70 (zAK.ls N) rfl (zAK.b N)
theorem zAK.det (N:Nat):ConDet (zAK.con N):=det4
def zCB.con (N:Nat):Con:={ modes:=[.v,.v],ptrs:=[false],fn:=fn2 (.int .i64) .imm (.int .i64) .imm (zCB N) (fun r=>[⟨s24,(.pr .imm (.pr .imm (.pr (.own .imm) .imm))),r⟩]) (fun r=>[]) }
def zCB.cfg (N:Nat):Cfg:={ ty:=tys,keep:=[7],flt:=[],elm:=elm0,live:=[],ord:=[],con:=[((44,[.one,.one]),zC8.con N)],loops:=[],joins:=[] }
theorem zCB.cons (N:Nat):ConsOk Tryz.prog TB (zCB.cfg N).con:=(consOk_cons (hb44) (zC8.ok N) (zC8.det N) consOk_nil)
theorem zCB.ls (N:Nat):LoopsOk Tryz.prog TB (zCB.cfg N) (fnBody Tryz.f18):=loopsL (l:=[]) (by kernel_rfl) trivial
theorem zCB.b (N:Nat) (x0:den (.int .i64)) (x1:den (.int .i64)):body (zCB.cfg N) N Tryz.f18 [.one,.one] [.v,.v] [(false,(.pr .imm (.pr .imm (.pr (.own .imm) .imm))))] [⟨(.int .i64),.imm,x0⟩,⟨(.int .i64),.imm,x1⟩] (fun r i=>some (r,i))=bindO (zCB N x0 x1) fun r=>some ([⟨s24,(.pr .imm (.pr .imm (.pr (.own .imm) .imm))),r⟩],[]):=by
 show _=bindF _ _
 conv=>rhs;simp only [zCB,bindF_ifB,bindF_bindO,bindF_pure,bindF_none,bindF_onSum]
 kernel_rfl
theorem zCB.ok (N:Nat):ConOk Tryz.prog TB 18 [.one,.one] (zCB.con N):=ok2 (g:=zCB.cfg N) (N:=N) (res:=[(false,(.pr .imm (.pr .imm (.pr (.own .imm) .imm))))]) tys_ok (zCB.cons N) mixed Tryz.func18 (zCB.ls N) rfl (zCB.b N)
theorem zCB.det (N:Nat):ConDet (zCB.con N):=det2
def zAI.sk11:Skel:=⟨dd 3 (.pv (.int .i64)::(.pv (.int .i64)::(dd 5 (.ptr 50 []::(.ptr 51 []::(dd 2 (.ptr 52 []::(.pv (.int .i64)::(dd 99 []))))))))),[⟨50,s56,(.pr (.pr .imm (.pr .imm (.pr (.own (.pr (.own .imm) .imm)) .imm))) .imm),true,false⟩,⟨51,s104,.imm,true,false⟩,⟨52,s56,(.pr (.pr .imm (.pr .imm (.pr (.own .imm) .imm))) .imm),true,false⟩]⟩
def zAI.xs11:List XS:=[⟨.exit 0,[10,14],⟨dd 10 (.ptr 50 []::(dd 3 (.ptr 51 []::(dd 100 [])))),[⟨50,s56,(.pr (.pr .imm (.pr .imm (.pr (.own (.pr (.own .imm) .imm)) .imm))) .imm),true,false⟩,⟨51,s56,(.pr (.pr .imm (.pr .imm (.pr (.own .imm) .imm))) .imm),true,false⟩]⟩⟩]
def zAI.sk14:Skel:=⟨dd 3 (.pv (.int .i64)::(.pv (.int .i64)::(dd 5 (.ptr 50 []::(.ptr 51 []::(dd 2 (.ptr 52 []::(.pv (.int .i64)::(.pv (.int .i64)::(dd 98 [])))))))))),[⟨50,s56,(.pr (.pr .imm (.pr .imm (.pr (.own (.pr (.own .imm) .imm)) .imm))) .imm),true,false⟩,⟨51,s104,.imm,true,false⟩,⟨52,s56,(.pr (.pr .imm (.pr .imm (.pr (.own .imm) .imm))) .imm),true,false⟩]⟩
def zAI.xs14:List XS:=[⟨.exit 2,[3,4,10,11,14,15],⟨dd 3 (.pv (.int .i64)::(.pv (.int .i64)::(dd 5 (.ptr 50 []::(.ptr 51 []::(dd 2 (.ptr 52 []::(.pv (.int .i64)::(dd 99 []))))))))),[⟨50,s56,(.pr (.pr .imm (.pr .imm (.pr (.own (.pr (.own .imm) .imm)) .imm))) .imm),true,false⟩,⟨51,s104,.imm,true,false⟩,⟨52,s56,(.pr (.pr .imm (.pr .imm (.pr (.own .imm) .imm))) .imm),true,false⟩]⟩⟩]
def zAI.con (N:Nat):Con:={ modes:=[.v,.v,.v,.v,.v],ptrs:=[false],fn:=fn5 s40 .imm s60 .imm .bool .imm (.int .i64) .imm (.int .i64) .imm (zAI N) (fun r=>[⟨s56,(.pr (.pr .imm (.pr .imm (.pr (.own .imm) .imm))) .imm),r⟩]) (fun r=>[]) }
def zAI.cfg (N:Nat):Cfg:={ ty:=tys,keep:=[22,26,32,41,51,57],flt:=[],elm:=elm0,live:=[(14,[3,4,10,11,14,15,16]),(11,[3,4,10,11,14,15])],ord:=[(7,[10,0,1,3,4,5,6,7,2,8,9,11]),(11,[0,1,2,3,4,5,6,7,8,9,10,11,12,13,14]),(16,[0,1,2,3,4,5,6,7,8,9,10,11,12,13,14,15,16,17,18,19,20,21,22])],con:=[((68,[.one]),zAJ.con N),((69,[.one]),zCN.con N),((44,[.one,.one]),zC8.con N),((70,[.one,.one,.one,.one]),zAK.con N),((18,[.one,.one]),zCB.con N),((71,[.one,.one]),zBV.con N)],loops:=[(11,loopCon N zAI.sk11 zAI.xs11 (fun {R}=>zAI.l11 (R:=R) N)),(14,loopCon N zAI.sk14 zAI.xs14 (fun {R}=>zAI.l14 (R:=R) N))],joins:=[] }
theorem zAI.cons (N:Nat):ConsOk Tryz.prog TB (zAI.cfg N).con:=(consOk_cons (hb68) (zAJ.ok N) (zAJ.det N) (consOk_cons (hb69) (zCN.ok N) (zCN.det N) (consOk_cons (hb44) (zC8.ok N) (zC8.det N) (consOk_cons (hb70) (zAK.ok N) (zAK.det N) (consOk_cons (hb18) (zCB.ok N) (zCB.det N) (consOk_cons (hb71) (zBV.ok N) (zBV.det N) consOk_nil))))))
theorem zAI.h14 {R:Type} (N:Nat) (d:zAI.sk14.D) (kn:zAI.sk14.D->Option R) (kx:XD zAI.xs14->Option R):roundK (zAI.cfg N) N (nthLoop (fnBody Tryz.f34) 1) zAI.sk14 zAI.xs14 d kn kx=zAI.l14 N d kn kx:=by kernel_rfl
theorem zAI.i14 (N:Nat):LoopsOk Tryz.prog TB (zAI.cfg N) (nthLoop (fnBody Tryz.f34) 1):=loopsL (l:=[]) (by kernel_rfl) trivial
theorem zAI.o14 (N:Nat):LoopOk Tryz.prog TB (nthLoop (fnBody Tryz.f34) 1) (loopCon N zAI.sk14 zAI.xs14 (fun {R}=>zAI.l14 (R:=R) N)):=loop_ok (g:=zAI.cfg N) tys_ok (zAI.cons N) mixed (zAI.i14 N) (fun d kn kx=>zAI.h14 N d kn kx)
theorem zAI.h11 {R:Type} (N:Nat) (d:zAI.sk11.D) (kn:zAI.sk11.D->Option R) (kx:XD zAI.xs11->Option R):roundK (zAI.cfg N) N (nthLoop (fnBody Tryz.f34) 0) zAI.sk11 zAI.xs11 d kn kx=zAI.l11 N d kn kx:=by kernel_rfl
theorem zAI.i11 (N:Nat):LoopsOk Tryz.prog TB (zAI.cfg N) (nthLoop (fnBody Tryz.f34) 0):=loopsL (l:=[nthLoop (fnBody Tryz.f34) 1]) (by kernel_rfl) ⟨loopOne (L0:=loopCon N zAI.sk14 zAI.xs14 (fun {R}=>zAI.l14 (R:=R) N)) (id:=14) (by kernel_rfl) (by kernel_rfl) (zAI.o14 N),trivial⟩
theorem zAI.o11 (N:Nat):LoopOk Tryz.prog TB (nthLoop (fnBody Tryz.f34) 0) (loopCon N zAI.sk11 zAI.xs11 (fun {R}=>zAI.l11 (R:=R) N)):=loop_ok (g:=zAI.cfg N) tys_ok (zAI.cons N) mixed (zAI.i11 N) (fun d kn kx=>zAI.h11 N d kn kx)
theorem zAI.ls (N:Nat):LoopsOk Tryz.prog TB (zAI.cfg N) (fnBody Tryz.f34):=loopsL (l:=[nthLoop (fnBody Tryz.f34) 0,nthLoop (fnBody Tryz.f34) 1]) (by kernel_rfl) ⟨loopOne (L0:=loopCon N zAI.sk11 zAI.xs11 (fun {R}=>zAI.l11 (R:=R) N)) (id:=11) (by kernel_rfl) (by kernel_rfl) (zAI.o11 N),⟨loopOne (L0:=loopCon N zAI.sk14 zAI.xs14 (fun {R}=>zAI.l14 (R:=R) N)) (id:=14) (by kernel_rfl) (by kernel_rfl) (zAI.o14 N),trivial⟩⟩
theorem zAI.q14 {R R':Type} {N n:Nat} {d} {k} {g:R->Option R'}:bindF (loopP (zAI.l14 N) n d k) g=loopP (zAI.l14 N) n d fun e=>bindF (k e) g:=bindF_loopP (fun d kn kx=>by simp only [zAI.l14,bindF_ifB,bindF_bindO,bindF_pure,bindF_none,bindF_onSum]) n d k
theorem zAI.q11 {R R':Type} {N n:Nat} {d} {k} {g:R->Option R'}:bindF (loopP (zAI.l11 N) n d k) g=loopP (zAI.l11 N) n d fun e=>bindF (k e) g:=bindF_loopP (fun d kn kx=>by simp only [zAI.l11,bindF_ifB,bindF_bindO,bindF_pure,bindF_none,bindF_onSum,zAI.q14]) n d k
theorem zAI.b (N:Nat) (x0:den s40) (x1:den s60) (x2:den .bool) (x3:den (.int .i64)) (x4:den (.int .i64)):body (zAI.cfg N) N Tryz.f34 [.one,.one,.one,.one,.one] [.v,.v,.v,.v,.v] [(false,(.pr (.pr .imm (.pr .imm (.pr (.own .imm) .imm))) .imm))] [⟨s40,.imm,x0⟩,⟨s60,.imm,x1⟩,⟨.bool,.imm,x2⟩,⟨(.int .i64),.imm,x3⟩,⟨(.int .i64),.imm,x4⟩] (fun r i=>some (r,i))=bindO (zAI N x0 x1 x2 x3 x4) fun r=>some ([⟨s56,(.pr (.pr .imm (.pr .imm (.pr (.own .imm) .imm))) .imm),r⟩],[]):=by
 show _=bindF _ _
 conv=>rhs;simp only [zAI,bindF_ifB,bindF_bindO,bindF_pure,bindF_none,bindF_onSum,zAI.q11,zAI.q14]
 kernel_rfl
theorem zAI.ok (N:Nat):ConOk Tryz.prog TB 34 [.one,.one,.one,.one,.one] (zAI.con N):=ok5 (g:=zAI.cfg N) (N:=N) (res:=[(false,(.pr (.pr .imm (.pr .imm (.pr (.own .imm) .imm))) .imm))]) tys_ok (zAI.cons N) mixed Tryz.func34 (zAI.ls N) rfl (zAI.b N)
theorem zAI.det (N:Nat):ConDet (zAI.con N):=det5
def zBC.con (N:Nat):Con:={ modes:=[.io,.v],ptrs:=[false],fn:=fn2 s53 .imm (.int .i64) .imm (zBC N) (fun r=>[⟨.bool,.imm,r.1⟩]) (fun r=>[⟨s53,.imm,r.2⟩]) }
def zBC.cfg (N:Nat):Cfg:={ ty:=tys,keep:=[7],flt:=[],elm:=elm0,live:=[],ord:=[],con:=[((33,[.one,.one]),zAD.con N)],loops:=[],joins:=[] }
theorem zBC.cons (N:Nat):ConsOk Tryz.prog TB (zBC.cfg N).con:=(consOk_cons (hb33) (zAD.ok N) (zAD.det N) consOk_nil)
theorem zBC.ls (N:Nat):LoopsOk Tryz.prog TB (zBC.cfg N) (fnBody Tryz.f38):=loopsL (l:=[]) (by kernel_rfl) trivial
theorem zBC.b (N:Nat) (x0:den s53) (x1:den (.int .i64)):body (zBC.cfg N) N Tryz.f38 [.one,.one] [.io,.v] [(false,.imm)] [⟨s53,.imm,x0⟩,⟨(.int .i64),.imm,x1⟩] (fun r i=>some (r,i))=bindO (zBC N x0 x1) fun r=>some ([⟨.bool,.imm,r.1⟩],[⟨s53,.imm,r.2⟩]):=by
 show _=bindF _ _
 conv=>rhs;simp only [zBC,bindF_ifB,bindF_bindO,bindF_pure,bindF_none,bindF_onSum]
 kernel_rfl
theorem zBC.ok (N:Nat):ConOk Tryz.prog TB 38 [.one,.one] (zBC.con N):=ok2 (g:=zBC.cfg N) (N:=N) (res:=[(false,.imm)]) tys_ok (zBC.cons N) mixed Tryz.func38 (zBC.ls N) rfl (zBC.b N)
theorem zBC.det (N:Nat):ConDet (zBC.con N):=det2
def zBQ.con (N:Nat):Con:={ modes:=[.io],ptrs:=[false],fn:=fn1 s53 .imm (zBQ N) (fun r=>[⟨s60,(.pr (.own .imm) .imm),r.1⟩]) (fun r=>[⟨s53,.imm,r.2⟩]) }
def zBQ.cfg (N:Nat):Cfg:={ ty:=tys,keep:=[13,14,17,20,22,30,35,38,40,52,62],flt:=[],elm:=elm0,live:=[],ord:=[],con:=[((33,[.one,.one]),zAD.con N),((35,[.one,.one]),zA7.con N),((38,[.one,.one]),zBC.con N)],loops:=[],joins:=[] }
theorem zBQ.cons (N:Nat):ConsOk Tryz.prog TB (zBQ.cfg N).con:=(consOk_cons (hb33) (zAD.ok N) (zAD.det N) (consOk_cons (hb35) (zA7.ok N) (zA7.det N) (consOk_cons (hb38) (zBC.ok N) (zBC.det N) consOk_nil)))
theorem zBQ.ls (N:Nat):LoopsOk Tryz.prog TB (zBQ.cfg N) (fnBody Tryz.f37):=loopsL (l:=[]) (by kernel_rfl) trivial
theorem zBQ.b (N:Nat) (x0:den s53):body (zBQ.cfg N) N Tryz.f37 [.one] [.io] [(false,(.pr (.own .imm) .imm))] [⟨s53,.imm,x0⟩] (fun r i=>some (r,i))=bindO (zBQ N x0) fun r=>some ([⟨s60,(.pr (.own .imm) .imm),r.1⟩],[⟨s53,.imm,r.2⟩]):=by
 show _=bindF _ _
 conv=>rhs;simp only [zBQ,bindF_ifB,bindF_bindO,bindF_pure,bindF_none,bindF_onSum]
 kernel_rfl
theorem zBQ.ok (N:Nat):ConOk Tryz.prog TB 37 [.one] (zBQ.con N):=ok1 (g:=zBQ.cfg N) (N:=N) (res:=[(false,(.pr (.own .imm) .imm))]) tys_ok (zBQ.cons N) mixed Tryz.func37 (zBQ.ls N) rfl (zBQ.b N)
theorem zBQ.det (N:Nat):ConDet (zBQ.con N):=det1
end Go.AE.F
end
