/- The printed functions are what the program comes to: contracts. -/
import Derived.Test.YthcbmbakpjelgaaGreatDoorLSendL0
noncomputable section
namespace Go.AE.F
open Go.AE Go.Proofs
set_option maxRecDepth 100000
def zC2.con (N:Nat):Con:={ modes:=[.v],ptrs:=[false],fn:=fn1 s50 .imm (zC2 N) (fun r=>[⟨.bool,.imm,r⟩]) (fun r=>[]) }
def zC2.cfg (N:Nat):Cfg:={ ty:=tys,keep:=[12],flt:=[],elm:=elm0,live:=[],ord:=[],con:=[((80,[.one]),zC3.con N)],loops:=[],joins:=[] }
theorem zC2.cons (N:Nat):ConsOk Tryz.prog TB (zC2.cfg N).con:=(consOk_cons (hb80) (zC3.ok N) (zC3.det N) consOk_nil)
theorem zC2.ls (N:Nat):LoopsOk Tryz.prog TB (zC2.cfg N) (fnBody Tryz.f53):=loopsL (l:=[]) (by kernel_rfl) trivial
theorem zC2.b (N:Nat) (x0:den s50):body (zC2.cfg N) N Tryz.f53 [.one] [.v] [(false,.imm)] [⟨s50,.imm,x0⟩] (fun r i=>some (r,i))=bindO (zC2 N x0) fun r=>some ([⟨.bool,.imm,r⟩],[]):=by
 show _=bindF _ _
 conv=>rhs;simp only [zC2,bindF_ifB,bindF_bindO,bindF_pure,bindF_none,bindF_onSum]
 kernel_rfl
theorem zC2.ok (N:Nat):ConOk Tryz.prog TB 53 [.one] (zC2.con N):=ok1 (g:=zC2.cfg N) (N:=N) (res:=[(false,.imm)]) tys_ok (zC2.cons N) mixed Tryz.func53 (zC2.ls N) rfl (zC2.b N)
theorem zC2.det (N:Nat):ConDet (zC2.con N):=det1
def zC1.con (N:Nat):Con:={ modes:=[.v],ptrs:=[false],fn:=fn1 s49 .imm (zC1 N) (fun r=>[⟨s49,(.own .imm),r⟩]) (fun r=>[]) }
def zC1.cfg (N:Nat):Cfg:={ ty:=tys,keep:=[],flt:=[],elm:=elm0,live:=[],ord:=[],con:=[],loops:=[],joins:=[] }
theorem zC1.cons (N:Nat):ConsOk Tryz.prog TB (zC1.cfg N).con:=consOk_nil
theorem zC1.ls (N:Nat):LoopsOk Tryz.prog TB (zC1.cfg N) (fnBody Tryz.f99):=loopsL (l:=[]) (by kernel_rfl) trivial
theorem zC1.b (N:Nat) (x0:den s49):body (zC1.cfg N) N Tryz.f99 [.one] [.v] [(false,(.own .imm))] [⟨s49,.imm,x0⟩] (fun r i=>some (r,i))=bindO (zC1 N x0) fun r=>some ([⟨s49,(.own .imm),r⟩],[]):=by
 show _=bindF _ _
 conv=>rhs;simp only [zC1,bindF_ifB,bindF_bindO,bindF_pure,bindF_none,bindF_onSum]
 kernel_rfl
theorem zC1.ok (N:Nat):ConOk Tryz.prog TB 99 [.one] (zC1.con N):=ok1 (g:=zC1.cfg N) (N:=N) (res:=[(false,(.own .imm))]) tys_ok (zC1.cons N) mixed Tryz.func99 (zC1.ls N) rfl (zC1.b N)
theorem zC1.det (N:Nat):ConDet (zC1.con N):=det1
def zBX.con (N:Nat):Con:={ modes:=[.io,.v,.v],ptrs:=[],fn:=fn3 s104 (.pr .imm (.pr (.own (.own (.pr (.own .imm) .imm))) .imm)) (.int .i64) .imm (.int .i64) .imm (zBX N) (fun r=>[]) (fun r=>[⟨s104,(.pr .imm (.pr (.own (.own (.pr (.own .imm) .imm))) .imm)),r⟩]) }
def zBX.cfg (N:Nat):Cfg:={ ty:=tys,keep:=[10,38,69,87],flt:=[],elm:=elm0,live:=[],ord:=[(1,[0,1,2,3,4,5,6,7,8,9,10,11,12]),(8,[0,1,2,3,4,5,6,7,8,9,10]),(10,[0,1,2,3,4,5,6,7,8,9,10,11,12])],con:=[((80,[.one]),zC3.con N),((53,[.one]),zC2.con N),((99,[.one]),zC1.con N),((85,[.one]),zBG.con N)],loops:=[],joins:=[] }
theorem zBX.cons (N:Nat):ConsOk Tryz.prog TB (zBX.cfg N).con:=(consOk_cons (hb80) (zC3.ok N) (zC3.det N) (consOk_cons (hb53) (zC2.ok N) (zC2.det N) (consOk_cons (hb99) (zC1.ok N) (zC1.det N) (consOk_cons (hb85) (zBG.ok N) (zBG.det N) consOk_nil))))
theorem zBX.ls (N:Nat):LoopsOk Tryz.prog TB (zBX.cfg N) (fnBody Tryz.f98):=loopsL (l:=[]) (by kernel_rfl) trivial
theorem zBX.b (N:Nat) (x0:den s104) (x1:den (.int .i64)) (x2:den (.int .i64)):body (zBX.cfg N) N Tryz.f98 [.one,.one,.one] [.io,.v,.v] [] [⟨s104,(.pr .imm (.pr (.own (.own (.pr (.own .imm) .imm))) .imm)),x0⟩,⟨(.int .i64),.imm,x1⟩,⟨(.int .i64),.imm,x2⟩] (fun r i=>some (r,i))=bindO (zBX N x0 x1 x2) fun r=>some ([],[⟨s104,(.pr .imm (.pr (.own (.own (.pr (.own .imm) .imm))) .imm)),r⟩]):=by
 show _=bindF _ _
 conv=>rhs;simp only [zBX,bindF_ifB,bindF_bindO,bindF_pure,bindF_none,bindF_onSum]
 kernel_rfl
theorem zBX.ok (N:Nat):ConOk Tryz.prog TB 98 [.one,.one,.one] (zBX.con N):=ok3 (g:=zBX.cfg N) (N:=N) (res:=[]) tys_ok (zBX.cons N) mixed Tryz.func98 (zBX.ls N) rfl (zBX.b N)
theorem zBX.det (N:Nat):ConDet (zBX.con N):=det3
def zAB.sk4:Skel:=⟨.ptr 0 []::(dd 1 (.pv (.int .i64)::(dd 3 (.ov 50 []::(.pv (.int .i64)::(dd 19 [])))))),[⟨0,s104,(.pr .imm (.pr (.own (.own (.pr (.own .imm) .imm))) .imm)),true,false⟩,⟨50,s49,(.own .imm),false,false⟩]⟩
def zAB.xs4:List XS:=[⟨.exit 0,[],⟨dd 27 [],[⟨0,s104,(.pr .imm (.pr (.own (.own (.pr (.own .imm) .imm))) .imm)),true,false⟩]⟩⟩]
def zAB.con (N:Nat):Con:={ modes:=[.io,.v,.v],ptrs:=[],fn:=fn3 s104 (.pr .imm (.pr (.own (.own (.pr (.own .imm) .imm))) .imm)) (.int .i64) .imm (.int .i64) .imm (zAB N) (fun r=>[]) (fun r=>[⟨s104,(.pr .imm (.pr (.own (.own (.pr (.own .imm) .imm))) .imm)),r⟩]) }
def zAB.cfg (N:Nat):Cfg:={ ty:=tys,keep:=[11,13,26],flt:=[],elm:=elm0,live:=[(4,[0,2,6,7])],ord:=[],con:=[((85,[.one]),zBG.con N),((97,[.one]),zCJ.con N),((98,[.one,.one,.one]),zBX.con N)],loops:=[(4,loopCon N zAB.sk4 zAB.xs4 (fun {R}=>zAB.l4 (R:=R) N))],joins:=[] }
theorem zAB.cons (N:Nat):ConsOk Tryz.prog TB (zAB.cfg N).con:=(consOk_cons (hb85) (zBG.ok N) (zBG.det N) (consOk_cons (hb97) (zCJ.ok N) (zCJ.det N) (consOk_cons (hb98) (zBX.ok N) (zBX.det N) consOk_nil)))
theorem zAB.h4 {R:Type} (N:Nat) (d:zAB.sk4.D) (kn:zAB.sk4.D->Option R) (kx:XD zAB.xs4->Option R):roundK (zAB.cfg N) N (nthLoop (fnBody Tryz.f86) 0) zAB.sk4 zAB.xs4 d kn kx=zAB.l4 N d kn kx:=by kernel_rfl
theorem zAB.i4 (N:Nat):LoopsOk Tryz.prog TB (zAB.cfg N) (nthLoop (fnBody Tryz.f86) 0):=loopsL (l:=[]) (by kernel_rfl) trivial
theorem zAB.o4 (N:Nat):LoopOk Tryz.prog TB (nthLoop (fnBody Tryz.f86) 0) (loopCon N zAB.sk4 zAB.xs4 (fun {R}=>zAB.l4 (R:=R) N)):=loop_ok (g:=zAB.cfg N) tys_ok (zAB.cons N) mixed (zAB.i4 N) (fun d kn kx=>zAB.h4 N d kn kx)
theorem zAB.ls (N:Nat):LoopsOk Tryz.prog TB (zAB.cfg N) (fnBody Tryz.f86):=loopsL (l:=[nthLoop (fnBody Tryz.f86) 0]) (by kernel_rfl) ⟨loopOne (L0:=loopCon N zAB.sk4 zAB.xs4 (fun {R}=>zAB.l4 (R:=R) N)) (id:=4) (by kernel_rfl) (by kernel_rfl) (zAB.o4 N),trivial⟩
theorem zAB.q4 {R R':Type} {N n:Nat} {d} {k} {g:R->Option R'}:bindF (loopP (zAB.l4 N) n d k) g=loopP (zAB.l4 N) n d fun e=>bindF (k e) g:=bindF_loopP (fun d kn kx=>by simp only [zAB.l4,bindF_ifB,bindF_bindO,bindF_pure,bindF_none,bindF_onSum]) n d k
theorem zAB.b (N:Nat) (x0:den s104) (x1:den (.int .i64)) (x2:den (.int .i64)):body (zAB.cfg N) N Tryz.f86 [.one,.one,.one] [.io,.v,.v] [] [⟨s104,(.pr .imm (.pr (.own (.own (.pr (.own .imm) .imm))) .imm)),x0⟩,⟨(.int .i64),.imm,x1⟩,⟨(.int .i64),.imm,x2⟩] (fun r i=>some (r,i))=bindO (zAB N x0 x1 x2) fun r=>some ([],[⟨s104,(.pr .imm (.pr (.own (.own (.pr (.own .imm) .imm))) .imm)),r⟩]):=by
 show _=bindF _ _
 conv=>rhs;simp only [zAB,bindF_ifB,bindF_bindO,bindF_pure,bindF_none,bindF_onSum,zAB.q4]
 kernel_rfl
theorem zAB.ok (N:Nat):ConOk Tryz.prog TB 86 [.one,.one,.one] (zAB.con N):=ok3 (g:=zAB.cfg N) (N:=N) (res:=[]) tys_ok (zAB.cons N) mixed Tryz.func86 (zAB.ls N) rfl (zAB.b N)
theorem zAB.det (N:Nat):ConDet (zAB.con N):=det3
def zBM.con (N:Nat):Con:={ modes:=[.rd],ptrs:=[false],fn:=fn1 s104 .imm (zBM N) (fun r=>[⟨s99,.imm,r⟩]) (fun r=>[]) }
def zBM.cfg (N:Nat):Cfg:={ ty:=tys,keep:=[],flt:=[],elm:=elm0,live:=[],ord:=[(2,[0,1,2,3,4,5,6,7,8])],con:=[],loops:=[],joins:=[] }
theorem zBM.cons (N:Nat):ConsOk Tryz.prog TB (zBM.cfg N).con:=consOk_nil
theorem zBM.ls (N:Nat):LoopsOk Tryz.prog TB (zBM.cfg N) (fnBody Tryz.f87):=loopsL (l:=[]) (by kernel_rfl) trivial
theorem zBM.b (N:Nat) (x0:den s104):body (zBM.cfg N) N Tryz.f87 [.one] [.rd] [(false,.imm)] [⟨s104,.imm,x0⟩] (fun r i=>some (r,i))=bindO (zBM N x0) fun r=>some ([⟨s99,.imm,r⟩],[]):=by
 show _=bindF _ _
 conv=>rhs;simp only [zBM,bindF_ifB,bindF_bindO,bindF_pure,bindF_none,bindF_onSum]
 kernel_rfl
theorem zBM.ok (N:Nat):ConOk Tryz.prog TB 87 [.one] (zBM.con N):=ok1 (g:=zBM.cfg N) (N:=N) (res:=[(false,.imm)]) tys_ok (zBM.cons N) mixed Tryz.func87 (zBM.ls N) rfl (zBM.b N)
theorem zBM.det (N:Nat):ConDet (zBM.con N):=det1
def zCD.con (N:Nat):Con:={ modes:=[.v,.v],ptrs:=[false],fn:=fn2 (.int .i64) .imm (.int .i64) .imm (zCD N) (fun r=>[⟨(.int .i64),.imm,r⟩]) (fun r=>[]) }
def zCD.cfg (N:Nat):Cfg:={ ty:=tys,keep:=[],flt:=[],elm:=elm0,live:=[],ord:=[],con:=[],loops:=[],joins:=[] }
theorem zCD.cons (N:Nat):ConsOk Tryz.prog TB (zCD.cfg N).con:=consOk_nil
theorem zCD.ls (N:Nat):LoopsOk Tryz.prog TB (zCD.cfg N) (fnBody Tryz.f88):=loopsL (l:=[]) (by kernel_rfl) trivial
theorem zCD.b (N:Nat) (x0:den (.int .i64)) (x1:den (.int .i64)):body (zCD.cfg N) N Tryz.f88 [.one,.one] [.v,.v] [(false,.imm)] [⟨(.int .i64),.imm,x0⟩,⟨(.int .i64),.imm,x1⟩] (fun r i=>some (r,i))=bindO (zCD N x0 x1) fun r=>some ([⟨(.int .i64),.imm,r⟩],[]):=by
 show _=bindF _ _
 conv=>rhs;simp only [zCD,bindF_ifB,bindF_bindO,bindF_pure,bindF_none,bindF_onSum]
 kernel_rfl
theorem zCD.ok (N:Nat):ConOk Tryz.prog TB 88 [.one,.one] (zCD.con N):=ok2 (g:=zCD.cfg N) (N:=N) (res:=[(false,.imm)]) tys_ok (zCD.cons N) mixed Tryz.func88 (zCD.ls N) rfl (zCD.b N)
theorem zCD.det (N:Nat):ConDet (zCD.con N):=det2
def zBV.con (N:Nat):Con:={ modes:=[.v,.v],ptrs:=[false],fn:=fn2 (.int .i64) .imm (.int .i64) .imm (zBV N) (fun r=>[⟨(.int .i64),.imm,r⟩]) (fun r=>[]) }
def zBV.cfg (N:Nat):Cfg:={ ty:=tys,keep:=[],flt:=[],elm:=elm0,live:=[],ord:=[],con:=[],loops:=[],joins:=[] }
theorem zBV.cons (N:Nat):ConsOk Tryz.prog TB (zBV.cfg N).con:=consOk_nil
theorem zBV.ls (N:Nat):LoopsOk Tryz.prog TB (zBV.cfg N) (fnBody Tryz.f71):=loopsL (l:=[]) (by kernel_rfl) trivial
theorem zBV.b (N:Nat) (x0:den (.int .i64)) (x1:den (.int .i64)):body (zBV.cfg N) N Tryz.f71 [.one,.one] [.v,.v] [(false,.imm)] [⟨(.int .i64),.imm,x0⟩,⟨(.int .i64),.imm,x1⟩] (fun r i=>some (r,i))=bindO (zBV N x0 x1) fun r=>some ([⟨(.int .i64),.imm,r⟩],[]):=by
 show _=bindF _ _
 conv=>rhs;simp only [zBV,bindF_ifB,bindF_bindO,bindF_pure,bindF_none,bindF_onSum]
 kernel_rfl
theorem zBV.ok (N:Nat):ConOk Tryz.prog TB 71 [.one,.one] (zBV.con N):=ok2 (g:=zBV.cfg N) (N:=N) (res:=[(false,.imm)]) tys_ok (zBV.cons N) mixed Tryz.func71 (zBV.ls N) rfl (zBV.b N)
theorem zBV.det (N:Nat):ConDet (zBV.con N):=det2
def zAK.sk4:Skel:=⟨.pv s49::(dd 1 (.pv .bool::(dd 2 (.ptr 50 []::(dd 4 (.ptr 51 []::(.pv (.int .i64)::(dd 68 [])))))))),[⟨50,s69,.imm,true,false⟩,⟨51,s104,(.pr .imm (.pr (.own (.own (.pr (.own .imm) .imm))) .imm)),true,false⟩]⟩
def zAK.xs4:List XS:=[⟨.exit 0,[2,5,10],⟨dd 2 (.pv .bool::(dd 2 (.ptr 50 []::(dd 4 (.ptr 51 []::(dd 69 [])))))),[⟨50,s69,.imm,true,false⟩,⟨51,s104,(.pr .imm (.pr (.own (.own (.pr (.own .imm) .imm))) .imm)),true,false⟩]⟩⟩]
def zAK.sk11:Skel:=⟨dd 2 (.pv .bool::(dd 2 (.ptr 50 []::(dd 4 (.ptr 51 []::(dd 1 (.ov 52 []::(.pv (.int .i64)::(.pv (.int .i64)::(.pv (.int .i64)::(dd 64 []))))))))))),[⟨50,s69,.imm,true,false⟩,⟨51,s104,(.pr .imm (.pr (.own (.own (.pr (.own .imm) .imm))) .imm)),true,false⟩,⟨52,s96,(.own .imm),false,false⟩]⟩
def zAK.xs11:List XS:=[⟨.exit 2,[10,12],⟨dd 10 (.ptr 50 []::(dd 1 (.ov 51 []::(dd 67 [])))),[⟨50,s104,(.pr .imm (.pr (.own (.own (.pr (.own .imm) .imm))) .imm)),true,false⟩,⟨51,s96,(.own .imm),false,false⟩]⟩⟩]
def zAK.con (N:Nat):Con:={ modes:=[.v,.v,.v,.v],ptrs:=[true,false],fn:=fn4 s49 .imm s69 .imm .bool .imm (.int .i64) .imm (zAK N) (fun r=>[⟨s104,.imm,r.1⟩,⟨s96,.imm,r.2⟩]) (fun r=>[]) }
def zAK.cfg (N:Nat):Cfg:={ ty:=tys,keep:=[21,33,35,41,46,72,75],flt:=[],elm:=elm0,live:=[(11,[2,5,10,12,13,14,15]),(4,[0,2,5,10,11])],ord:=[],con:=[((85,[.one]),zBG.con N),((86,[.one,.one,.one]),zAB.con N),((87,[.one]),zBM.con N),((88,[.one,.one]),zCD.con N),((71,[.one,.one]),zBV.con N)],loops:=[(4,loopCon N zAK.sk4 zAK.xs4 (fun {R}=>zAK.l4 (R:=R) N)),(11,loopCon N zAK.sk11 zAK.xs11 (fun {R}=>zAK.l11 (R:=R) N))],joins:=[(12,[⟨.normal,[2,5,10,12,13,14,15],⟨dd 2 (.pv .bool::(dd 2 (.ptr 50 []::(dd 4 (.ptr 51 []::(dd 1 (.ov 52 []::(.pv (.int .i64)::(.pv (.int .i64)::(.pv (.int .i64)::(dd 64 []))))))))))),[⟨50,s69,.imm,true,false⟩,⟨51,s104,(.pr .imm (.pr (.own (.own (.pr (.own .imm) .imm))) .imm)),true,false⟩,⟨52,s96,(.own .imm),false,false⟩]⟩⟩])] }
theorem zAK.cons (N:Nat):ConsOk Tryz.prog TB (zAK.cfg N).con:=(consOk_cons (hb85) (zBG.ok N) (zBG.det N) (consOk_cons (hb86) (zAB.ok N) (zAB.det N) (consOk_cons (hb87) (zBM.ok N) (zBM.det N) (consOk_cons (hb88) (zCD.ok N) (zCD.det N) (consOk_cons (hb71) (zBV.ok N) (zBV.det N) consOk_nil)))))
theorem zAK.h11 {R:Type} (N:Nat) (d:zAK.sk11.D) (kn:zAK.sk11.D->Option R) (kx:XD zAK.xs11->Option R):roundK (zAK.cfg N) N (nthLoop (fnBody Tryz.f69) 1) zAK.sk11 zAK.xs11 d kn kx=zAK.l11 N d kn kx:=by kernel_rfl
theorem zAK.i11 (N:Nat):LoopsOk Tryz.prog TB (zAK.cfg N) (nthLoop (fnBody Tryz.f69) 1):=loopsL (l:=[]) (by kernel_rfl) trivial
theorem zAK.o11 (N:Nat):LoopOk Tryz.prog TB (nthLoop (fnBody Tryz.f69) 1) (loopCon N zAK.sk11 zAK.xs11 (fun {R}=>zAK.l11 (R:=R) N)):=loop_ok (g:=zAK.cfg N) tys_ok (zAK.cons N) mixed (zAK.i11 N) (fun d kn kx=>zAK.h11 N d kn kx)
theorem zAK.h4 {R:Type} (N:Nat) (d:zAK.sk4.D) (kn:zAK.sk4.D->Option R) (kx:XD zAK.xs4->Option R):roundK (zAK.cfg N) N (nthLoop (fnBody Tryz.f69) 0) zAK.sk4 zAK.xs4 d kn kx=zAK.l4 N d kn kx:=by kernel_rfl
theorem zAK.i4 (N:Nat):LoopsOk Tryz.prog TB (zAK.cfg N) (nthLoop (fnBody Tryz.f69) 0):=loopsL (l:=[]) (by kernel_rfl) trivial
theorem zAK.o4 (N:Nat):LoopOk Tryz.prog TB (nthLoop (fnBody Tryz.f69) 0) (loopCon N zAK.sk4 zAK.xs4 (fun {R}=>zAK.l4 (R:=R) N)):=loop_ok (g:=zAK.cfg N) tys_ok (zAK.cons N) mixed (zAK.i4 N) (fun d kn kx=>zAK.h4 N d kn kx)
theorem zAK.ls (N:Nat):LoopsOk Tryz.prog TB (zAK.cfg N) (fnBody Tryz.f69):=loopsL (l:=[nthLoop (fnBody Tryz.f69) 0,nthLoop (fnBody Tryz.f69) 1]) (by kernel_rfl) ⟨loopOne (L0:=loopCon N zAK.sk4 zAK.xs4 (fun {R}=>zAK.l4 (R:=R) N)) (id:=4) (by kernel_rfl) (by kernel_rfl) (zAK.o4 N),⟨loopOne (L0:=loopCon N zAK.sk11 zAK.xs11 (fun {R}=>zAK.l11 (R:=R) N)) (id:=11) (by kernel_rfl) (by kernel_rfl) (zAK.o11 N),trivial⟩⟩
theorem zAK.q11 {R R':Type} {N n:Nat} {d} {k} {g:R->Option R'}:bindF (loopP (zAK.l11 N) n d k) g=loopP (zAK.l11 N) n d fun e=>bindF (k e) g:=bindF_loopP (fun d kn kx=>by simp only [zAK.l11,bindF_ifB,bindF_bindO,bindF_pure,bindF_none,bindF_onSum]) n d k
theorem zAK.q4 {R R':Type} {N n:Nat} {d} {k} {g:R->Option R'}:bindF (loopP (zAK.l4 N) n d k) g=loopP (zAK.l4 N) n d fun e=>bindF (k e) g:=bindF_loopP (fun d kn kx=>by simp only [zAK.l4,bindF_ifB,bindF_bindO,bindF_pure,bindF_none,bindF_onSum]) n d k
theorem zAK.b (N:Nat) (x0:den s49) (x1:den s69) (x2:den .bool) (x3:den (.int .i64)):body (zAK.cfg N) N Tryz.f69 [.one,.one,.one,.one] [.v,.v,.v,.v] [(true,.imm),(false,.imm)] [⟨s49,.imm,x0⟩,⟨s69,.imm,x1⟩,⟨.bool,.imm,x2⟩,⟨(.int .i64),.imm,x3⟩] (fun r i=>some (r,i))=bindO (zAK N x0 x1 x2 x3) fun r=>some ([⟨s104,.imm,r.1⟩,⟨s96,.imm,r.2⟩],[]):=by
 show _=bindF _ _
 conv=>rhs;simp only [zAK,bindF_ifB,bindF_bindO,bindF_pure,bindF_none,bindF_onSum,zAK.q4,zAK.q11]
 kernel_rfl
theorem zAK.ok (N:Nat):ConOk Tryz.prog TB 69 [.one,.one,.one,.one] (zAK.con N):=ok4 (g:=zAK.cfg N) (N:=N) (res:=[(true,.imm),(false,.imm)]) tys_ok (zAK.cons N) mixed Tryz.func69 (zAK.ls N) rfl (zAK.b N)
theorem zAK.det (N:Nat):ConDet (zAK.con N):=det4
def zCF.con (N:Nat):Con:={ modes:=[.v,.v],ptrs:=[false],fn:=fn2 (.int .i64) .imm (.int .i64) .imm (zCF N) (fun r=>[⟨s24,(.pr .imm (.pr .imm (.pr (.own .imm) .imm))),r⟩]) (fun r=>[]) }
def zCF.cfg (N:Nat):Cfg:={ ty:=tys,keep:=[7],flt:=[],elm:=elm0,live:=[],ord:=[],con:=[((51,[.one,.one]),zC7.con N)],loops:=[],joins:=[] }
theorem zCF.cons (N:Nat):ConsOk Tryz.prog TB (zCF.cfg N).con:=(consOk_cons (hb51) (zC7.ok N) (zC7.det N) consOk_nil)
theorem zCF.ls (N:Nat):LoopsOk Tryz.prog TB (zCF.cfg N) (fnBody Tryz.f70):=loopsL (l:=[]) (by kernel_rfl) trivial
theorem zCF.b (N:Nat) (x0:den (.int .i64)) (x1:den (.int .i64)):body (zCF.cfg N) N Tryz.f70 [.one,.one] [.v,.v] [(false,(.pr .imm (.pr .imm (.pr (.own .imm) .imm))))] [⟨(.int .i64),.imm,x0⟩,⟨(.int .i64),.imm,x1⟩] (fun r i=>some (r,i))=bindO (zCF N x0 x1) fun r=>some ([⟨s24,(.pr .imm (.pr .imm (.pr (.own .imm) .imm))),r⟩],[]):=by
 show _=bindF _ _
 conv=>rhs;simp only [zCF,bindF_ifB,bindF_bindO,bindF_pure,bindF_none,bindF_onSum]
 kernel_rfl
theorem zCF.ok (N:Nat):ConOk Tryz.prog TB 70 [.one,.one] (zCF.con N):=ok2 (g:=zCF.cfg N) (N:=N) (res:=[(false,(.pr .imm (.pr .imm (.pr (.own .imm) .imm))))]) tys_ok (zCF.cons N) mixed Tryz.func70 (zCF.ls N) rfl (zCF.b N)
theorem zCF.det (N:Nat):ConDet (zCF.con N):=det2
def zAI.sk11:Skel:=⟨dd 3 (.pv (.int .i64)::(.pv (.int .i64)::(dd 5 (.ptr 50 []::(.ptr 51 []::(dd 2 (.ptr 52 []::(.pv (.int .i64)::(dd 99 []))))))))),[⟨50,s65,(.pr (.pr .imm (.pr .imm (.pr (.own (.pr (.own .imm) .imm)) .imm))) .imm),true,false⟩,⟨51,s104,.imm,true,false⟩,⟨52,s65,(.pr (.pr .imm (.pr .imm (.pr (.own .imm) .imm))) .imm),true,false⟩]⟩
def zAI.xs11:List XS:=[⟨.exit 0,[10,14],⟨dd 10 (.ptr 50 []::(dd 3 (.ptr 51 []::(dd 100 [])))),[⟨50,s65,(.pr (.pr .imm (.pr .imm (.pr (.own (.pr (.own .imm) .imm)) .imm))) .imm),true,false⟩,⟨51,s65,(.pr (.pr .imm (.pr .imm (.pr (.own .imm) .imm))) .imm),true,false⟩]⟩⟩]
def zAI.sk14:Skel:=⟨dd 3 (.pv (.int .i64)::(.pv (.int .i64)::(dd 5 (.ptr 50 []::(.ptr 51 []::(dd 2 (.ptr 52 []::(.pv (.int .i64)::(.pv (.int .i64)::(dd 98 [])))))))))),[⟨50,s65,(.pr (.pr .imm (.pr .imm (.pr (.own (.pr (.own .imm) .imm)) .imm))) .imm),true,false⟩,⟨51,s104,.imm,true,false⟩,⟨52,s65,(.pr (.pr .imm (.pr .imm (.pr (.own .imm) .imm))) .imm),true,false⟩]⟩
def zAI.xs14:List XS:=[⟨.exit 2,[3,4,10,11,14,15],⟨dd 3 (.pv (.int .i64)::(.pv (.int .i64)::(dd 5 (.ptr 50 []::(.ptr 51 []::(dd 2 (.ptr 52 []::(.pv (.int .i64)::(dd 99 []))))))))),[⟨50,s65,(.pr (.pr .imm (.pr .imm (.pr (.own (.pr (.own .imm) .imm)) .imm))) .imm),true,false⟩,⟨51,s104,.imm,true,false⟩,⟨52,s65,(.pr (.pr .imm (.pr .imm (.pr (.own .imm) .imm))) .imm),true,false⟩]⟩⟩]
def zAI.con (N:Nat):Con:={ modes:=[.v,.v,.v,.v,.v],ptrs:=[false],fn:=fn5 s49 .imm s69 .imm .bool .imm (.int .i64) .imm (.int .i64) .imm (zAI N) (fun r=>[⟨s65,(.pr (.pr .imm (.pr .imm (.pr (.own .imm) .imm))) .imm),r⟩]) (fun r=>[]) }
def zAI.cfg (N:Nat):Cfg:={ ty:=tys,keep:=[22,26,32,41,51,57],flt:=[],elm:=elm0,live:=[(14,[3,4,10,11,14,15,16]),(11,[3,4,10,11,14,15])],ord:=[(7,[10,0,1,3,4,5,6,7,2,8,9,11]),(11,[0,1,2,3,4,5,6,7,8,9,10,11,12,13,14]),(16,[0,1,2,3,4,5,6,7,8,9,10,11,12,13,14,15,16,17,18,19,20,21,22])],con:=[((67,[.one]),zAJ.con N),((68,[.one]),zCK.con N),((51,[.one,.one]),zC7.con N),((69,[.one,.one,.one,.one]),zAK.con N),((70,[.one,.one]),zCF.con N),((71,[.one,.one]),zBV.con N)],loops:=[(11,loopCon N zAI.sk11 zAI.xs11 (fun {R}=>zAI.l11 (R:=R) N)),(14,loopCon N zAI.sk14 zAI.xs14 (fun {R}=>zAI.l14 (R:=R) N))],joins:=[] }
theorem zAI.cons (N:Nat):ConsOk Tryz.prog TB (zAI.cfg N).con:=(consOk_cons (hb67) (zAJ.ok N) (zAJ.det N) (consOk_cons (hb68) (zCK.ok N) (zCK.det N) (consOk_cons (hb51) (zC7.ok N) (zC7.det N) (consOk_cons (hb69) (zAK.ok N) (zAK.det N) (consOk_cons (hb70) (zCF.ok N) (zCF.det N) (consOk_cons (hb71) (zBV.ok N) (zBV.det N) consOk_nil))))))
theorem zAI.h14 {R:Type} (N:Nat) (d:zAI.sk14.D) (kn:zAI.sk14.D->Option R) (kx:XD zAI.xs14->Option R):roundK (zAI.cfg N) N (nthLoop (fnBody Tryz.f35) 1) zAI.sk14 zAI.xs14 d kn kx=zAI.l14 N d kn kx:=by kernel_rfl
theorem zAI.i14 (N:Nat):LoopsOk Tryz.prog TB (zAI.cfg N) (nthLoop (fnBody Tryz.f35) 1):=loopsL (l:=[]) (by kernel_rfl) trivial
theorem zAI.o14 (N:Nat):LoopOk Tryz.prog TB (nthLoop (fnBody Tryz.f35) 1) (loopCon N zAI.sk14 zAI.xs14 (fun {R}=>zAI.l14 (R:=R) N)):=loop_ok (g:=zAI.cfg N) tys_ok (zAI.cons N) mixed (zAI.i14 N) (fun d kn kx=>zAI.h14 N d kn kx)
theorem zAI.h11 {R:Type} (N:Nat) (d:zAI.sk11.D) (kn:zAI.sk11.D->Option R) (kx:XD zAI.xs11->Option R):roundK (zAI.cfg N) N (nthLoop (fnBody Tryz.f35) 0) zAI.sk11 zAI.xs11 d kn kx=zAI.l11 N d kn kx:=by kernel_rfl
theorem zAI.i11 (N:Nat):LoopsOk Tryz.prog TB (zAI.cfg N) (nthLoop (fnBody Tryz.f35) 0):=loopsL (l:=[nthLoop (fnBody Tryz.f35) 1]) (by kernel_rfl) ⟨loopOne (L0:=loopCon N zAI.sk14 zAI.xs14 (fun {R}=>zAI.l14 (R:=R) N)) (id:=14) (by kernel_rfl) (by kernel_rfl) (zAI.o14 N),trivial⟩
theorem zAI.o11 (N:Nat):LoopOk Tryz.prog TB (nthLoop (fnBody Tryz.f35) 0) (loopCon N zAI.sk11 zAI.xs11 (fun {R}=>zAI.l11 (R:=R) N)):=loop_ok (g:=zAI.cfg N) tys_ok (zAI.cons N) mixed (zAI.i11 N) (fun d kn kx=>zAI.h11 N d kn kx)
theorem zAI.ls (N:Nat):LoopsOk Tryz.prog TB (zAI.cfg N) (fnBody Tryz.f35):=loopsL (l:=[nthLoop (fnBody Tryz.f35) 0,nthLoop (fnBody Tryz.f35) 1]) (by kernel_rfl) ⟨loopOne (L0:=loopCon N zAI.sk11 zAI.xs11 (fun {R}=>zAI.l11 (R:=R) N)) (id:=11) (by kernel_rfl) (by kernel_rfl) (zAI.o11 N),⟨loopOne (L0:=loopCon N zAI.sk14 zAI.xs14 (fun {R}=>zAI.l14 (R:=R) N)) (id:=14) (by kernel_rfl) (by kernel_rfl) (zAI.o14 N),trivial⟩⟩
theorem zAI.q14 {R R':Type} {N n:Nat} {d} {k} {g:R->Option R'}:bindF (loopP (zAI.l14 N) n d k) g=loopP (zAI.l14 N) n d fun e=>bindF (k e) g:=bindF_loopP (fun d kn kx=>by simp only [zAI.l14,bindF_ifB,bindF_bindO,bindF_pure,bindF_none,bindF_onSum]) n d k
theorem zAI.q11 {R R':Type} {N n:Nat} {d} {k} {g:R->Option R'}:bindF (loopP (zAI.l11 N) n d k) g=loopP (zAI.l11 N) n d fun e=>bindF (k e) g:=bindF_loopP (fun d kn kx=>by simp only [zAI.l11,bindF_ifB,bindF_bindO,bindF_pure,bindF_none,bindF_onSum,zAI.q14]) n d k
theorem zAI.b (N:Nat) (x0:den s49) (x1:den s69) (x2:den .bool) (x3:den (.int .i64)) (x4:den (.int .i64)):body (zAI.cfg N) N Tryz.f35 [.one,.one,.one,.one,.one] [.v,.v,.v,.v,.v] [(false,(.pr (.pr .imm (.pr .imm (.pr (.own .imm) .imm))) .imm))] [⟨s49,.imm,x0⟩,⟨s69,.imm,x1⟩,⟨.bool,.imm,x2⟩,⟨(.int .i64),.imm,x3⟩,⟨(.int .i64),.imm,x4⟩] (fun r i=>some (r,i))=bindO (zAI N x0 x1 x2 x3 x4) fun r=>some ([⟨s65,(.pr (.pr .imm (.pr .imm (.pr (.own .imm) .imm))) .imm),r⟩],[]):=by
 show _=bindF _ _
 conv=>rhs;simp only [zAI,bindF_ifB,bindF_bindO,bindF_pure,bindF_none,bindF_onSum,zAI.q11,zAI.q14]
 kernel_rfl
theorem zAI.ok (N:Nat):ConOk Tryz.prog TB 35 [.one,.one,.one,.one,.one] (zAI.con N):=ok5 (g:=zAI.cfg N) (N:=N) (res:=[(false,(.pr (.pr .imm (.pr .imm (.pr (.own .imm) .imm))) .imm))]) tys_ok (zAI.cons N) mixed Tryz.func35 (zAI.ls N) rfl (zAI.b N)
theorem zAI.det (N:Nat):ConDet (zAI.con N):=det5
def zBC.con (N:Nat):Con:={ modes:=[.io,.v],ptrs:=[false],fn:=fn2 s62 .imm (.int .i64) .imm (zBC N) (fun r=>[⟨.bool,.imm,r.1⟩]) (fun r=>[⟨s62,.imm,r.2⟩]) }
def zBC.cfg (N:Nat):Cfg:={ ty:=tys,keep:=[7],flt:=[],elm:=elm0,live:=[],ord:=[],con:=[((34,[.one,.one]),zAC.con N)],loops:=[],joins:=[] }
theorem zBC.cons (N:Nat):ConsOk Tryz.prog TB (zBC.cfg N).con:=(consOk_cons (hb34) (zAC.ok N) (zAC.det N) consOk_nil)
theorem zBC.ls (N:Nat):LoopsOk Tryz.prog TB (zBC.cfg N) (fnBody Tryz.f39):=loopsL (l:=[]) (by kernel_rfl) trivial
theorem zBC.b (N:Nat) (x0:den s62) (x1:den (.int .i64)):body (zBC.cfg N) N Tryz.f39 [.one,.one] [.io,.v] [(false,.imm)] [⟨s62,.imm,x0⟩,⟨(.int .i64),.imm,x1⟩] (fun r i=>some (r,i))=bindO (zBC N x0 x1) fun r=>some ([⟨.bool,.imm,r.1⟩],[⟨s62,.imm,r.2⟩]):=by
 show _=bindF _ _
 conv=>rhs;simp only [zBC,bindF_ifB,bindF_bindO,bindF_pure,bindF_none,bindF_onSum]
 kernel_rfl
theorem zBC.ok (N:Nat):ConOk Tryz.prog TB 39 [.one,.one] (zBC.con N):=ok2 (g:=zBC.cfg N) (N:=N) (res:=[(false,.imm)]) tys_ok (zBC.cons N) mixed Tryz.func39 (zBC.ls N) rfl (zBC.b N)
theorem zBC.det (N:Nat):ConDet (zBC.con N):=det2
def zBS.con (N:Nat):Con:={ modes:=[.io],ptrs:=[false],fn:=fn1 s62 .imm (zBS N) (fun r=>[⟨s69,(.pr (.own .imm) .imm),r.1⟩]) (fun r=>[⟨s62,.imm,r.2⟩]) }
def zBS.cfg (N:Nat):Cfg:={ ty:=tys,keep:=[13,14,17,20,22,30,35,38,40,52,62],flt:=[],elm:=elm0,live:=[],ord:=[],con:=[((34,[.one,.one]),zAC.con N),((36,[.one,.one]),zA7.con N),((39,[.one,.one]),zBC.con N)],loops:=[],joins:=[] }
theorem zBS.cons (N:Nat):ConsOk Tryz.prog TB (zBS.cfg N).con:=(consOk_cons (hb34) (zAC.ok N) (zAC.det N) (consOk_cons (hb36) (zA7.ok N) (zA7.det N) (consOk_cons (hb39) (zBC.ok N) (zBC.det N) consOk_nil)))
theorem zBS.ls (N:Nat):LoopsOk Tryz.prog TB (zBS.cfg N) (fnBody Tryz.f38):=loopsL (l:=[]) (by kernel_rfl) trivial
theorem zBS.b (N:Nat) (x0:den s62):body (zBS.cfg N) N Tryz.f38 [.one] [.io] [(false,(.pr (.own .imm) .imm))] [⟨s62,.imm,x0⟩] (fun r i=>some (r,i))=bindO (zBS N x0) fun r=>some ([⟨s69,(.pr (.own .imm) .imm),r.1⟩],[⟨s62,.imm,r.2⟩]):=by
 show _=bindF _ _
 conv=>rhs;simp only [zBS,bindF_ifB,bindF_bindO,bindF_pure,bindF_none,bindF_onSum]
 kernel_rfl
theorem zBS.ok (N:Nat):ConOk Tryz.prog TB 38 [.one] (zBS.con N):=ok1 (g:=zBS.cfg N) (N:=N) (res:=[(false,(.pr (.own .imm) .imm))]) tys_ok (zBS.cons N) mixed Tryz.func38 (zBS.ls N) rfl (zBS.b N)
theorem zBS.det (N:Nat):ConDet (zBS.con N):=det1
end Go.AE.F
end
