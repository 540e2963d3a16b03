/- The printed functions are what the program comes to: contracts. -/
import Derived.Test.YtgljdfgbcfdmbaaGreatDoorLSendAllF10
import Derived.Test.YtgljdfgbcfdmbaaGreatDoorLSendAllT
noncomputable section
namespace Go.AE.F
open Go.AE Go.Proofs
set_option maxRecDepth 100000
def zAQ.sk3:Skel:=⟨.pv s22::(dd 2 (.ptr 50 []::(.pv (.int .i64)::(dd 42 [])))),[⟨50,s53,.imm,true,false⟩]⟩
def zAQ.xs3:List XS:=[⟨.exit 0,[0,3],⟨.pv s22::(dd 2 (.ptr 50 []::(dd 43 []))),[⟨50,s53,.imm,true,false⟩]⟩⟩]
def zAQ.con (N:Nat):Con:={ modes:=[.v],ptrs:=[true],fn:=fn1 s22 .imm (zAQ N) (fun r=>[⟨s53,.imm,r⟩]) (fun r=>[]) }
def zAQ.cfg (N:Nat):Cfg:={ ty:=tys,keep:=[],flt:=[],elm:=elm0,live:=[(3,[0,3,4])],ord:=[(5,[0,1,2,3,4,5,6,7,8,9,10,11,12,13,14])],con:=[],loops:=[(3,loopCon N zAQ.sk3 zAQ.xs3 (fun {R}=>zAQ.l3 (R:=R) N))],joins:=[] }
theorem zAQ.cons (N:Nat):ConsOk Tryz.prog TB (zAQ.cfg N).con:=consOk_nil
theorem zAQ.h3 {R:Type} (N:Nat) (d:zAQ.sk3.D) (kn:zAQ.sk3.D->Option R) (kx:XD zAQ.xs3->Option R):roundK (zAQ.cfg N) N (nthLoop (fnBody Tryz.f12) 0) zAQ.sk3 zAQ.xs3 d kn kx=zAQ.l3 N d kn kx:=by kernel_rfl
theorem zAQ.i3 (N:Nat):LoopsOk Tryz.prog TB (zAQ.cfg N) (nthLoop (fnBody Tryz.f12) 0):=loopsL (l:=[]) (by kernel_rfl) trivial
theorem zAQ.o3 (N:Nat):LoopOk Tryz.prog TB (nthLoop (fnBody Tryz.f12) 0) (loopCon N zAQ.sk3 zAQ.xs3 (fun {R}=>zAQ.l3 (R:=R) N)):=loop_ok (g:=zAQ.cfg N) tys_ok (zAQ.cons N) mixed (zAQ.i3 N) (fun d kn kx=>zAQ.h3 N d kn kx)
theorem zAQ.ls (N:Nat):LoopsOk Tryz.prog TB (zAQ.cfg N) (fnBody Tryz.f12):=loopsL (l:=[nthLoop (fnBody Tryz.f12) 0]) (by kernel_rfl) ⟨loopOne (L0:=loopCon N zAQ.sk3 zAQ.xs3 (fun {R}=>zAQ.l3 (R:=R) N)) (id:=3) (by kernel_rfl) (by kernel_rfl) (zAQ.o3 N),trivial⟩
theorem zAQ.q3 {R R':Type} {N n:Nat} {d} {k} {g:R->Option R'}:bindF (loopP (zAQ.l3 N) n d k) g=loopP (zAQ.l3 N) n d fun e=>bindF (k e) g:=bindF_loopP (fun d kn kx=>by simp only [zAQ.l3,bindF_ifB,bindF_bindO,bindF_pure,bindF_none,bindF_onSum]) n d k
theorem zAQ.b (N:Nat) (x0:den s22):body (zAQ.cfg N) N Tryz.f12 [.one] [.v] [(true,.imm)] [⟨s22,.imm,x0⟩] (fun r i=>some (r,i))=bindO (zAQ N x0) fun r=>some ([⟨s53,.imm,r⟩],[]):=by
 show _=bindF _ _
 conv=>rhs;simp only [zAQ,bindF_ifB,bindF_bindO,bindF_pure,bindF_none,bindF_onSum,zAQ.q3]
 kernel_rfl
theorem zAQ.ok (N:Nat):ConOk Tryz.prog TB 12 [.one] (zAQ.con N):=ok1 (g:=zAQ.cfg N) (N:=N) (res:=[(true,.imm)]) tys_ok (zAQ.cons N) mixed Tryz.func12 (zAQ.ls N) rfl (zAQ.b N)
theorem zAQ.det (N:Nat):ConDet (zAQ.con N):=det1
def zAD.con (N:Nat):Con:={ modes:=[.io,.v],ptrs:=[false],fn:=fn2 s53 .imm (.int .i64) .imm (zAD N) (fun r=>[⟨(.int .i64),.imm,r.1⟩]) (fun r=>[⟨s53,.imm,r.2⟩]) }
def zAD.cfg (N:Nat):Cfg:={ ty:=tys,keep:=[],flt:=[],elm:=elm0,live:=[],ord:=[(4,[0,1,2,3,4,5,6,7,8,9]),(5,[0,1,2,3,4,5,6,7,8,9,10,11]),(7,[0,1,2,3,4,5,6,7,8,9,10,11,12,13]),(8,[0,1,2,3,4,5,6,7,8,9,10,11,12,13]),(9,[0,1,2,3,4,5,6,7,8,9,10,11,12,13])],con:=[],loops:=[],joins:=[] }
theorem zAD.cons (N:Nat):ConsOk Tryz.prog TB (zAD.cfg N).con:=consOk_nil
theorem zAD.ls (N:Nat):LoopsOk Tryz.prog TB (zAD.cfg N) (fnBody Tryz.f33):=loopsL (l:=[]) (by kernel_rfl) trivial
theorem zAD.b (N:Nat) (x0:den s53) (x1:den (.int .i64)):body (zAD.cfg N) N Tryz.f33 [.one,.one] [.io,.v] [(false,.imm)] [⟨s53,.imm,x0⟩,⟨(.int .i64),.imm,x1⟩] (fun r i=>some (r,i))=bindO (zAD N x0 x1) fun r=>some ([⟨(.int .i64),.imm,r.1⟩],[⟨s53,.imm,r.2⟩]):=by
 show _=bindF _ _
 conv=>rhs;simp only [zAD,bindF_ifB,bindF_bindO,bindF_pure,bindF_none,bindF_onSum]
 kernel_rfl
theorem zAD.ok (N:Nat):ConOk Tryz.prog TB 33 [.one,.one] (zAD.con N):=ok2 (g:=zAD.cfg N) (N:=N) (res:=[(false,.imm)]) tys_ok (zAD.cons N) mixed Tryz.func33 (zAD.ls N) rfl (zAD.b N)
theorem zAD.det (N:Nat):ConDet (zAD.con N):=det2
def zBY.con (N:Nat):Con:={ modes:=[.io],ptrs:=[false],fn:=fn1 s53 .imm (zBY N) (fun r=>[⟨(.int .i64),.imm,r.1⟩]) (fun r=>[⟨s53,.imm,r.2⟩]) }
def zBY.cfg (N:Nat):Cfg:={ ty:=tys,keep:=[4,13,20,27,34,40,43],flt:=[],elm:=elm0,live:=[],ord:=[],con:=[((33,[.one,.one]),zAD.con N)],loops:=[],joins:=[] }
theorem zBY.cons (N:Nat):ConsOk Tryz.prog TB (zBY.cfg N).con:=(consOk_cons (hb33) (zAD.ok N) (zAD.det N) consOk_nil)
theorem zBY.ls (N:Nat):LoopsOk Tryz.prog TB (zBY.cfg N) (fnBody Tryz.f72):=loopsL (l:=[]) (by kernel_rfl) trivial
theorem zBY.b (N:Nat) (x0:den s53):body (zBY.cfg N) N Tryz.f72 [.one] [.io] [(false,.imm)] [⟨s53,.imm,x0⟩] (fun r i=>some (r,i))=bindO (zBY N x0) fun r=>some ([⟨(.int .i64),.imm,r.1⟩],[⟨s53,.imm,r.2⟩]):=by
 show _=bindF _ _
 conv=>rhs;simp only [zBY,bindF_ifB,bindF_bindO,bindF_pure,bindF_none,bindF_onSum]
 kernel_rfl
theorem zBY.ok (N:Nat):ConOk Tryz.prog TB 72 [.one] (zBY.con N):=ok1 (g:=zBY.cfg N) (N:=N) (res:=[(false,.imm)]) tys_ok (zBY.cons N) mixed Tryz.func72 (zBY.ls N) rfl (zBY.b N)
theorem zBY.det (N:Nat):ConDet (zBY.con N):=det1
def zA7.sk2:Skel:=⟨.ptr 0 []::(.pv (.int .i64)::(dd 3 (.ov 50 []::(dd 11 [])))),[⟨0,s53,.imm,true,false⟩,⟨50,s40,(.own .imm),false,false⟩]⟩
def zA7.xs2:List XS:=[⟨.exit 0,[5],⟨dd 5 (.ov 50 []::(dd 11 [])),[⟨0,s53,.imm,true,false⟩,⟨50,s40,(.own .imm),false,false⟩]⟩⟩]
def zA7.con (N:Nat):Con:={ modes:=[.io,.v],ptrs:=[false],fn:=fn2 s53 .imm (.int .i64) .imm (zA7 N) (fun r=>[⟨s40,(.own .imm),r.1⟩]) (fun r=>[⟨s53,.imm,r.2⟩]) }
def zA7.cfg (N:Nat):Cfg:={ ty:=tys,keep:=[13],flt:=[],elm:=elm0,live:=[(2,[0,1,5])],ord:=[],con:=[((72,[.one]),zBY.con N)],loops:=[(2,loopCon N zA7.sk2 zA7.xs2 (fun {R}=>zA7.l2 (R:=R) N))],joins:=[] }
theorem zA7.cons (N:Nat):ConsOk Tryz.prog TB (zA7.cfg N).con:=(consOk_cons (hb72) (zBY.ok N) (zBY.det N) consOk_nil)
theorem zA7.h2 {R:Type} (N:Nat) (d:zA7.sk2.D) (kn:zA7.sk2.D->Option R) (kx:XD zA7.xs2->Option R):roundK (zA7.cfg N) N (nthLoop (fnBody Tryz.f35) 0) zA7.sk2 zA7.xs2 d kn kx=zA7.l2 N d kn kx:=by kernel_rfl
theorem zA7.i2 (N:Nat):LoopsOk Tryz.prog TB (zA7.cfg N) (nthLoop (fnBody Tryz.f35) 0):=loopsL (l:=[]) (by kernel_rfl) trivial
theorem zA7.o2 (N:Nat):LoopOk Tryz.prog TB (nthLoop (fnBody Tryz.f35) 0) (loopCon N zA7.sk2 zA7.xs2 (fun {R}=>zA7.l2 (R:=R) N)):=loop_ok (g:=zA7.cfg N) tys_ok (zA7.cons N) mixed (zA7.i2 N) (fun d kn kx=>zA7.h2 N d kn kx)
theorem zA7.ls (N:Nat):LoopsOk Tryz.prog TB (zA7.cfg N) (fnBody Tryz.f35):=loopsL (l:=[nthLoop (fnBody Tryz.f35) 0]) (by kernel_rfl) ⟨loopOne (L0:=loopCon N zA7.sk2 zA7.xs2 (fun {R}=>zA7.l2 (R:=R) N)) (id:=2) (by kernel_rfl) (by kernel_rfl) (zA7.o2 N),trivial⟩
theorem zA7.q2 {R R':Type} {N n:Nat} {d} {k} {g:R->Option R'}:bindF (loopP (zA7.l2 N) n d k) g=loopP (zA7.l2 N) n d fun e=>bindF (k e) g:=bindF_loopP (fun d kn kx=>by simp only [zA7.l2,bindF_ifB,bindF_bindO,bindF_pure,bindF_none,bindF_onSum]) n d k
theorem zA7.b (N:Nat) (x0:den s53) (x1:den (.int .i64)):body (zA7.cfg N) N Tryz.f35 [.one,.one] [.io,.v] [(false,(.own .imm))] [⟨s53,.imm,x0⟩,⟨(.int .i64),.imm,x1⟩] (fun r i=>some (r,i))=bindO (zA7 N x0 x1) fun r=>some ([⟨s40,(.own .imm),r.1⟩],[⟨s53,.imm,r.2⟩]):=by
 show _=bindF _ _
 conv=>rhs;simp only [zA7,bindF_ifB,bindF_bindO,bindF_pure,bindF_none,bindF_onSum,zA7.q2]
 kernel_rfl
theorem zA7.ok (N:Nat):ConOk Tryz.prog TB 35 [.one,.one] (zA7.con N):=ok2 (g:=zA7.cfg N) (N:=N) (res:=[(false,(.own .imm))]) tys_ok (zA7.cons N) mixed Tryz.func35 (zA7.ls N) rfl (zA7.b N)
theorem zA7.det (N:Nat):ConDet (zA7.con N):=det2
def zBJ.con (N:Nat):Con:={ modes:=[.io],ptrs:=[false],fn:=fn1 s53 .imm (zBJ N) (fun r=>[⟨s60,(.pr (.own .imm) .imm),r.1⟩]) (fun r=>[⟨s53,.imm,r.2⟩]) }
def zBJ.cfg (N:Nat):Cfg:={ ty:=tys,keep:=[6,7,14],flt:=[],elm:=elm0,live:=[],ord:=[],con:=[((33,[.one,.one]),zAD.con N),((35,[.one,.one]),zA7.con N)],loops:=[],joins:=[] }
theorem zBJ.cons (N:Nat):ConsOk Tryz.prog TB (zBJ.cfg N).con:=(consOk_cons (hb33) (zAD.ok N) (zAD.det N) (consOk_cons (hb35) (zA7.ok N) (zA7.det N) consOk_nil))
theorem zBJ.ls (N:Nat):LoopsOk Tryz.prog TB (zBJ.cfg N) (fnBody Tryz.f36):=loopsL (l:=[]) (by kernel_rfl) trivial
theorem zBJ.b (N:Nat) (x0:den s53):body (zBJ.cfg N) N Tryz.f36 [.one] [.io] [(false,(.pr (.own .imm) .imm))] [⟨s53,.imm,x0⟩] (fun r i=>some (r,i))=bindO (zBJ N x0) fun r=>some ([⟨s60,(.pr (.own .imm) .imm),r.1⟩],[⟨s53,.imm,r.2⟩]):=by
 show _=bindF _ _
 conv=>rhs;simp only [zBJ,bindF_ifB,bindF_bindO,bindF_pure,bindF_none,bindF_onSum]
 kernel_rfl
theorem zBJ.ok (N:Nat):ConOk Tryz.prog TB 36 [.one] (zBJ.con N):=ok1 (g:=zBJ.cfg N) (N:=N) (res:=[(false,(.pr (.own .imm) .imm))]) tys_ok (zBJ.cons N) mixed Tryz.func36 (zBJ.ls N) rfl (zBJ.b N)
theorem zBJ.det (N:Nat):ConDet (zBJ.con N):=det1
def zBP.con (N:Nat):Con:={ modes:=[.v],ptrs:=[false],fn:=fn1 (.int .i64) .imm (zBP N) (fun r=>[⟨.bool,.imm,r⟩]) (fun r=>[]) }
def zBP.cfg (N:Nat):Cfg:={ ty:=tys,keep:=[],flt:=[],elm:=elm0,live:=[],ord:=[],con:=[],loops:=[],joins:=[] }
theorem zBP.cons (N:Nat):ConsOk Tryz.prog TB (zBP.cfg N).con:=consOk_nil
theorem zBP.ls (N:Nat):LoopsOk Tryz.prog TB (zBP.cfg N) (fnBody Tryz.f76):=loopsL (l:=[]) (by kernel_rfl) trivial
theorem zBP.b (N:Nat) (x0:den (.int .i64)):body (zBP.cfg N) N Tryz.f76 [.one] [.v] [(false,.imm)] [⟨(.int .i64),.imm,x0⟩] (fun r i=>some (r,i))=bindO (zBP N x0) fun r=>some ([⟨.bool,.imm,r⟩],[]):=by
 show _=bindF _ _
 conv=>rhs;simp only [zBP,bindF_ifB,bindF_bindO,bindF_pure,bindF_none,bindF_onSum]
 kernel_rfl
theorem zBP.ok (N:Nat):ConOk Tryz.prog TB 76 [.one] (zBP.con N):=ok1 (g:=zBP.cfg N) (N:=N) (res:=[(false,.imm)]) tys_ok (zBP.cons N) mixed Tryz.func76 (zBP.ls N) rfl (zBP.b N)
theorem zBP.det (N:Nat):ConDet (zBP.con N):=det1
def zAJ.sk4:Skel:=⟨.pv s40::(dd 2 (.pv (.int .i64)::(dd 15 []))),[]⟩
def zAJ.xs4:List XS:=[⟨.exit 0,[],⟨dd 19 [],[]⟩⟩,⟨.ret,[2],⟨dd 2 (.pv .bool::(dd 16 [])),[]⟩⟩]
def zAJ.con (N:Nat):Con:={ modes:=[.v],ptrs:=[false],fn:=fn1 s40 .imm (zAJ N) (fun r=>[⟨.bool,.imm,r⟩]) (fun r=>[]) }
def zAJ.cfg (N:Nat):Cfg:={ ty:=tys,keep:=[17],flt:=[],elm:=elm0,live:=[(4,[0,3])],ord:=[],con:=[((76,[.one]),zBP.con N)],loops:=[(4,loopCon N zAJ.sk4 zAJ.xs4 (fun {R}=>zAJ.l4 (R:=R) N))],joins:=[] }
theorem zAJ.cons (N:Nat):ConsOk Tryz.prog TB (zAJ.cfg N).con:=(consOk_cons (hb76) (zBP.ok N) (zBP.det N) consOk_nil)
theorem zAJ.h4 {R:Type} (N:Nat) (d:zAJ.sk4.D) (kn:zAJ.sk4.D->Option R) (kx:XD zAJ.xs4->Option R):roundK (zAJ.cfg N) N (nthLoop (fnBody Tryz.f68) 0) zAJ.sk4 zAJ.xs4 d kn kx=zAJ.l4 N d kn kx:=by kernel_rfl
theorem zAJ.i4 (N:Nat):LoopsOk Tryz.prog TB (zAJ.cfg N) (nthLoop (fnBody Tryz.f68) 0):=loopsL (l:=[]) (by kernel_rfl) trivial
theorem zAJ.o4 (N:Nat):LoopOk Tryz.prog TB (nthLoop (fnBody Tryz.f68) 0) (loopCon N zAJ.sk4 zAJ.xs4 (fun {R}=>zAJ.l4 (R:=R) N)):=loop_ok (g:=zAJ.cfg N) tys_ok (zAJ.cons N) mixed (zAJ.i4 N) (fun d kn kx=>zAJ.h4 N d kn kx)
theorem zAJ.ls (N:Nat):LoopsOk Tryz.prog TB (zAJ.cfg N) (fnBody Tryz.f68):=loopsL (l:=[nthLoop (fnBody Tryz.f68) 0]) (by kernel_rfl) ⟨loopOne (L0:=loopCon N zAJ.sk4 zAJ.xs4 (fun {R}=>zAJ.l4 (R:=R) N)) (id:=4) (by kernel_rfl) (by kernel_rfl) (zAJ.o4 N),trivial⟩
theorem zAJ.q4 {R R':Type} {N n:Nat} {d} {k} {g:R->Option R'}:bindF (loopP (zAJ.l4 N) n d k) g=loopP (zAJ.l4 N) n d fun e=>bindF (k e) g:=bindF_loopP (fun d kn kx=>by simp only [zAJ.l4,bindF_ifB,bindF_bindO,bindF_pure,bindF_none,bindF_onSum]) n d k
theorem zAJ.b (N:Nat) (x0:den s40):body (zAJ.cfg N) N Tryz.f68 [.one] [.v] [(false,.imm)] [⟨s40,.imm,x0⟩] (fun r i=>some (r,i))=bindO (zAJ N x0) fun r=>some ([⟨.bool,.imm,r⟩],[]):=by
 show _=bindF _ _
 conv=>rhs;simp only [zAJ,bindF_ifB,bindF_bindO,bindF_pure,bindF_none,bindF_onSum,zAJ.q4]
 kernel_rfl
theorem zAJ.ok (N:Nat):ConOk Tryz.prog TB 68 [.one] (zAJ.con N):=ok1 (g:=zAJ.cfg N) (N:=N) (res:=[(false,.imm)]) tys_ok (zAJ.cons N) mixed Tryz.func68 (zAJ.ls N) rfl (zAJ.b N)
theorem zAJ.det (N:Nat):ConDet (zAJ.con N):=det1
def zCN.con (N:Nat):Con:={ modes:=[.v],ptrs:=[false],fn:=fn1 s60 .imm (zCN N) (fun r=>[⟨.bool,.imm,r⟩]) (fun r=>[]) }
def zCN.cfg (N:Nat):Cfg:={ ty:=tys,keep:=[9],flt:=[],elm:=elm0,live:=[],ord:=[],con:=[((68,[.one]),zAJ.con N)],loops:=[],joins:=[] }
theorem zCN.cons (N:Nat):ConsOk Tryz.prog TB (zCN.cfg N).con:=(consOk_cons (hb68) (zAJ.ok N) (zAJ.det N) consOk_nil)
theorem zCN.ls (N:Nat):LoopsOk Tryz.prog TB (zCN.cfg N) (fnBody Tryz.f69):=loopsL (l:=[]) (by kernel_rfl) trivial
theorem zCN.b (N:Nat) (x0:den s60):body (zCN.cfg N) N Tryz.f69 [.one] [.v] [(false,.imm)] [⟨s60,.imm,x0⟩] (fun r i=>some (r,i))=bindO (zCN N x0) fun r=>some ([⟨.bool,.imm,r⟩],[]):=by
 show _=bindF _ _
 conv=>rhs;simp only [zCN,bindF_ifB,bindF_bindO,bindF_pure,bindF_none,bindF_onSum]
 kernel_rfl
theorem zCN.ok (N:Nat):ConOk Tryz.prog TB 69 [.one] (zCN.con N):=ok1 (g:=zCN.cfg N) (N:=N) (res:=[(false,.imm)]) tys_ok (zCN.cons N) mixed Tryz.func69 (zCN.ls N) rfl (zCN.b N)
theorem zCN.det (N:Nat):ConDet (zCN.con N):=det1
def zC8.con (N:Nat):Con:={ modes:=[.v,.v],ptrs:=[false],fn:=fn2 (.int .i64) .imm (.int .i64) .imm (zC8 N) (fun r=>[⟨.bool,.imm,r⟩]) (fun r=>[]) }
def zC8.cfg (N:Nat):Cfg:={ ty:=tys,keep:=[],flt:=[],elm:=elm0,live:=[],ord:=[],con:=[],loops:=[],joins:=[] }
theorem zC8.cons (N:Nat):ConsOk Tryz.prog TB (zC8.cfg N).con:=consOk_nil
theorem zC8.ls (N:Nat):LoopsOk Tryz.prog TB (zC8.cfg N) (fnBody Tryz.f44):=loopsL (l:=[]) (by kernel_rfl) trivial
theorem zC8.b (N:Nat) (x0:den (.int .i64)) (x1:den (.int .i64)):body (zC8.cfg N) N Tryz.f44 [.one,.one] [.v,.v] [(false,.imm)] [⟨(.int .i64),.imm,x0⟩,⟨(.int .i64),.imm,x1⟩] (fun r i=>some (r,i))=bindO (zC8 N x0 x1) fun r=>some ([⟨.bool,.imm,r⟩],[]):=by
 show _=bindF _ _
 conv=>rhs;simp only [zC8,bindF_ifB,bindF_bindO,bindF_pure,bindF_none,bindF_onSum]
 kernel_rfl
theorem zC8.ok (N:Nat):ConOk Tryz.prog TB 44 [.one,.one] (zC8.con N):=ok2 (g:=zC8.cfg N) (N:=N) (res:=[(false,.imm)]) tys_ok (zC8.cons N) mixed Tryz.func44 (zC8.ls N) rfl (zC8.b N)
theorem zC8.det (N:Nat):ConDet (zC8.con N):=det2
def zBH.con (N:Nat):Con:={ modes:=[.io],ptrs:=[],fn:=fn1 s104 (.pr .imm (.pr (.own (.own (.pr (.own .imm) .imm))) .imm)) (zBH N) (fun r=>[]) (fun r=>[⟨s104,(.pr .imm (.pr (.own (.own (.pr (.own .imm) .imm))) .imm)),r⟩]) }
def zBH.cfg (N:Nat):Cfg:={ ty:=tys,keep:=[],flt:=[],elm:=elm0,live:=[],ord:=[(0,[0,1,2,3,4,5,6,7,8,9,10,11,12,13,14])],con:=[],loops:=[],joins:=[] }
theorem zBH.cons (N:Nat):ConsOk Tryz.prog TB (zBH.cfg N).con:=consOk_nil
theorem zBH.ls (N:Nat):LoopsOk Tryz.prog TB (zBH.cfg N) (fnBody Tryz.f85):=loopsL (l:=[]) (by kernel_rfl) trivial
theorem zBH.b (N:Nat) (x0:den s104):body (zBH.cfg N) N Tryz.f85 [.one] [.io] [] [⟨s104,(.pr .imm (.pr (.own (.own (.pr (.own .imm) .imm))) .imm)),x0⟩] (fun r i=>some (r,i))=bindO (zBH N x0) fun r=>some ([],[⟨s104,(.pr .imm (.pr (.own (.own (.pr (.own .imm) .imm))) .imm)),r⟩]):=by
 show _=bindF _ _
 conv=>rhs;simp only [zBH,bindF_ifB,bindF_bindO,bindF_pure,bindF_none,bindF_onSum]
 kernel_rfl
theorem zBH.ok (N:Nat):ConOk Tryz.prog TB 85 [.one] (zBH.con N):=ok1 (g:=zBH.cfg N) (N:=N) (res:=[]) tys_ok (zBH.cons N) mixed Tryz.func85 (zBH.ls N) rfl (zBH.b N)
theorem zBH.det (N:Nat):ConDet (zBH.con N):=det1
def zCL.con (N:Nat):Con:={ modes:=[.v],ptrs:=[false],fn:=fn1 (.int .i64) .imm (zCL N) (fun r=>[⟨s40,(.own .imm),r⟩]) (fun r=>[]) }
def zCL.cfg (N:Nat):Cfg:={ ty:=tys,keep:=[],flt:=[],elm:=elm0,live:=[],ord:=[],con:=[],loops:=[],joins:=[] }
theorem zCL.cons (N:Nat):ConsOk Tryz.prog TB (zCL.cfg N).con:=consOk_nil
theorem zCL.ls (N:Nat):LoopsOk Tryz.prog TB (zCL.cfg N) (fnBody Tryz.f99):=loopsL (l:=[]) (by kernel_rfl) trivial
theorem zCL.b (N:Nat) (x0:den (.int .i64)):body (zCL.cfg N) N Tryz.f99 [.one] [.v] [(false,(.own .imm))] [⟨(.int .i64),.imm,x0⟩] (fun r i=>some (r,i))=bindO (zCL N x0) fun r=>some ([⟨s40,(.own .imm),r⟩],[]):=by
 show _=bindF _ _
 conv=>rhs;simp only [zCL,bindF_ifB,bindF_bindO,bindF_pure,bindF_none,bindF_onSum]
 kernel_rfl
theorem zCL.ok (N:Nat):ConOk Tryz.prog TB 99 [.one] (zCL.con N):=ok1 (g:=zCL.cfg N) (N:=N) (res:=[(false,(.own .imm))]) tys_ok (zCL.cons N) mixed Tryz.func99 (zCL.ls N) rfl (zCL.b N)
theorem zCL.det (N:Nat):ConDet (zCL.con N):=det1
def zC4.con (N:Nat):Con:={ modes:=[.v],ptrs:=[false],fn:=fn1 (.int .i64) .imm (zC4 N) (fun r=>[⟨(.int .i64),.imm,r⟩]) (fun r=>[]) }
def zC4.cfg (N:Nat):Cfg:={ ty:=tys,keep:=[4],flt:=[],elm:=elm0,live:=[],ord:=[],con:=[((76,[.one]),zBP.con N)],loops:=[],joins:=[] }
theorem zC4.cons (N:Nat):ConsOk Tryz.prog TB (zC4.cfg N).con:=(consOk_cons (hb76) (zBP.ok N) (zBP.det N) consOk_nil)
theorem zC4.ls (N:Nat):LoopsOk Tryz.prog TB (zC4.cfg N) (fnBody Tryz.f77):=loopsL (l:=[]) (by kernel_rfl) trivial
theorem zC4.b (N:Nat) (x0:den (.int .i64)):body (zC4.cfg N) N Tryz.f77 [.one] [.v] [(false,.imm)] [⟨(.int .i64),.imm,x0⟩] (fun r i=>some (r,i))=bindO (zC4 N x0) fun r=>some ([⟨(.int .i64),.imm,r⟩],[]):=by
 show _=bindF _ _
 conv=>rhs;simp only [zC4,bindF_ifB,bindF_bindO,bindF_pure,bindF_none,bindF_onSum]
 kernel_rfl
theorem zC4.ok (N:Nat):ConOk Tryz.prog TB 77 [.one] (zC4.con N):=ok1 (g:=zC4.cfg N) (N:=N) (res:=[(false,.imm)]) tys_ok (zC4.cons N) mixed Tryz.func77 (zC4.ls N) rfl (zC4.b N)
theorem zC4.det (N:Nat):ConDet (zC4.con N):=det1
end Go.AE.F
end
