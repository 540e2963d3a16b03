/- The printed functions are what the program comes to: contracts. -/
import Derived.Test.YthcbmbakpjelgaaGreatDoorLSendF10
import Derived.Test.YthcbmbakpjelgaaGreatDoorLSendT
noncomputable section
namespace Go.AE.F
open Go.AE Go.Proofs
set_option maxRecDepth 100000
def zAS.sk3:Skel:=⟨.pv s22::(dd 2 (.ptr 50 []::(.pv (.int .i64)::(dd 42 [])))),[⟨50,s62,.imm,true,false⟩]⟩
def zAS.xs3:List XS:=[⟨.exit 0,[0,3],⟨.pv s22::(dd 2 (.ptr 50 []::(dd 43 []))),[⟨50,s62,.imm,true,false⟩]⟩⟩]
def zAS.con (N:Nat):Con:={ modes:=[.v],ptrs:=[true],fn:=fn1 s22 .imm (zAS N) (fun r=>[⟨s62,.imm,r⟩]) (fun r=>[]) }
def zAS.cfg (N:Nat):Cfg:={ ty:=tys,keep:=[],flt:=[],elm:=elm0,live:=[(3,[0,3,4])],ord:=[(5,[0,1,2,3,4,5,6,7,8,9,10,11,12,13,14])],con:=[],loops:=[(3,loopCon N zAS.sk3 zAS.xs3 (fun {R}=>zAS.l3 (R:=R) N))],joins:=[] }
theorem zAS.cons (N:Nat):ConsOk Tryz.prog TB (zAS.cfg N).con:=consOk_nil
theorem zAS.h3 {R:Type} (N:Nat) (d:zAS.sk3.D) (kn:zAS.sk3.D->Option R) (kx:XD zAS.xs3->Option R):roundK (zAS.cfg N) N (nthLoop (fnBody Tryz.f12) 0) zAS.sk3 zAS.xs3 d kn kx=zAS.l3 N d kn kx:=by kernel_rfl
theorem zAS.i3 (N:Nat):LoopsOk Tryz.prog TB (zAS.cfg N) (nthLoop (fnBody Tryz.f12) 0):=loopsL (l:=[]) (by kernel_rfl) trivial
theorem zAS.o3 (N:Nat):LoopOk Tryz.prog TB (nthLoop (fnBody Tryz.f12) 0) (loopCon N zAS.sk3 zAS.xs3 (fun {R}=>zAS.l3 (R:=R) N)):=loop_ok (g:=zAS.cfg N) tys_ok (zAS.cons N) mixed (zAS.i3 N) (fun d kn kx=>zAS.h3 N d kn kx)
theorem zAS.ls (N:Nat):LoopsOk Tryz.prog TB (zAS.cfg N) (fnBody Tryz.f12):=loopsL (l:=[nthLoop (fnBody Tryz.f12) 0]) (by kernel_rfl) ⟨loopOne (L0:=loopCon N zAS.sk3 zAS.xs3 (fun {R}=>zAS.l3 (R:=R) N)) (id:=3) (by kernel_rfl) (by kernel_rfl) (zAS.o3 N),trivial⟩
theorem zAS.q3 {R R':Type} {N n:Nat} {d} {k} {g:R->Option R'}:bindF (loopP (zAS.l3 N) n d k) g=loopP (zAS.l3 N) n d fun e=>bindF (k e) g:=bindF_loopP (fun d kn kx=>by simp only [zAS.l3,bindF_ifB,bindF_bindO,bindF_pure,bindF_none,bindF_onSum]) n d k
theorem zAS.b (N:Nat) (x0:den s22):body (zAS.cfg N) N Tryz.f12 [.one] [.v] [(true,.imm)] [⟨s22,.imm,x0⟩] (fun r i=>some (r,i))=bindO (zAS N x0) fun r=>some ([⟨s62,.imm,r⟩],[]):=by
 show _=bindF _ _
 conv=>rhs;simp only [zAS,bindF_ifB,bindF_bindO,bindF_pure,bindF_none,bindF_onSum,zAS.q3]
 kernel_rfl
theorem zAS.ok (N:Nat):ConOk Tryz.prog TB 12 [.one] (zAS.con N):=ok1 (g:=zAS.cfg N) (N:=N) (res:=[(true,.imm)]) tys_ok (zAS.cons N) mixed Tryz.func12 (zAS.ls N) rfl (zAS.b N)
theorem zAS.det (N:Nat):ConDet (zAS.con N):=det1
def zAC.con (N:Nat):Con:={ modes:=[.io,.v],ptrs:=[false],fn:=fn2 s62 .imm (.int .i64) .imm (zAC N) (fun r=>[⟨(.int .i64),.imm,r.1⟩]) (fun r=>[⟨s62,.imm,r.2⟩]) }
def zAC.cfg (N:Nat):Cfg:={ ty:=tys,keep:=[],flt:=[],elm:=elm0,live:=[],ord:=[(4,[0,1,2,3,4,5,6,7,8,9]),(5,[0,1,2,3,4,5,6,7,8,9,10,11]),(7,[0,1,2,3,4,5,6,7,8,9,10,11,12,13]),(8,[0,1,2,3,4,5,6,7,8,9,10,11,12,13]),(9,[0,1,2,3,4,5,6,7,8,9,10,11,12,13])],con:=[],loops:=[],joins:=[] }
theorem zAC.cons (N:Nat):ConsOk Tryz.prog TB (zAC.cfg N).con:=consOk_nil
theorem zAC.ls (N:Nat):LoopsOk Tryz.prog TB (zAC.cfg N) (fnBody Tryz.f34):=loopsL (l:=[]) (by kernel_rfl) trivial
theorem zAC.b (N:Nat) (x0:den s62) (x1:den (.int .i64)):body (zAC.cfg N) N Tryz.f34 [.one,.one] [.io,.v] [(false,.imm)] [⟨s62,.imm,x0⟩,⟨(.int .i64),.imm,x1⟩] (fun r i=>some (r,i))=bindO (zAC N x0 x1) fun r=>some ([⟨(.int .i64),.imm,r.1⟩],[⟨s62,.imm,r.2⟩]):=by
 show _=bindF _ _
 conv=>rhs;simp only [zAC,bindF_ifB,bindF_bindO,bindF_pure,bindF_none,bindF_onSum]
 kernel_rfl
theorem zAC.ok (N:Nat):ConOk Tryz.prog TB 34 [.one,.one] (zAC.con N):=ok2 (g:=zAC.cfg N) (N:=N) (res:=[(false,.imm)]) tys_ok (zAC.cons N) mixed Tryz.func34 (zAC.ls N) rfl (zAC.b N)
theorem zAC.det (N:Nat):ConDet (zAC.con N):=det2
def zC0.con (N:Nat):Con:={ modes:=[.io],ptrs:=[false],fn:=fn1 s62 .imm (zC0 N) (fun r=>[⟨(.int .i64),.imm,r.1⟩]) (fun r=>[⟨s62,.imm,r.2⟩]) }
def zC0.cfg (N:Nat):Cfg:={ ty:=tys,keep:=[4,13,20,27,34,40,43],flt:=[],elm:=elm0,live:=[],ord:=[],con:=[((34,[.one,.one]),zAC.con N)],loops:=[],joins:=[] }
theorem zC0.cons (N:Nat):ConsOk Tryz.prog TB (zC0.cfg N).con:=(consOk_cons (hb34) (zAC.ok N) (zAC.det N) consOk_nil)
theorem zC0.ls (N:Nat):LoopsOk Tryz.prog TB (zC0.cfg N) (fnBody Tryz.f72):=loopsL (l:=[]) (by kernel_rfl) trivial
theorem zC0.b (N:Nat) (x0:den s62):body (zC0.cfg N) N Tryz.f72 [.one] [.io] [(false,.imm)] [⟨s62,.imm,x0⟩] (fun r i=>some (r,i))=bindO (zC0 N x0) fun r=>some ([⟨(.int .i64),.imm,r.1⟩],[⟨s62,.imm,r.2⟩]):=by
 show _=bindF _ _
 conv=>rhs;simp only [zC0,bindF_ifB,bindF_bindO,bindF_pure,bindF_none,bindF_onSum]
 kernel_rfl
theorem zC0.ok (N:Nat):ConOk Tryz.prog TB 72 [.one] (zC0.con N):=ok1 (g:=zC0.cfg N) (N:=N) (res:=[(false,.imm)]) tys_ok (zC0.cons N) mixed Tryz.func72 (zC0.ls N) rfl (zC0.b N)
theorem zC0.det (N:Nat):ConDet (zC0.con N):=det1
def zA7.sk2:Skel:=⟨.ptr 0 []::(.pv (.int .i64)::(dd 3 (.ov 50 []::(dd 11 [])))),[⟨0,s62,.imm,true,false⟩,⟨50,s49,(.own .imm),false,false⟩]⟩
def zA7.xs2:List XS:=[⟨.exit 0,[5],⟨dd 5 (.ov 50 []::(dd 11 [])),[⟨0,s62,.imm,true,false⟩,⟨50,s49,(.own .imm),false,false⟩]⟩⟩]
def zA7.con (N:Nat):Con:={ modes:=[.io,.v],ptrs:=[false],fn:=fn2 s62 .imm (.int .i64) .imm (zA7 N) (fun r=>[⟨s49,(.own .imm),r.1⟩]) (fun r=>[⟨s62,.imm,r.2⟩]) }
def zA7.cfg (N:Nat):Cfg:={ ty:=tys,keep:=[13],flt:=[],elm:=elm0,live:=[(2,[0,1,5])],ord:=[],con:=[((72,[.one]),zC0.con N)],loops:=[(2,loopCon N zA7.sk2 zA7.xs2 (fun {R}=>zA7.l2 (R:=R) N))],joins:=[] }
theorem zA7.cons (N:Nat):ConsOk Tryz.prog TB (zA7.cfg N).con:=(consOk_cons (hb72) (zC0.ok N) (zC0.det N) consOk_nil)
theorem zA7.h2 {R:Type} (N:Nat) (d:zA7.sk2.D) (kn:zA7.sk2.D->Option R) (kx:XD zA7.xs2->Option R):roundK (zA7.cfg N) N (nthLoop (fnBody Tryz.f36) 0) zA7.sk2 zA7.xs2 d kn kx=zA7.l2 N d kn kx:=by kernel_rfl
theorem zA7.i2 (N:Nat):LoopsOk Tryz.prog TB (zA7.cfg N) (nthLoop (fnBody Tryz.f36) 0):=loopsL (l:=[]) (by kernel_rfl) trivial
theorem zA7.o2 (N:Nat):LoopOk Tryz.prog TB (nthLoop (fnBody Tryz.f36) 0) (loopCon N zA7.sk2 zA7.xs2 (fun {R}=>zA7.l2 (R:=R) N)):=loop_ok (g:=zA7.cfg N) tys_ok (zA7.cons N) mixed (zA7.i2 N) (fun d kn kx=>zA7.h2 N d kn kx)
theorem zA7.ls (N:Nat):LoopsOk Tryz.prog TB (zA7.cfg N) (fnBody Tryz.f36):=loopsL (l:=[nthLoop (fnBody Tryz.f36) 0]) (by kernel_rfl) ⟨loopOne (L0:=loopCon N zA7.sk2 zA7.xs2 (fun {R}=>zA7.l2 (R:=R) N)) (id:=2) (by kernel_rfl) (by kernel_rfl) (zA7.o2 N),trivial⟩
theorem zA7.q2 {R R':Type} {N n:Nat} {d} {k} {g:R->Option R'}:bindF (loopP (zA7.l2 N) n d k) g=loopP (zA7.l2 N) n d fun e=>bindF (k e) g:=bindF_loopP (fun d kn kx=>by simp only [zA7.l2,bindF_ifB,bindF_bindO,bindF_pure,bindF_none,bindF_onSum]) n d k
theorem zA7.b (N:Nat) (x0:den s62) (x1:den (.int .i64)):body (zA7.cfg N) N Tryz.f36 [.one,.one] [.io,.v] [(false,(.own .imm))] [⟨s62,.imm,x0⟩,⟨(.int .i64),.imm,x1⟩] (fun r i=>some (r,i))=bindO (zA7 N x0 x1) fun r=>some ([⟨s49,(.own .imm),r.1⟩],[⟨s62,.imm,r.2⟩]):=by
 show _=bindF _ _
 conv=>rhs;simp only [zA7,bindF_ifB,bindF_bindO,bindF_pure,bindF_none,bindF_onSum,zA7.q2]
 kernel_rfl
theorem zA7.ok (N:Nat):ConOk Tryz.prog TB 36 [.one,.one] (zA7.con N):=ok2 (g:=zA7.cfg N) (N:=N) (res:=[(false,(.own .imm))]) tys_ok (zA7.cons N) mixed Tryz.func36 (zA7.ls N) rfl (zA7.b N)
theorem zA7.det (N:Nat):ConDet (zA7.con N):=det2
def zBJ.con (N:Nat):Con:={ modes:=[.io],ptrs:=[false],fn:=fn1 s62 .imm (zBJ N) (fun r=>[⟨s69,(.pr (.own .imm) .imm),r.1⟩]) (fun r=>[⟨s62,.imm,r.2⟩]) }
def zBJ.cfg (N:Nat):Cfg:={ ty:=tys,keep:=[6,7,14],flt:=[],elm:=elm0,live:=[],ord:=[],con:=[((34,[.one,.one]),zAC.con N),((36,[.one,.one]),zA7.con N)],loops:=[],joins:=[] }
theorem zBJ.cons (N:Nat):ConsOk Tryz.prog TB (zBJ.cfg N).con:=(consOk_cons (hb34) (zAC.ok N) (zAC.det N) (consOk_cons (hb36) (zA7.ok N) (zA7.det N) consOk_nil))
theorem zBJ.ls (N:Nat):LoopsOk Tryz.prog TB (zBJ.cfg N) (fnBody Tryz.f37):=loopsL (l:=[]) (by kernel_rfl) trivial
theorem zBJ.b (N:Nat) (x0:den s62):body (zBJ.cfg N) N Tryz.f37 [.one] [.io] [(false,(.pr (.own .imm) .imm))] [⟨s62,.imm,x0⟩] (fun r i=>some (r,i))=bindO (zBJ N x0) fun r=>some ([⟨s69,(.pr (.own .imm) .imm),r.1⟩],[⟨s62,.imm,r.2⟩]):=by
 show _=bindF _ _
 conv=>rhs;simp only [zBJ,bindF_ifB,bindF_bindO,bindF_pure,bindF_none,bindF_onSum]
 kernel_rfl
theorem zBJ.ok (N:Nat):ConOk Tryz.prog TB 37 [.one] (zBJ.con N):=ok1 (g:=zBJ.cfg N) (N:=N) (res:=[(false,(.pr (.own .imm) .imm))]) tys_ok (zBJ.cons N) mixed Tryz.func37 (zBJ.ls N) rfl (zBJ.b N)
theorem zBJ.det (N:Nat):ConDet (zBJ.con N):=det1
def zBQ.con (N:Nat):Con:={ modes:=[.v],ptrs:=[false],fn:=fn1 (.int .i64) .imm (zBQ N) (fun r=>[⟨.bool,.imm,r⟩]) (fun r=>[]) }
def zBQ.cfg (N:Nat):Cfg:={ ty:=tys,keep:=[],flt:=[],elm:=elm0,live:=[],ord:=[],con:=[],loops:=[],joins:=[] }
theorem zBQ.cons (N:Nat):ConsOk Tryz.prog TB (zBQ.cfg N).con:=consOk_nil
theorem zBQ.ls (N:Nat):LoopsOk Tryz.prog TB (zBQ.cfg N) (fnBody Tryz.f79):=loopsL (l:=[]) (by kernel_rfl) trivial
theorem zBQ.b (N:Nat) (x0:den (.int .i64)):body (zBQ.cfg N) N Tryz.f79 [.one] [.v] [(false,.imm)] [⟨(.int .i64),.imm,x0⟩] (fun r i=>some (r,i))=bindO (zBQ N x0) fun r=>some ([⟨.bool,.imm,r⟩],[]):=by
 show _=bindF _ _
 conv=>rhs;simp only [zBQ,bindF_ifB,bindF_bindO,bindF_pure,bindF_none,bindF_onSum]
 kernel_rfl
theorem zBQ.ok (N:Nat):ConOk Tryz.prog TB 79 [.one] (zBQ.con N):=ok1 (g:=zBQ.cfg N) (N:=N) (res:=[(false,.imm)]) tys_ok (zBQ.cons N) mixed Tryz.func79 (zBQ.ls N) rfl (zBQ.b N)
theorem zBQ.det (N:Nat):ConDet (zBQ.con N):=det1
def zAJ.sk4:Skel:=⟨.pv s49::(dd 2 (.pv (.int .i64)::(dd 15 []))),[]⟩
def zAJ.xs4:List XS:=[⟨.exit 0,[],⟨dd 19 [],[]⟩⟩,⟨.ret,[2],⟨dd 2 (.pv .bool::(dd 16 [])),[]⟩⟩]
def zAJ.con (N:Nat):Con:={ modes:=[.v],ptrs:=[false],fn:=fn1 s49 .imm (zAJ N) (fun r=>[⟨.bool,.imm,r⟩]) (fun r=>[]) }
def zAJ.cfg (N:Nat):Cfg:={ ty:=tys,keep:=[17],flt:=[],elm:=elm0,live:=[(4,[0,3])],ord:=[],con:=[((79,[.one]),zBQ.con N)],loops:=[(4,loopCon N zAJ.sk4 zAJ.xs4 (fun {R}=>zAJ.l4 (R:=R) N))],joins:=[] }
theorem zAJ.cons (N:Nat):ConsOk Tryz.prog TB (zAJ.cfg N).con:=(consOk_cons (hb79) (zBQ.ok N) (zBQ.det N) consOk_nil)
theorem zAJ.h4 {R:Type} (N:Nat) (d:zAJ.sk4.D) (kn:zAJ.sk4.D->Option R) (kx:XD zAJ.xs4->Option R):roundK (zAJ.cfg N) N (nthLoop (fnBody Tryz.f67) 0) zAJ.sk4 zAJ.xs4 d kn kx=zAJ.l4 N d kn kx:=by kernel_rfl
theorem zAJ.i4 (N:Nat):LoopsOk Tryz.prog TB (zAJ.cfg N) (nthLoop (fnBody Tryz.f67) 0):=loopsL (l:=[]) (by kernel_rfl) trivial
theorem zAJ.o4 (N:Nat):LoopOk Tryz.prog TB (nthLoop (fnBody Tryz.f67) 0) (loopCon N zAJ.sk4 zAJ.xs4 (fun {R}=>zAJ.l4 (R:=R) N)):=loop_ok (g:=zAJ.cfg N) tys_ok (zAJ.cons N) mixed (zAJ.i4 N) (fun d kn kx=>zAJ.h4 N d kn kx)
theorem zAJ.ls (N:Nat):LoopsOk Tryz.prog TB (zAJ.cfg N) (fnBody Tryz.f67):=loopsL (l:=[nthLoop (fnBody Tryz.f67) 0]) (by kernel_rfl) ⟨loopOne (L0:=loopCon N zAJ.sk4 zAJ.xs4 (fun {R}=>zAJ.l4 (R:=R) N)) (id:=4) (by kernel_rfl) (by kernel_rfl) (zAJ.o4 N),trivial⟩
theorem zAJ.q4 {R R':Type} {N n:Nat} {d} {k} {g:R->Option R'}:bindF (loopP (zAJ.l4 N) n d k) g=loopP (zAJ.l4 N) n d fun e=>bindF (k e) g:=bindF_loopP (fun d kn kx=>by simp only [zAJ.l4,bindF_ifB,bindF_bindO,bindF_pure,bindF_none,bindF_onSum]) n d k
theorem zAJ.b (N:Nat) (x0:den s49):body (zAJ.cfg N) N Tryz.f67 [.one] [.v] [(false,.imm)] [⟨s49,.imm,x0⟩] (fun r i=>some (r,i))=bindO (zAJ N x0) fun r=>some ([⟨.bool,.imm,r⟩],[]):=by
 show _=bindF _ _
 conv=>rhs;simp only [zAJ,bindF_ifB,bindF_bindO,bindF_pure,bindF_none,bindF_onSum,zAJ.q4]
 kernel_rfl
theorem zAJ.ok (N:Nat):ConOk Tryz.prog TB 67 [.one] (zAJ.con N):=ok1 (g:=zAJ.cfg N) (N:=N) (res:=[(false,.imm)]) tys_ok (zAJ.cons N) mixed Tryz.func67 (zAJ.ls N) rfl (zAJ.b N)
theorem zAJ.det (N:Nat):ConDet (zAJ.con N):=det1
def zCK.con (N:Nat):Con:={ modes:=[.v],ptrs:=[false],fn:=fn1 s69 .imm (zCK N) (fun r=>[⟨.bool,.imm,r⟩]) (fun r=>[]) }
def zCK.cfg (N:Nat):Cfg:={ ty:=tys,keep:=[9],flt:=[],elm:=elm0,live:=[],ord:=[],con:=[((67,[.one]),zAJ.con N)],loops:=[],joins:=[] }
theorem zCK.cons (N:Nat):ConsOk Tryz.prog TB (zCK.cfg N).con:=(consOk_cons (hb67) (zAJ.ok N) (zAJ.det N) consOk_nil)
theorem zCK.ls (N:Nat):LoopsOk Tryz.prog TB (zCK.cfg N) (fnBody Tryz.f68):=loopsL (l:=[]) (by kernel_rfl) trivial
theorem zCK.b (N:Nat) (x0:den s69):body (zCK.cfg N) N Tryz.f68 [.one] [.v] [(false,.imm)] [⟨s69,.imm,x0⟩] (fun r i=>some (r,i))=bindO (zCK N x0) fun r=>some ([⟨.bool,.imm,r⟩],[]):=by
 show _=bindF _ _
 conv=>rhs;simp only [zCK,bindF_ifB,bindF_bindO,bindF_pure,bindF_none,bindF_onSum]
 kernel_rfl
theorem zCK.ok (N:Nat):ConOk Tryz.prog TB 68 [.one] (zCK.con N):=ok1 (g:=zCK.cfg N) (N:=N) (res:=[(false,.imm)]) tys_ok (zCK.cons N) mixed Tryz.func68 (zCK.ls N) rfl (zCK.b N)
theorem zCK.det (N:Nat):ConDet (zCK.con N):=det1
def zC7.con (N:Nat):Con:={ modes:=[.v,.v],ptrs:=[false],fn:=fn2 (.int .i64) .imm (.int .i64) .imm (zC7 N) (fun r=>[⟨.bool,.imm,r⟩]) (fun r=>[]) }
def zC7.cfg (N:Nat):Cfg:={ ty:=tys,keep:=[],flt:=[],elm:=elm0,live:=[],ord:=[],con:=[],loops:=[],joins:=[] }
theorem zC7.cons (N:Nat):ConsOk Tryz.prog TB (zC7.cfg N).con:=consOk_nil
theorem zC7.ls (N:Nat):LoopsOk Tryz.prog TB (zC7.cfg N) (fnBody Tryz.f51):=loopsL (l:=[]) (by kernel_rfl) trivial
theorem zC7.b (N:Nat) (x0:den (.int .i64)) (x1:den (.int .i64)):body (zC7.cfg N) N Tryz.f51 [.one,.one] [.v,.v] [(false,.imm)] [⟨(.int .i64),.imm,x0⟩,⟨(.int .i64),.imm,x1⟩] (fun r i=>some (r,i))=bindO (zC7 N x0 x1) fun r=>some ([⟨.bool,.imm,r⟩],[]):=by
 show _=bindF _ _
 conv=>rhs;simp only [zC7,bindF_ifB,bindF_bindO,bindF_pure,bindF_none,bindF_onSum]
 kernel_rfl
theorem zC7.ok (N:Nat):ConOk Tryz.prog TB 51 [.one,.one] (zC7.con N):=ok2 (g:=zC7.cfg N) (N:=N) (res:=[(false,.imm)]) tys_ok (zC7.cons N) mixed Tryz.func51 (zC7.ls N) rfl (zC7.b N)
theorem zC7.det (N:Nat):ConDet (zC7.con N):=det2
def zBG.con (N:Nat):Con:={ modes:=[.io],ptrs:=[],fn:=fn1 s104 (.pr .imm (.pr (.own (.own (.pr (.own .imm) .imm))) .imm)) (zBG N) (fun r=>[]) (fun r=>[⟨s104,(.pr .imm (.pr (.own (.own (.pr (.own .imm) .imm))) .imm)),r⟩]) }
def zBG.cfg (N:Nat):Cfg:={ ty:=tys,keep:=[],flt:=[],elm:=elm0,live:=[],ord:=[(0,[0,1,2,3,4,5,6,7,8,9,10,11,12,13,14])],con:=[],loops:=[],joins:=[] }
theorem zBG.cons (N:Nat):ConsOk Tryz.prog TB (zBG.cfg N).con:=consOk_nil
theorem zBG.ls (N:Nat):LoopsOk Tryz.prog TB (zBG.cfg N) (fnBody Tryz.f85):=loopsL (l:=[]) (by kernel_rfl) trivial
theorem zBG.b (N:Nat) (x0:den s104):body (zBG.cfg N) N Tryz.f85 [.one] [.io] [] [⟨s104,(.pr .imm (.pr (.own (.own (.pr (.own .imm) .imm))) .imm)),x0⟩] (fun r i=>some (r,i))=bindO (zBG N x0) fun r=>some ([],[⟨s104,(.pr .imm (.pr (.own (.own (.pr (.own .imm) .imm))) .imm)),r⟩]):=by
 show _=bindF _ _
 conv=>rhs;simp only [zBG,bindF_ifB,bindF_bindO,bindF_pure,bindF_none,bindF_onSum]
 kernel_rfl
theorem zBG.ok (N:Nat):ConOk Tryz.prog TB 85 [.one] (zBG.con N):=ok1 (g:=zBG.cfg N) (N:=N) (res:=[]) tys_ok (zBG.cons N) mixed Tryz.func85 (zBG.ls N) rfl (zBG.b N)
theorem zBG.det (N:Nat):ConDet (zBG.con N):=det1
def zCJ.con (N:Nat):Con:={ modes:=[.v],ptrs:=[false],fn:=fn1 (.int .i64) .imm (zCJ N) (fun r=>[⟨s49,(.own .imm),r⟩]) (fun r=>[]) }
def zCJ.cfg (N:Nat):Cfg:={ ty:=tys,keep:=[],flt:=[],elm:=elm0,live:=[],ord:=[],con:=[],loops:=[],joins:=[] }
theorem zCJ.cons (N:Nat):ConsOk Tryz.prog TB (zCJ.cfg N).con:=consOk_nil
theorem zCJ.ls (N:Nat):LoopsOk Tryz.prog TB (zCJ.cfg N) (fnBody Tryz.f97):=loopsL (l:=[]) (by kernel_rfl) trivial
theorem zCJ.b (N:Nat) (x0:den (.int .i64)):body (zCJ.cfg N) N Tryz.f97 [.one] [.v] [(false,(.own .imm))] [⟨(.int .i64),.imm,x0⟩] (fun r i=>some (r,i))=bindO (zCJ N x0) fun r=>some ([⟨s49,(.own .imm),r⟩],[]):=by
 show _=bindF _ _
 conv=>rhs;simp only [zCJ,bindF_ifB,bindF_bindO,bindF_pure,bindF_none,bindF_onSum]
 kernel_rfl
theorem zCJ.ok (N:Nat):ConOk Tryz.prog TB 97 [.one] (zCJ.con N):=ok1 (g:=zCJ.cfg N) (N:=N) (res:=[(false,(.own .imm))]) tys_ok (zCJ.cons N) mixed Tryz.func97 (zCJ.ls N) rfl (zCJ.b N)
theorem zCJ.det (N:Nat):ConDet (zCJ.con N):=det1
def zC3.con (N:Nat):Con:={ modes:=[.v],ptrs:=[false],fn:=fn1 (.int .i64) .imm (zC3 N) (fun r=>[⟨(.int .i64),.imm,r⟩]) (fun r=>[]) }
def zC3.cfg (N:Nat):Cfg:={ ty:=tys,keep:=[4],flt:=[],elm:=elm0,live:=[],ord:=[],con:=[((79,[.one]),zBQ.con N)],loops:=[],joins:=[] }
theorem zC3.cons (N:Nat):ConsOk Tryz.prog TB (zC3.cfg N).con:=(consOk_cons (hb79) (zBQ.ok N) (zBQ.det N) consOk_nil)
theorem zC3.ls (N:Nat):LoopsOk Tryz.prog TB (zC3.cfg N) (fnBody Tryz.f80):=loopsL (l:=[]) (by kernel_rfl) trivial
theorem zC3.b (N:Nat) (x0:den (.int .i64)):body (zC3.cfg N) N Tryz.f80 [.one] [.v] [(false,.imm)] [⟨(.int .i64),.imm,x0⟩] (fun r i=>some (r,i))=bindO (zC3 N x0) fun r=>some ([⟨(.int .i64),.imm,r⟩],[]):=by
 show _=bindF _ _
 conv=>rhs;simp only [zC3,bindF_ifB,bindF_bindO,bindF_pure,bindF_none,bindF_onSum]
 kernel_rfl
theorem zC3.ok (N:Nat):ConOk Tryz.prog TB 80 [.one] (zC3.con N):=ok1 (g:=zC3.cfg N) (N:=N) (res:=[(false,.imm)]) tys_ok (zC3.cons N) mixed Tryz.func80 (zC3.ls N) rfl (zC3.b N)
theorem zC3.det (N:Nat):ConDet (zC3.con N):=det1
end Go.AE.F
end
