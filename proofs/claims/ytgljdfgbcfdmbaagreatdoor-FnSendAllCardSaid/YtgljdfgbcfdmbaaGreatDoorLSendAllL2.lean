/- The printed functions are what the program comes to: contracts. -/
import Derived.Test.YtgljdfgbcfdmbaaGreatDoorLSendAllL1
noncomputable section
namespace Go.AE.F
open Go.AE Go.Proofs
set_option maxRecDepth 100000
def zA5.sk5:Skel:=⟨.pv (.int .i64)::(dd 2 (.pv .bool::(.pv .str::(dd 26 [])))),[]⟩
def zA5.xs5:List XS:=[⟨.exit 0,[3,4],⟨dd 3 (.pv .bool::(.pv .str::(dd 26 []))),[]⟩⟩]
def zA5.con (N:Nat):Con:={ modes:=[.v],ptrs:=[false],fn:=fn1 (.int .i64) .imm (zA5 N) (fun r=>[⟨.str,.imm,r⟩]) (fun r=>[]) }
def zA5.cfg (N:Nat):Cfg:={ ty:=tys,keep:=[],flt:=[],elm:=elm0,live:=[(5,[0,3,4])],ord:=[],con:=[],loops:=[(5,loopCon N zA5.sk5 zA5.xs5 (fun {R}=>zA5.l5 (R:=R) N))],joins:=[] }
theorem zA5.cons (N:Nat):ConsOk Tryz.prog TB (zA5.cfg N).con:=consOk_nil
theorem zA5.h5 {R:Type} (N:Nat) (d:zA5.sk5.D) (kn:zA5.sk5.D->Option R) (kx:XD zA5.xs5->Option R):roundK (zA5.cfg N) N (nthLoop (fnBody Tryz.f49) 0) zA5.sk5 zA5.xs5 d kn kx=zA5.l5 N d kn kx:=by kernel_rfl
theorem zA5.i5 (N:Nat):LoopsOk Tryz.prog TB (zA5.cfg N) (nthLoop (fnBody Tryz.f49) 0):=loopsL (l:=[]) (by kernel_rfl) trivial
theorem zA5.o5 (N:Nat):LoopOk Tryz.prog TB (nthLoop (fnBody Tryz.f49) 0) (loopCon N zA5.sk5 zA5.xs5 (fun {R}=>zA5.l5 (R:=R) N)):=loop_ok (g:=zA5.cfg N) tys_ok (zA5.cons N) mixed (zA5.i5 N) (fun d kn kx=>zA5.h5 N d kn kx)
theorem zA5.ls (N:Nat):LoopsOk Tryz.prog TB (zA5.cfg N) (fnBody Tryz.f49):=loopsL (l:=[nthLoop (fnBody Tryz.f49) 0]) (by kernel_rfl) ⟨loopOne (L0:=loopCon N zA5.sk5 zA5.xs5 (fun {R}=>zA5.l5 (R:=R) N)) (id:=5) (by kernel_rfl) (by kernel_rfl) (zA5.o5 N),trivial⟩
theorem zA5.q5 {R R':Type} {N n:Nat} {d} {k} {g:R->Option R'}:bindF (loopP (zA5.l5 N) n d k) g=loopP (zA5.l5 N) n d fun e=>bindF (k e) g:=bindF_loopP (fun d kn kx=>by simp only [zA5.l5,bindF_ifB,bindF_bindO,bindF_pure,bindF_none,bindF_onSum]) n d k
theorem zA5.b (N:Nat) (x0:den (.int .i64)):body (zA5.cfg N) N Tryz.f49 [.one] [.v] [(false,.imm)] [⟨(.int .i64),.imm,x0⟩] (fun r i=>some (r,i))=bindO (zA5 N x0) fun r=>some ([⟨.str,.imm,r⟩],[]):=by
 show _=bindF _ _
 conv=>rhs;simp only [zA5,bindF_ifB,bindF_bindO,bindF_pure,bindF_none,bindF_onSum,zA5.q5]
 kernel_rfl
theorem zA5.ok (N:Nat):ConOk Tryz.prog TB 49 [.one] (zA5.con N):=ok1 (g:=zA5.cfg N) (N:=N) (res:=[(false,.imm)]) tys_ok (zA5.cons N) mixed Tryz.func49 (zA5.ls N) rfl (zA5.b N)
theorem zA5.det (N:Nat):ConDet (zA5.con N):=det1
def zBZ.con (N:Nat):Con:={ modes:=[.io,.v],ptrs:=[false],fn:=fn2 s53 .imm (.sl 9 .str) .imm (zBZ N) (fun r=>[⟨.str,.imm,r.1⟩]) (fun r=>[⟨s53,.imm,r.2⟩]) }
def zBZ.cfg (N:Nat):Cfg:={ ty:=tys,keep:=[9],flt:=[],elm:=elm0,live:=[],ord:=[],con:=[((33,[.one,.one]),zAD.con N)],loops:=[],joins:=[] }
theorem zBZ.cons (N:Nat):ConsOk Tryz.prog TB (zBZ.cfg N).con:=(consOk_cons (hb33) (zAD.ok N) (zAD.det N) consOk_nil)
theorem zBZ.ls (N:Nat):LoopsOk Tryz.prog TB (zBZ.cfg N) (fnBody Tryz.f94):=loopsL (l:=[]) (by kernel_rfl) trivial
theorem zBZ.b (N:Nat) (x0:den s53) (x1:den (.sl 9 .str)):body (zBZ.cfg N) N Tryz.f94 [.one,.one] [.io,.v] [(false,.imm)] [⟨s53,.imm,x0⟩,⟨(.sl 9 .str),.imm,x1⟩] (fun r i=>some (r,i))=bindO (zBZ N x0 x1) fun r=>some ([⟨.str,.imm,r.1⟩],[⟨s53,.imm,r.2⟩]):=by
 show _=bindF _ _
 conv=>rhs;simp only [zBZ,bindF_ifB,bindF_bindO,bindF_pure,bindF_none,bindF_onSum]
 kernel_rfl
theorem zBZ.ok (N:Nat):ConOk Tryz.prog TB 94 [.one,.one] (zBZ.con N):=ok2 (g:=zBZ.cfg N) (N:=N) (res:=[(false,.imm)]) tys_ok (zBZ.cons N) mixed Tryz.func94 (zBZ.ls N) rfl (zBZ.b N)
theorem zBZ.det (N:Nat):ConDet (zBZ.con N):=det2
def zC9.con (N:Nat):Con:={ modes:=[.v],ptrs:=[false],fn:=fn1 (.int .i64) .imm (zC9 N) (fun r=>[⟨s22,(.own .imm),r⟩]) (fun r=>[]) }
def zC9.cfg (N:Nat):Cfg:={ ty:=tys,keep:=[],flt:=[],elm:=elm0,live:=[],ord:=[],con:=[],loops:=[],joins:=[] }
theorem zC9.cons (N:Nat):ConsOk Tryz.prog TB (zC9.cfg N).con:=consOk_nil
theorem zC9.ls (N:Nat):LoopsOk Tryz.prog TB (zC9.cfg N) (fnBody Tryz.f96):=loopsL (l:=[]) (by kernel_rfl) trivial
theorem zC9.b (N:Nat) (x0:den (.int .i64)):body (zC9.cfg N) N Tryz.f96 [.one] [.v] [(false,(.own .imm))] [⟨(.int .i64),.imm,x0⟩] (fun r i=>some (r,i))=bindO (zC9 N x0) fun r=>some ([⟨s22,(.own .imm),r⟩],[]):=by
 show _=bindF _ _
 conv=>rhs;simp only [zC9,bindF_ifB,bindF_bindO,bindF_pure,bindF_none,bindF_onSum]
 kernel_rfl
theorem zC9.ok (N:Nat):ConOk Tryz.prog TB 96 [.one] (zC9.con N):=ok1 (g:=zC9.cfg N) (N:=N) (res:=[(false,(.own .imm))]) tys_ok (zC9.cons N) mixed Tryz.func96 (zC9.ls N) rfl (zC9.b N)
theorem zC9.det (N:Nat):ConDet (zC9.con N):=det1
def zAW.sk3:Skel:=⟨.pv s40::(dd 2 (.ov 50 []::(.pv (.int .i64)::(dd 16 [])))),[⟨50,s22,(.own .imm),false,false⟩]⟩
def zAW.xs3:List XS:=[⟨.exit 0,[3],⟨dd 3 (.ov 50 []::(dd 17 [])),[⟨50,s22,(.own .imm),false,false⟩]⟩⟩]
def zAW.con (N:Nat):Con:={ modes:=[.v],ptrs:=[false],fn:=fn1 s40 .imm (zAW N) (fun r=>[⟨.str,.imm,r⟩]) (fun r=>[]) }
def zAW.cfg (N:Nat):Cfg:={ ty:=tys,keep:=[17],flt:=[],elm:=elm0,live:=[(3,[0,3,4])],ord:=[],con:=[((96,[.one]),zC9.con N)],loops:=[(3,loopCon N zAW.sk3 zAW.xs3 (fun {R}=>zAW.l3 (R:=R) N))],joins:=[] }
theorem zAW.cons (N:Nat):ConsOk Tryz.prog TB (zAW.cfg N).con:=(consOk_cons (hb96) (zC9.ok N) (zC9.det N) consOk_nil)
theorem zAW.h3 {R:Type} (N:Nat) (d:zAW.sk3.D) (kn:zAW.sk3.D->Option R) (kx:XD zAW.xs3->Option R):roundK (zAW.cfg N) N (nthLoop (fnBody Tryz.f78) 0) zAW.sk3 zAW.xs3 d kn kx=zAW.l3 N d kn kx:=by kernel_rfl
theorem zAW.i3 (N:Nat):LoopsOk Tryz.prog TB (zAW.cfg N) (nthLoop (fnBody Tryz.f78) 0):=loopsL (l:=[]) (by kernel_rfl) trivial
theorem zAW.o3 (N:Nat):LoopOk Tryz.prog TB (nthLoop (fnBody Tryz.f78) 0) (loopCon N zAW.sk3 zAW.xs3 (fun {R}=>zAW.l3 (R:=R) N)):=loop_ok (g:=zAW.cfg N) tys_ok (zAW.cons N) mixed (zAW.i3 N) (fun d kn kx=>zAW.h3 N d kn kx)
theorem zAW.ls (N:Nat):LoopsOk Tryz.prog TB (zAW.cfg N) (fnBody Tryz.f78):=loopsL (l:=[nthLoop (fnBody Tryz.f78) 0]) (by kernel_rfl) ⟨loopOne (L0:=loopCon N zAW.sk3 zAW.xs3 (fun {R}=>zAW.l3 (R:=R) N)) (id:=3) (by kernel_rfl) (by kernel_rfl) (zAW.o3 N),trivial⟩
theorem zAW.q3 {R R':Type} {N n:Nat} {d} {k} {g:R->Option R'}:bindF (loopP (zAW.l3 N) n d k) g=loopP (zAW.l3 N) n d fun e=>bindF (k e) g:=bindF_loopP (fun d kn kx=>by simp only [zAW.l3,bindF_ifB,bindF_bindO,bindF_pure,bindF_none,bindF_onSum]) n d k
theorem zAW.b (N:Nat) (x0:den s40):body (zAW.cfg N) N Tryz.f78 [.one] [.v] [(false,.imm)] [⟨s40,.imm,x0⟩] (fun r i=>some (r,i))=bindO (zAW N x0) fun r=>some ([⟨.str,.imm,r⟩],[]):=by
 show _=bindF _ _
 conv=>rhs;simp only [zAW,bindF_ifB,bindF_bindO,bindF_pure,bindF_none,bindF_onSum,zAW.q3]
 kernel_rfl
theorem zAW.ok (N:Nat):ConOk Tryz.prog TB 78 [.one] (zAW.con N):=ok1 (g:=zAW.cfg N) (N:=N) (res:=[(false,.imm)]) tys_ok (zAW.cons N) mixed Tryz.func78 (zAW.ls N) rfl (zAW.b N)
theorem zAW.det (N:Nat):ConDet (zAW.con N):=det1
def zA8.sk2:Skel:=⟨.ptr 0 []::(.pv (.int .i64)::(dd 3 (.pv .str::(dd 65 [])))),[⟨0,s53,.imm,true,false⟩]⟩
def zA8.xs2:List XS:=[⟨.exit 0,[5],⟨dd 5 (.pv .str::(dd 65 [])),[⟨0,s53,.imm,true,false⟩]⟩⟩]
def zA8.con (N:Nat):Con:={ modes:=[.io,.v],ptrs:=[false],fn:=fn2 s53 .imm (.int .i64) .imm (zA8 N) (fun r=>[⟨.str,.imm,r.1⟩]) (fun r=>[⟨s53,.imm,r.2⟩]) }
def zA8.cfg (N:Nat):Cfg:={ ty:=tys,keep:=[11,24,25,29,36,37,41,42,50,56,59,65,68,14,17],flt:=[],elm:=elm0,live:=[(2,[0,1,5])],ord:=[],con:=[((33,[.one,.one]),zAD.con N),((49,[.one]),zA5.con N),((94,[.one,.one]),zBZ.con N),((78,[.one]),zAW.con N)],loops:=[(2,loopCon N zA8.sk2 zA8.xs2 (fun {R}=>zA8.l2 (R:=R) N))],joins:=[(3,[⟨.normal,[0,1,5],⟨.ptr 0 []::(.pv (.int .i64)::(dd 3 (.pv .str::(dd 65 [])))),[⟨0,s53,.imm,true,false⟩]⟩⟩])] }
theorem zA8.cons (N:Nat):ConsOk Tryz.prog TB (zA8.cfg N).con:=(consOk_cons (hb33) (zAD.ok N) (zAD.det N) (consOk_cons (hb49) (zA5.ok N) (zA5.det N) (consOk_cons (hb94) (zBZ.ok N) (zBZ.det N) (consOk_cons (hb78) (zAW.ok N) (zAW.det N) consOk_nil))))
theorem zA8.h2 {R:Type} (N:Nat) (d:zA8.sk2.D) (kn:zA8.sk2.D->Option R) (kx:XD zA8.xs2->Option R):roundK (zA8.cfg N) N (nthLoop (fnBody Tryz.f74) 0) zA8.sk2 zA8.xs2 d kn kx=zA8.l2 N d kn kx:=by kernel_rfl
theorem zA8.i2 (N:Nat):LoopsOk Tryz.prog TB (zA8.cfg N) (nthLoop (fnBody Tryz.f74) 0):=loopsL (l:=[]) (by kernel_rfl) trivial
theorem zA8.o2 (N:Nat):LoopOk Tryz.prog TB (nthLoop (fnBody Tryz.f74) 0) (loopCon N zA8.sk2 zA8.xs2 (fun {R}=>zA8.l2 (R:=R) N)):=loop_ok (g:=zA8.cfg N) tys_ok (zA8.cons N) mixed (zA8.i2 N) (fun d kn kx=>zA8.h2 N d kn kx)
theorem zA8.ls (N:Nat):LoopsOk Tryz.prog TB (zA8.cfg N) (fnBody Tryz.f74):=loopsL (l:=[nthLoop (fnBody Tryz.f74) 0]) (by kernel_rfl) ⟨loopOne (L0:=loopCon N zA8.sk2 zA8.xs2 (fun {R}=>zA8.l2 (R:=R) N)) (id:=2) (by kernel_rfl) (by kernel_rfl) (zA8.o2 N),trivial⟩
theorem zA8.q2 {R R':Type} {N n:Nat} {d} {k} {g:R->Option R'}:bindF (loopP (zA8.l2 N) n d k) g=loopP (zA8.l2 N) n d fun e=>bindF (k e) g:=bindF_loopP (fun d kn kx=>by simp only [zA8.l2,bindF_ifB,bindF_bindO,bindF_pure,bindF_none,bindF_onSum]) n d k
theorem zA8.b (N:Nat) (x0:den s53) (x1:den (.int .i64)):body (zA8.cfg N) N Tryz.f74 [.one,.one] [.io,.v] [(false,.imm)] [⟨s53,.imm,x0⟩,⟨(.int .i64),.imm,x1⟩] (fun r i=>some (r,i))=bindO (zA8 N x0 x1) fun r=>some ([⟨.str,.imm,r.1⟩],[⟨s53,.imm,r.2⟩]):=by
 show _=bindF _ _
 conv=>rhs;simp only [zA8,bindF_ifB,bindF_bindO,bindF_pure,bindF_none,bindF_onSum,zA8.q2]
 kernel_rfl
theorem zA8.ok (N:Nat):ConOk Tryz.prog TB 74 [.one,.one] (zA8.con N):=ok2 (g:=zA8.cfg N) (N:=N) (res:=[(false,.imm)]) tys_ok (zA8.cons N) mixed Tryz.func74 (zA8.ls N) rfl (zA8.b N)
theorem zA8.det (N:Nat):ConDet (zA8.con N):=det2
def zB4.sk3:Skel:=⟨dd 1 (.ptr 50 []::(.ptr 51 []::(.ov 52 []::(.pv (.int .i64)::(dd 28 []))))),[⟨50,s24,.imm,true,false⟩,⟨51,s24,(.pr .imm (.pr .imm (.pr (.own (.pr (.own .imm) .imm)) .imm))),true,false⟩,⟨52,s23,(.own (.pr (.own .imm) .imm)),false,false⟩]⟩
def zB4.xs3:List XS:=[⟨.exit 0,[1,2,3],⟨dd 1 (.ptr 50 []::(.ptr 51 []::(.ov 52 []::(dd 29 [])))),[⟨50,s24,.imm,true,false⟩,⟨51,s24,(.pr .imm (.pr .imm (.pr (.own (.pr (.own .imm) .imm)) .imm))),true,false⟩,⟨52,s23,(.own (.pr (.own .imm) .imm)),false,false⟩]⟩⟩]
def zB4.con (N:Nat):Con:={ modes:=[.v],ptrs:=[false],fn:=fn1 s24 .imm (zB4 N) (fun r=>[⟨s24,(.pr .imm (.pr .imm (.pr (.own .imm) .imm))),r⟩]) (fun r=>[]) }
def zB4.cfg (N:Nat):Cfg:={ ty:=tys,keep:=[20],flt:=[],elm:=elm0,live:=[(3,[1,2,3,4])],ord:=[(5,[0,1,2,3,4,5,6,8,9,10,11,12,13,7,14,15,16,17])],con:=[((101,[.one]),zC1.con N)],loops:=[(3,loopCon N zB4.sk3 zB4.xs3 (fun {R}=>zB4.l3 (R:=R) N))],joins:=[] }
theorem zB4.cons (N:Nat):ConsOk Tryz.prog TB (zB4.cfg N).con:=(consOk_cons (hb101) (zC1.ok N) (zC1.det N) consOk_nil)
theorem zB4.h3 {R:Type} (N:Nat) (d:zB4.sk3.D) (kn:zB4.sk3.D->Option R) (kx:XD zB4.xs3->Option R):roundK (zB4.cfg N) N (nthLoop (fnBody Tryz.f89) 0) zB4.sk3 zB4.xs3 d kn kx=zB4.l3 N d kn kx:=by kernel_rfl
theorem zB4.i3 (N:Nat):LoopsOk Tryz.prog TB (zB4.cfg N) (nthLoop (fnBody Tryz.f89) 0):=loopsL (l:=[]) (by kernel_rfl) trivial
theorem zB4.o3 (N:Nat):LoopOk Tryz.prog TB (nthLoop (fnBody Tryz.f89) 0) (loopCon N zB4.sk3 zB4.xs3 (fun {R}=>zB4.l3 (R:=R) N)):=loop_ok (g:=zB4.cfg N) tys_ok (zB4.cons N) mixed (zB4.i3 N) (fun d kn kx=>zB4.h3 N d kn kx)
theorem zB4.ls (N:Nat):LoopsOk Tryz.prog TB (zB4.cfg N) (fnBody Tryz.f89):=loopsL (l:=[nthLoop (fnBody Tryz.f89) 0]) (by kernel_rfl) ⟨loopOne (L0:=loopCon N zB4.sk3 zB4.xs3 (fun {R}=>zB4.l3 (R:=R) N)) (id:=3) (by kernel_rfl) (by kernel_rfl) (zB4.o3 N),trivial⟩
theorem zB4.q3 {R R':Type} {N n:Nat} {d} {k} {g:R->Option R'}:bindF (loopP (zB4.l3 N) n d k) g=loopP (zB4.l3 N) n d fun e=>bindF (k e) g:=bindF_loopP (fun d kn kx=>by simp only [zB4.l3,bindF_ifB,bindF_bindO,bindF_pure,bindF_none,bindF_onSum]) n d k
theorem zB4.b (N:Nat) (x0:den s24):body (zB4.cfg N) N Tryz.f89 [.one] [.v] [(false,(.pr .imm (.pr .imm (.pr (.own .imm) .imm))))] [⟨s24,.imm,x0⟩] (fun r i=>some (r,i))=bindO (zB4 N x0) fun r=>some ([⟨s24,(.pr .imm (.pr .imm (.pr (.own .imm) .imm))),r⟩],[]):=by
 show _=bindF _ _
 conv=>rhs;simp only [zB4,bindF_ifB,bindF_bindO,bindF_pure,bindF_none,bindF_onSum,zB4.q3]
 kernel_rfl
theorem zB4.ok (N:Nat):ConOk Tryz.prog TB 89 [.one] (zB4.con N):=ok1 (g:=zB4.cfg N) (N:=N) (res:=[(false,(.pr .imm (.pr .imm (.pr (.own .imm) .imm))))]) tys_ok (zB4.cons N) mixed Tryz.func89 (zB4.ls N) rfl (zB4.b N)
theorem zB4.det (N:Nat):ConDet (zB4.con N):=det1
def zB3.sk4:Skel:=⟨dd 1 (.ptr 50 []::(dd 1 (.pv (.int .i64)::(dd 46 [])))),[⟨50,s41,.imm,true,false⟩]⟩
def zB3.xs4:List XS:=[⟨.exit 0,[],⟨dd 50 [],[]⟩⟩,⟨.ret,[2],⟨dd 2 (.pv .bool::(dd 47 [])),[]⟩⟩]
def zB3.con (N:Nat):Con:={ modes:=[.v],ptrs:=[false],fn:=fn1 s41 .imm (zB3 N) (fun r=>[⟨.bool,.imm,r⟩]) (fun r=>[]) }
def zB3.cfg (N:Nat):Cfg:={ ty:=tys,keep:=[32,38],flt:=[],elm:=elm0,live:=[(4,[1,3])],ord:=[],con:=[((76,[.one]),zBP.con N),((77,[.one]),zC4.con N)],loops:=[(4,loopCon N zB3.sk4 zB3.xs4 (fun {R}=>zB3.l4 (R:=R) N))],joins:=[] }
theorem zB3.cons (N:Nat):ConsOk Tryz.prog TB (zB3.cfg N).con:=(consOk_cons (hb76) (zBP.ok N) (zBP.det N) (consOk_cons (hb77) (zC4.ok N) (zC4.det N) consOk_nil))
theorem zB3.h4 {R:Type} (N:Nat) (d:zB3.sk4.D) (kn:zB3.sk4.D->Option R) (kx:XD zB3.xs4->Option R):roundK (zB3.cfg N) N (nthLoop (fnBody Tryz.f45) 0) zB3.sk4 zB3.xs4 d kn kx=zB3.l4 N d kn kx:=by kernel_rfl
theorem zB3.i4 (N:Nat):LoopsOk Tryz.prog TB (zB3.cfg N) (nthLoop (fnBody Tryz.f45) 0):=loopsL (l:=[]) (by kernel_rfl) trivial
theorem zB3.o4 (N:Nat):LoopOk Tryz.prog TB (nthLoop (fnBody Tryz.f45) 0) (loopCon N zB3.sk4 zB3.xs4 (fun {R}=>zB3.l4 (R:=R) N)):=loop_ok (g:=zB3.cfg N) tys_ok (zB3.cons N) mixed (zB3.i4 N) (fun d kn kx=>zB3.h4 N d kn kx)
theorem zB3.ls (N:Nat):LoopsOk Tryz.prog TB (zB3.cfg N) (fnBody Tryz.f45):=loopsL (l:=[nthLoop (fnBody Tryz.f45) 0]) (by kernel_rfl) ⟨loopOne (L0:=loopCon N zB3.sk4 zB3.xs4 (fun {R}=>zB3.l4 (R:=R) N)) (id:=4) (by kernel_rfl) (by kernel_rfl) (zB3.o4 N),trivial⟩
theorem zB3.q4 {R R':Type} {N n:Nat} {d} {k} {g:R->Option R'}:bindF (loopP (zB3.l4 N) n d k) g=loopP (zB3.l4 N) n d fun e=>bindF (k e) g:=bindF_loopP (fun d kn kx=>by simp only [zB3.l4,bindF_ifB,bindF_bindO,bindF_pure,bindF_none,bindF_onSum]) n d k
theorem zB3.b (N:Nat) (x0:den s41):body (zB3.cfg N) N Tryz.f45 [.one] [.v] [(false,.imm)] [⟨s41,.imm,x0⟩] (fun r i=>some (r,i))=bindO (zB3 N x0) fun r=>some ([⟨.bool,.imm,r⟩],[]):=by
 show _=bindF _ _
 conv=>rhs;simp only [zB3,bindF_ifB,bindF_bindO,bindF_pure,bindF_none,bindF_onSum,zB3.q4]
 kernel_rfl
theorem zB3.ok (N:Nat):ConOk Tryz.prog TB 45 [.one] (zB3.con N):=ok1 (g:=zB3.cfg N) (N:=N) (res:=[(false,.imm)]) tys_ok (zB3.cons N) mixed Tryz.func45 (zB3.ls N) rfl (zB3.b N)
theorem zB3.det (N:Nat):ConDet (zB3.con N):=det1
def zAN.sk4:Skel:=⟨dd 1 (.ptr 50 []::(dd 1 (.pv (.int .i64)::(dd 114 [])))),[⟨50,s24,.imm,true,false⟩]⟩
def zAN.xs4:List XS:=[⟨.exit 0,[],⟨dd 118 [],[]⟩⟩,⟨.ret,[2],⟨dd 2 (.pv .bool::(dd 115 [])),[]⟩⟩]
def zAN.con (N:Nat):Con:={ modes:=[.v],ptrs:=[false],fn:=fn1 s24 .imm (zAN N) (fun r=>[⟨.bool,.imm,r⟩]) (fun r=>[]) }
def zAN.cfg (N:Nat):Cfg:={ ty:=tys,keep:=[9,81,84],flt:=[],elm:=elm0,live:=[(4,[1,3])],ord:=[(9,[0,1,2,3,4,5,6,7,8,9,10,11,12,13,14,15,16,17,18,19,20,21,22,23,24,25,26,27,28,29,30,31,32,33,34])],con:=[((44,[.one,.one]),zC8.con N),((45,[.one]),zB3.con N),((46,[.one]),zC2.con N)],loops:=[(4,loopCon N zAN.sk4 zAN.xs4 (fun {R}=>zAN.l4 (R:=R) N))],joins:=[(5,[⟨.normal,[1,3],⟨dd 1 (.ptr 50 []::(dd 1 (.pv (.int .i64)::(dd 114 [])))),[⟨50,s24,.imm,true,false⟩]⟩⟩,⟨.ret,[2],⟨dd 2 (.pv .bool::(dd 115 [])),[]⟩⟩])] }
theorem zAN.cons (N:Nat):ConsOk Tryz.prog TB (zAN.cfg N).con:=(consOk_cons (hb44) (zC8.ok N) (zC8.det N) (consOk_cons (hb45) (zB3.ok N) (zB3.det N) (consOk_cons (hb46) (zC2.ok N) (zC2.det N) consOk_nil)))
theorem zAN.h4 {R:Type} (N:Nat) (d:zAN.sk4.D) (kn:zAN.sk4.D->Option R) (kx:XD zAN.xs4->Option R):roundK (zAN.cfg N) N (nthLoop (fnBody Tryz.f15) 0) zAN.sk4 zAN.xs4 d kn kx=zAN.l4 N d kn kx:=by kernel_rfl
theorem zAN.i4 (N:Nat):LoopsOk Tryz.prog TB (zAN.cfg N) (nthLoop (fnBody Tryz.f15) 0):=loopsL (l:=[]) (by kernel_rfl) trivial
theorem zAN.o4 (N:Nat):LoopOk Tryz.prog TB (nthLoop (fnBody Tryz.f15) 0) (loopCon N zAN.sk4 zAN.xs4 (fun {R}=>zAN.l4 (R:=R) N)):=loop_ok (g:=zAN.cfg N) tys_ok (zAN.cons N) mixed (zAN.i4 N) (fun d kn kx=>zAN.h4 N d kn kx)
theorem zAN.ls (N:Nat):LoopsOk Tryz.prog TB (zAN.cfg N) (fnBody Tryz.f15):=loopsL (l:=[nthLoop (fnBody Tryz.f15) 0]) (by kernel_rfl) ⟨loopOne (L0:=loopCon N zAN.sk4 zAN.xs4 (fun {R}=>zAN.l4 (R:=R) N)) (id:=4) (by kernel_rfl) (by kernel_rfl) (zAN.o4 N),trivial⟩
theorem zAN.q4 {R R':Type} {N n:Nat} {d} {k} {g:R->Option R'}:bindF (loopP (zAN.l4 N) n d k) g=loopP (zAN.l4 N) n d fun e=>bindF (k e) g:=bindF_loopP (fun d kn kx=>by simp only [zAN.l4,bindF_ifB,bindF_bindO,bindF_pure,bindF_none,bindF_onSum]) n d k
theorem zAN.b (N:Nat) (x0:den s24):body (zAN.cfg N) N Tryz.f15 [.one] [.v] [(false,.imm)] [⟨s24,.imm,x0⟩] (fun r i=>some (r,i))=bindO (zAN N x0) fun r=>some ([⟨.bool,.imm,r⟩],[]):=by
 show _=bindF _ _
 conv=>rhs;simp only [zAN,bindF_ifB,bindF_bindO,bindF_pure,bindF_none,bindF_onSum,zAN.q4]
 kernel_rfl
theorem zAN.ok (N:Nat):ConOk Tryz.prog TB 15 [.one] (zAN.con N):=ok1 (g:=zAN.cfg N) (N:=N) (res:=[(false,.imm)]) tys_ok (zAN.cons N) mixed Tryz.func15 (zAN.ls N) rfl (zAN.b N)
theorem zAN.det (N:Nat):ConDet (zAN.con N):=det1
def zAZ.sk18:Skel:=⟨.pv .str::(dd 4 (.pv (.int .i64)::(.pv (.int .i64)::(.pv (.int .i64)::(dd 78 []))))),[]⟩
def zAZ.xs18:List XS:=[⟨.exit 1,[0,5,6],⟨.pv .str::(dd 4 (.pv (.int .i64)::(.pv (.int .i64)::(dd 79 [])))),[]⟩⟩,⟨.ret,[2,3],⟨dd 2 (.pv (.int .i64)::(.pv (.int .i64)::(dd 82 []))),[]⟩⟩]
def zAZ.con (N:Nat):Con:={ modes:=[.v],ptrs:=[false,false],fn:=fn1 .str .imm (zAZ N) (fun r=>[⟨(.int .i64),.imm,r.1⟩,⟨(.int .i64),.imm,r.2⟩]) (fun r=>[]) }
def zAZ.cfg (N:Nat):Cfg:={ ty:=tys,keep:=[73,77],flt:=[],elm:=elm0,live:=[(18,[0,5,6,7])],ord:=[(23,[0,1,2,3,4,7,8,9,5,6,10,11])],con:=[((76,[.one]),zBP.con N),((96,[.one]),zC9.con N)],loops:=[(18,loopCon N zAZ.sk18 zAZ.xs18 (fun {R}=>zAZ.l18 (R:=R) N))],joins:=[(15,[⟨.normal,[0,5,6],⟨.pv .str::(dd 4 (.pv (.int .i64)::(.pv (.int .i64)::(dd 79 [])))),[]⟩⟩])] }
theorem zAZ.cons (N:Nat):ConsOk Tryz.prog TB (zAZ.cfg N).con:=(consOk_cons (hb76) (zBP.ok N) (zBP.det N) (consOk_cons (hb96) (zC9.ok N) (zC9.det N) consOk_nil))
theorem zAZ.h18 {R:Type} (N:Nat) (d:zAZ.sk18.D) (kn:zAZ.sk18.D->Option R) (kx:XD zAZ.xs18->Option R):roundK (zAZ.cfg N) N (nthLoop (fnBody Tryz.f102) 0) zAZ.sk18 zAZ.xs18 d kn kx=zAZ.l18 N d kn kx:=by kernel_rfl
theorem zAZ.i18 (N:Nat):LoopsOk Tryz.prog TB (zAZ.cfg N) (nthLoop (fnBody Tryz.f102) 0):=loopsL (l:=[]) (by kernel_rfl) trivial
theorem zAZ.o18 (N:Nat):LoopOk Tryz.prog TB (nthLoop (fnBody Tryz.f102) 0) (loopCon N zAZ.sk18 zAZ.xs18 (fun {R}=>zAZ.l18 (R:=R) N)):=loop_ok (g:=zAZ.cfg N) tys_ok (zAZ.cons N) mixed (zAZ.i18 N) (fun d kn kx=>zAZ.h18 N d kn kx)
theorem zAZ.ls (N:Nat):LoopsOk Tryz.prog TB (zAZ.cfg N) (fnBody Tryz.f102):=loopsL (l:=[nthLoop (fnBody Tryz.f102) 0]) (by kernel_rfl) ⟨loopOne (L0:=loopCon N zAZ.sk18 zAZ.xs18 (fun {R}=>zAZ.l18 (R:=R) N)) (id:=18) (by kernel_rfl) (by kernel_rfl) (zAZ.o18 N),trivial⟩
theorem zAZ.q18 {R R':Type} {N n:Nat} {d} {k} {g:R->Option R'}:bindF (loopP (zAZ.l18 N) n d k) g=loopP (zAZ.l18 N) n d fun e=>bindF (k e) g:=bindF_loopP (fun d kn kx=>by simp only [zAZ.l18,bindF_ifB,bindF_bindO,bindF_pure,bindF_none,bindF_onSum]) n d k
theorem zAZ.b (N:Nat) (x0:den .str):body (zAZ.cfg N) N Tryz.f102 [.one] [.v] [(false,.imm),(false,.imm)] [⟨.str,.imm,x0⟩] (fun r i=>some (r,i))=bindO (zAZ N x0) fun r=>some ([⟨(.int .i64),.imm,r.1⟩,⟨(.int .i64),.imm,r.2⟩],[]):=by
 show _=bindF _ _
 conv=>rhs;simp only [zAZ,bindF_ifB,bindF_bindO,bindF_pure,bindF_none,bindF_onSum,zAZ.q18]
 kernel_rfl
theorem zAZ.ok (N:Nat):ConOk Tryz.prog TB 102 [.one] (zAZ.con N):=ok1 (g:=zAZ.cfg N) (N:=N) (res:=[(false,.imm),(false,.imm)]) tys_ok (zAZ.cons N) mixed Tryz.func102 (zAZ.ls N) rfl (zAZ.b N)
theorem zAZ.det (N:Nat):ConDet (zAZ.con N):=det1
def zAU.sk3:Skel:=⟨.pv .str::(dd 2 (.ov 50 []::(.pv (.int .i64)::(dd 22 [])))),[⟨50,s40,(.own .imm),false,false⟩]⟩
def zAU.xs3:List XS:=[⟨.exit 0,[3],⟨dd 3 (.ov 50 []::(dd 23 [])),[⟨50,s40,(.own .imm),false,false⟩]⟩⟩]
def zAU.con (N:Nat):Con:={ modes:=[.v],ptrs:=[false],fn:=fn1 .str .imm (zAU N) (fun r=>[⟨s40,.imm,r⟩]) (fun r=>[]) }
def zAU.cfg (N:Nat):Cfg:={ ty:=tys,keep:=[16],flt:=[],elm:=elm0,live:=[(3,[0,3,4])],ord:=[],con:=[((102,[.one]),zAZ.con N)],loops:=[(3,loopCon N zAU.sk3 zAU.xs3 (fun {R}=>zAU.l3 (R:=R) N))],joins:=[] }
theorem zAU.cons (N:Nat):ConsOk Tryz.prog TB (zAU.cfg N).con:=(consOk_cons (hb102) (zAZ.ok N) (zAZ.det N) consOk_nil)
theorem zAU.h3 {R:Type} (N:Nat) (d:zAU.sk3.D) (kn:zAU.sk3.D->Option R) (kx:XD zAU.xs3->Option R):roundK (zAU.cfg N) N (nthLoop (fnBody Tryz.f90) 0) zAU.sk3 zAU.xs3 d kn kx=zAU.l3 N d kn kx:=by kernel_rfl
theorem zAU.i3 (N:Nat):LoopsOk Tryz.prog TB (zAU.cfg N) (nthLoop (fnBody Tryz.f90) 0):=loopsL (l:=[]) (by kernel_rfl) trivial
theorem zAU.o3 (N:Nat):LoopOk Tryz.prog TB (nthLoop (fnBody Tryz.f90) 0) (loopCon N zAU.sk3 zAU.xs3 (fun {R}=>zAU.l3 (R:=R) N)):=loop_ok (g:=zAU.cfg N) tys_ok (zAU.cons N) mixed (zAU.i3 N) (fun d kn kx=>zAU.h3 N d kn kx)
theorem zAU.ls (N:Nat):LoopsOk Tryz.prog TB (zAU.cfg N) (fnBody Tryz.f90):=loopsL (l:=[nthLoop (fnBody Tryz.f90) 0]) (by kernel_rfl) ⟨loopOne (L0:=loopCon N zAU.sk3 zAU.xs3 (fun {R}=>zAU.l3 (R:=R) N)) (id:=3) (by kernel_rfl) (by kernel_rfl) (zAU.o3 N),trivial⟩
theorem zAU.q3 {R R':Type} {N n:Nat} {d} {k} {g:R->Option R'}:bindF (loopP (zAU.l3 N) n d k) g=loopP (zAU.l3 N) n d fun e=>bindF (k e) g:=bindF_loopP (fun d kn kx=>by simp only [zAU.l3,bindF_ifB,bindF_bindO,bindF_pure,bindF_none,bindF_onSum]) n d k
theorem zAU.b (N:Nat) (x0:den .str):body (zAU.cfg N) N Tryz.f90 [.one] [.v] [(false,.imm)] [⟨.str,.imm,x0⟩] (fun r i=>some (r,i))=bindO (zAU N x0) fun r=>some ([⟨s40,.imm,r⟩],[]):=by
 show _=bindF _ _
 conv=>rhs;simp only [zAU,bindF_ifB,bindF_bindO,bindF_pure,bindF_none,bindF_onSum,zAU.q3]
 kernel_rfl
theorem zAU.ok (N:Nat):ConOk Tryz.prog TB 90 [.one] (zAU.con N):=ok1 (g:=zAU.cfg N) (N:=N) (res:=[(false,.imm)]) tys_ok (zAU.cons N) mixed Tryz.func90 (zAU.ls N) rfl (zAU.b N)
theorem zAU.det (N:Nat):ConDet (zAU.con N):=det1
def zB8.sk4:Skel:=⟨.pv s40::(dd 2 (.ov 50 []::(.pv (.int .i64)::(.pv (.int .i64)::(dd 43 []))))),[⟨50,s40,(.own .imm),false,false⟩]⟩
def zB8.xs4:List XS:=[⟨.exit 0,[3],⟨dd 3 (.ov 50 []::(dd 45 [])),[⟨50,s40,(.own .imm),false,false⟩]⟩⟩]
def zB8.con (N:Nat):Con:={ modes:=[.v],ptrs:=[false],fn:=fn1 s40 .imm (zB8 N) (fun r=>[⟨s40,(.own .imm),r⟩]) (fun r=>[]) }
def zB8.cfg (N:Nat):Cfg:={ ty:=tys,keep:=[],flt:=[],elm:=elm0,live:=[(4,[0,3,4,5])],ord:=[(11,[0,1,2,3,4,5,6,7,8,9,10,11,12,13,14])],con:=[],loops:=[(4,loopCon N zB8.sk4 zB8.xs4 (fun {R}=>zB8.l4 (R:=R) N))],joins:=[(5,[⟨.normal,[0,3,4,5],⟨.pv s40::(dd 2 (.ov 50 []::(.pv (.int .i64)::(.pv (.int .i64)::(dd 43 []))))),[⟨50,s40,(.own .imm),false,false⟩]⟩⟩])] }
theorem zB8.cons (N:Nat):ConsOk Tryz.prog TB (zB8.cfg N).con:=consOk_nil
theorem zB8.h4 {R:Type} (N:Nat) (d:zB8.sk4.D) (kn:zB8.sk4.D->Option R) (kx:XD zB8.xs4->Option R):roundK (zB8.cfg N) N (nthLoop (fnBody Tryz.f103) 0) zB8.sk4 zB8.xs4 d kn kx=zB8.l4 N d kn kx:=by kernel_rfl
theorem zB8.i4 (N:Nat):LoopsOk Tryz.prog TB (zB8.cfg N) (nthLoop (fnBody Tryz.f103) 0):=loopsL (l:=[]) (by kernel_rfl) trivial
theorem zB8.o4 (N:Nat):LoopOk Tryz.prog TB (nthLoop (fnBody Tryz.f103) 0) (loopCon N zB8.sk4 zB8.xs4 (fun {R}=>zB8.l4 (R:=R) N)):=loop_ok (g:=zB8.cfg N) tys_ok (zB8.cons N) mixed (zB8.i4 N) (fun d kn kx=>zB8.h4 N d kn kx)
theorem zB8.ls (N:Nat):LoopsOk Tryz.prog TB (zB8.cfg N) (fnBody Tryz.f103):=loopsL (l:=[nthLoop (fnBody Tryz.f103) 0]) (by kernel_rfl) ⟨loopOne (L0:=loopCon N zB8.sk4 zB8.xs4 (fun {R}=>zB8.l4 (R:=R) N)) (id:=4) (by kernel_rfl) (by kernel_rfl) (zB8.o4 N),trivial⟩
theorem zB8.q4 {R R':Type} {N n:Nat} {d} {k} {g:R->Option R'}:bindF (loopP (zB8.l4 N) n d k) g=loopP (zB8.l4 N) n d fun e=>bindF (k e) g:=bindF_loopP (fun d kn kx=>by simp only [zB8.l4,bindF_ifB,bindF_bindO,bindF_pure,bindF_none,bindF_onSum]) n d k
theorem zB8.b (N:Nat) (x0:den s40):body (zB8.cfg N) N Tryz.f103 [.one] [.v] [(false,(.own .imm))] [⟨s40,.imm,x0⟩] (fun r i=>some (r,i))=bindO (zB8 N x0) fun r=>some ([⟨s40,(.own .imm),r⟩],[]):=by
 show _=bindF _ _
 conv=>rhs;simp only [zB8,bindF_ifB,bindF_bindO,bindF_pure,bindF_none,bindF_onSum,zB8.q4]
 kernel_rfl
theorem zB8.ok (N:Nat):ConOk Tryz.prog TB 103 [.one] (zB8.con N):=ok1 (g:=zB8.cfg N) (N:=N) (res:=[(false,(.own .imm))]) tys_ok (zB8.cons N) mixed Tryz.func103 (zB8.ls N) rfl (zB8.b N)
theorem zB8.det (N:Nat):ConDet (zB8.con N):=det1
def zCC.con (N:Nat):Con:={ modes:=[.v,.v],ptrs:=[false],fn:=fn2 s24 .imm (.int .i64) .imm (zCC N) (fun r=>[⟨.bool,.imm,r⟩]) (fun r=>[]) }
def zCC.cfg (N:Nat):Cfg:={ ty:=tys,keep:=[17],flt:=[],elm:=elm0,live:=[],ord:=[],con:=[((46,[.one]),zC2.con N)],loops:=[],joins:=[] }
theorem zCC.cons (N:Nat):ConsOk Tryz.prog TB (zCC.cfg N).con:=(consOk_cons (hb46) (zC2.ok N) (zC2.det N) consOk_nil)
theorem zCC.ls (N:Nat):LoopsOk Tryz.prog TB (zCC.cfg N) (fnBody Tryz.f16):=loopsL (l:=[]) (by kernel_rfl) trivial
theorem zCC.b (N:Nat) (x0:den s24) (x1:den (.int .i64)):body (zCC.cfg N) N Tryz.f16 [.one,.one] [.v,.v] [(false,.imm)] [⟨s24,.imm,x0⟩,⟨(.int .i64),.imm,x1⟩] (fun r i=>some (r,i))=bindO (zCC N x0 x1) fun r=>some ([⟨.bool,.imm,r⟩],[]):=by
 show _=bindF _ _
 conv=>rhs;simp only [zCC,bindF_ifB,bindF_bindO,bindF_pure,bindF_none,bindF_onSum]
 kernel_rfl
theorem zCC.ok (N:Nat):ConOk Tryz.prog TB 16 [.one,.one] (zCC.con N):=ok2 (g:=zCC.cfg N) (N:=N) (res:=[(false,.imm)]) tys_ok (zCC.cons N) mixed Tryz.func16 (zCC.ls N) rfl (zCC.b N)
theorem zCC.det (N:Nat):ConDet (zCC.con N):=det2
end Go.AE.F
end
