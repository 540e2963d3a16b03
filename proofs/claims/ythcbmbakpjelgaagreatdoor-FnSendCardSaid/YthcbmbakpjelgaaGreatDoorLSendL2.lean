/- The printed functions are what the program comes to: contracts. -/
import Derived.Test.YthcbmbakpjelgaaGreatDoorLSendL1
noncomputable section
namespace Go.AE.F
open Go.AE Go.Proofs
set_option maxRecDepth 100000
def zA5.sk5:Skel:=⟨.pv (.int .i64)::(dd 2 (.pv .bool::(.pv .str::(dd 26 [])))),[]⟩
def zA5.xs5:List XS:=[⟨.exit 0,[3,4],⟨dd 3 (.pv .bool::(.pv .str::(dd 26 []))),[]⟩⟩]
def zA5.con (N:Nat):Con:={ modes:=[.v],ptrs:=[false],fn:=fn1 (.int .i64) .imm (zA5 N) (fun r=>[⟨.str,.imm,r⟩]) (fun r=>[]) }
def zA5.cfg (N:Nat):Cfg:={ ty:=tys,keep:=[],flt:=[],elm:=elm0,live:=[(5,[0,3,4])],ord:=[],con:=[],loops:=[(5,loopCon N zA5.sk5 zA5.xs5 (fun {R}=>zA5.l5 (R:=R) N))],joins:=[] }
theorem zA5.cons (N:Nat):ConsOk Tryz.prog TB (zA5.cfg N).con:=consOk_nil
theorem zA5.h5 {R:Type} (N:Nat) (d:zA5.sk5.D) (kn:zA5.sk5.D->Option R) (kx:XD zA5.xs5->Option R):roundK (zA5.cfg N) N (nthLoop (fnBody Tryz.f23) 0) zA5.sk5 zA5.xs5 d kn kx=zA5.l5 N d kn kx:=by kernel_rfl
theorem zA5.i5 (N:Nat):LoopsOk Tryz.prog TB (zA5.cfg N) (nthLoop (fnBody Tryz.f23) 0):=loopsL (l:=[]) (by kernel_rfl) trivial
theorem zA5.o5 (N:Nat):LoopOk Tryz.prog TB (nthLoop (fnBody Tryz.f23) 0) (loopCon N zA5.sk5 zA5.xs5 (fun {R}=>zA5.l5 (R:=R) N)):=loop_ok (g:=zA5.cfg N) tys_ok (zA5.cons N) mixed (zA5.i5 N) (fun d kn kx=>zA5.h5 N d kn kx)
theorem zA5.ls (N:Nat):LoopsOk Tryz.prog TB (zA5.cfg N) (fnBody Tryz.f23):=loopsL (l:=[nthLoop (fnBody Tryz.f23) 0]) (by kernel_rfl) ⟨loopOne (L0:=loopCon N zA5.sk5 zA5.xs5 (fun {R}=>zA5.l5 (R:=R) N)) (id:=5) (by kernel_rfl) (by kernel_rfl) (zA5.o5 N),trivial⟩
theorem zA5.q5 {R R':Type} {N n:Nat} {d} {k} {g:R->Option R'}:bindF (loopP (zA5.l5 N) n d k) g=loopP (zA5.l5 N) n d fun e=>bindF (k e) g:=bindF_loopP (fun d kn kx=>by simp only [zA5.l5,bindF_ifB,bindF_bindO,bindF_pure,bindF_none,bindF_onSum]) n d k
theorem zA5.b (N:Nat) (x0:den (.int .i64)):body (zA5.cfg N) N Tryz.f23 [.one] [.v] [(false,.imm)] [⟨(.int .i64),.imm,x0⟩] (fun r i=>some (r,i))=bindO (zA5 N x0) fun r=>some ([⟨.str,.imm,r⟩],[]):=by
 show _=bindF _ _
 conv=>rhs;simp only [zA5,bindF_ifB,bindF_bindO,bindF_pure,bindF_none,bindF_onSum,zA5.q5]
 kernel_rfl
theorem zA5.ok (N:Nat):ConOk Tryz.prog TB 23 [.one] (zA5.con N):=ok1 (g:=zA5.cfg N) (N:=N) (res:=[(false,.imm)]) tys_ok (zA5.cons N) mixed Tryz.func23 (zA5.ls N) rfl (zA5.b N)
theorem zA5.det (N:Nat):ConDet (zA5.con N):=det1
def zBZ.con (N:Nat):Con:={ modes:=[.io,.v],ptrs:=[false],fn:=fn2 s62 .imm (.sl 9 .str) .imm (zBZ N) (fun r=>[⟨.str,.imm,r.1⟩]) (fun r=>[⟨s62,.imm,r.2⟩]) }
def zBZ.cfg (N:Nat):Cfg:={ ty:=tys,keep:=[9],flt:=[],elm:=elm0,live:=[],ord:=[],con:=[((34,[.one,.one]),zAC.con N)],loops:=[],joins:=[] }
theorem zBZ.cons (N:Nat):ConsOk Tryz.prog TB (zBZ.cfg N).con:=(consOk_cons (hb34) (zAC.ok N) (zAC.det N) consOk_nil)
theorem zBZ.ls (N:Nat):LoopsOk Tryz.prog TB (zBZ.cfg N) (fnBody Tryz.f94):=loopsL (l:=[]) (by kernel_rfl) trivial
theorem zBZ.b (N:Nat) (x0:den s62) (x1:den (.sl 9 .str)):body (zBZ.cfg N) N Tryz.f94 [.one,.one] [.io,.v] [(false,.imm)] [⟨s62,.imm,x0⟩,⟨(.sl 9 .str),.imm,x1⟩] (fun r i=>some (r,i))=bindO (zBZ N x0 x1) fun r=>some ([⟨.str,.imm,r.1⟩],[⟨s62,.imm,r.2⟩]):=by
 show _=bindF _ _
 conv=>rhs;simp only [zBZ,bindF_ifB,bindF_bindO,bindF_pure,bindF_none,bindF_onSum]
 kernel_rfl
theorem zBZ.ok (N:Nat):ConOk Tryz.prog TB 94 [.one,.one] (zBZ.con N):=ok2 (g:=zBZ.cfg N) (N:=N) (res:=[(false,.imm)]) tys_ok (zBZ.cons N) mixed Tryz.func94 (zBZ.ls N) rfl (zBZ.b N)
theorem zBZ.det (N:Nat):ConDet (zBZ.con N):=det2
def zC9.con (N:Nat):Con:={ modes:=[.v],ptrs:=[false],fn:=fn1 (.int .i64) .imm (zC9 N) (fun r=>[⟨s22,(.own .imm),r⟩]) (fun r=>[]) }
def zC9.cfg (N:Nat):Cfg:={ ty:=tys,keep:=[],flt:=[],elm:=elm0,live:=[],ord:=[],con:=[],loops:=[],joins:=[] }
theorem zC9.cons (N:Nat):ConsOk Tryz.prog TB (zC9.cfg N).con:=consOk_nil
theorem zC9.ls (N:Nat):LoopsOk Tryz.prog TB (zC9.cfg N) (fnBody Tryz.f78):=loopsL (l:=[]) (by kernel_rfl) trivial
theorem zC9.b (N:Nat) (x0:den (.int .i64)):body (zC9.cfg N) N Tryz.f78 [.one] [.v] [(false,(.own .imm))] [⟨(.int .i64),.imm,x0⟩] (fun r i=>some (r,i))=bindO (zC9 N x0) fun r=>some ([⟨s22,(.own .imm),r⟩],[]):=by
 show _=bindF _ _
 conv=>rhs;simp only [zC9,bindF_ifB,bindF_bindO,bindF_pure,bindF_none,bindF_onSum]
 kernel_rfl
theorem zC9.ok (N:Nat):ConOk Tryz.prog TB 78 [.one] (zC9.con N):=ok1 (g:=zC9.cfg N) (N:=N) (res:=[(false,(.own .imm))]) tys_ok (zC9.cons N) mixed Tryz.func78 (zC9.ls N) rfl (zC9.b N)
theorem zC9.det (N:Nat):ConDet (zC9.con N):=det1
def zAU.sk3:Skel:=⟨.pv s49::(dd 2 (.ov 50 []::(.pv (.int .i64)::(dd 16 [])))),[⟨50,s22,(.own .imm),false,false⟩]⟩
def zAU.xs3:List XS:=[⟨.exit 0,[3],⟨dd 3 (.ov 50 []::(dd 17 [])),[⟨50,s22,(.own .imm),false,false⟩]⟩⟩]
def zAU.con (N:Nat):Con:={ modes:=[.v],ptrs:=[false],fn:=fn1 s49 .imm (zAU N) (fun r=>[⟨.str,.imm,r⟩]) (fun r=>[]) }
def zAU.cfg (N:Nat):Cfg:={ ty:=tys,keep:=[17],flt:=[],elm:=elm0,live:=[(3,[0,3,4])],ord:=[],con:=[((78,[.one]),zC9.con N)],loops:=[(3,loopCon N zAU.sk3 zAU.xs3 (fun {R}=>zAU.l3 (R:=R) N))],joins:=[] }
theorem zAU.cons (N:Nat):ConsOk Tryz.prog TB (zAU.cfg N).con:=(consOk_cons (hb78) (zC9.ok N) (zC9.det N) consOk_nil)
theorem zAU.h3 {R:Type} (N:Nat) (d:zAU.sk3.D) (kn:zAU.sk3.D->Option R) (kx:XD zAU.xs3->Option R):roundK (zAU.cfg N) N (nthLoop (fnBody Tryz.f50) 0) zAU.sk3 zAU.xs3 d kn kx=zAU.l3 N d kn kx:=by kernel_rfl
theorem zAU.i3 (N:Nat):LoopsOk Tryz.prog TB (zAU.cfg N) (nthLoop (fnBody Tryz.f50) 0):=loopsL (l:=[]) (by kernel_rfl) trivial
theorem zAU.o3 (N:Nat):LoopOk Tryz.prog TB (nthLoop (fnBody Tryz.f50) 0) (loopCon N zAU.sk3 zAU.xs3 (fun {R}=>zAU.l3 (R:=R) N)):=loop_ok (g:=zAU.cfg N) tys_ok (zAU.cons N) mixed (zAU.i3 N) (fun d kn kx=>zAU.h3 N d kn kx)
theorem zAU.ls (N:Nat):LoopsOk Tryz.prog TB (zAU.cfg N) (fnBody Tryz.f50):=loopsL (l:=[nthLoop (fnBody Tryz.f50) 0]) (by kernel_rfl) ⟨loopOne (L0:=loopCon N zAU.sk3 zAU.xs3 (fun {R}=>zAU.l3 (R:=R) N)) (id:=3) (by kernel_rfl) (by kernel_rfl) (zAU.o3 N),trivial⟩
theorem zAU.q3 {R R':Type} {N n:Nat} {d} {k} {g:R->Option R'}:bindF (loopP (zAU.l3 N) n d k) g=loopP (zAU.l3 N) n d fun e=>bindF (k e) g:=bindF_loopP (fun d kn kx=>by simp only [zAU.l3,bindF_ifB,bindF_bindO,bindF_pure,bindF_none,bindF_onSum]) n d k
theorem zAU.b (N:Nat) (x0:den s49):body (zAU.cfg N) N Tryz.f50 [.one] [.v] [(false,.imm)] [⟨s49,.imm,x0⟩] (fun r i=>some (r,i))=bindO (zAU N x0) fun r=>some ([⟨.str,.imm,r⟩],[]):=by
 show _=bindF _ _
 conv=>rhs;simp only [zAU,bindF_ifB,bindF_bindO,bindF_pure,bindF_none,bindF_onSum,zAU.q3]
 kernel_rfl
theorem zAU.ok (N:Nat):ConOk Tryz.prog TB 50 [.one] (zAU.con N):=ok1 (g:=zAU.cfg N) (N:=N) (res:=[(false,.imm)]) tys_ok (zAU.cons N) mixed Tryz.func50 (zAU.ls N) rfl (zAU.b N)
theorem zAU.det (N:Nat):ConDet (zAU.con N):=det1
def zA8.sk2:Skel:=⟨.ptr 0 []::(.pv (.int .i64)::(dd 3 (.pv .str::(dd 65 [])))),[⟨0,s62,.imm,true,false⟩]⟩
def zA8.xs2:List XS:=[⟨.exit 0,[5],⟨dd 5 (.pv .str::(dd 65 [])),[⟨0,s62,.imm,true,false⟩]⟩⟩]
def zA8.con (N:Nat):Con:={ modes:=[.io,.v],ptrs:=[false],fn:=fn2 s62 .imm (.int .i64) .imm (zA8 N) (fun r=>[⟨.str,.imm,r.1⟩]) (fun r=>[⟨s62,.imm,r.2⟩]) }
def zA8.cfg (N:Nat):Cfg:={ ty:=tys,keep:=[11,24,25,29,36,37,41,42,50,56,59,65,68,14,17],flt:=[],elm:=elm0,live:=[(2,[0,1,5])],ord:=[],con:=[((34,[.one,.one]),zAC.con N),((23,[.one]),zA5.con N),((94,[.one,.one]),zBZ.con N),((50,[.one]),zAU.con N)],loops:=[(2,loopCon N zA8.sk2 zA8.xs2 (fun {R}=>zA8.l2 (R:=R) N))],joins:=[(3,[⟨.normal,[0,1,5],⟨.ptr 0 []::(.pv (.int .i64)::(dd 3 (.pv .str::(dd 65 [])))),[⟨0,s62,.imm,true,false⟩]⟩⟩])] }
theorem zA8.cons (N:Nat):ConsOk Tryz.prog TB (zA8.cfg N).con:=(consOk_cons (hb34) (zAC.ok N) (zAC.det N) (consOk_cons (hb23) (zA5.ok N) (zA5.det N) (consOk_cons (hb94) (zBZ.ok N) (zBZ.det N) (consOk_cons (hb50) (zAU.ok N) (zAU.det N) consOk_nil))))
theorem zA8.h2 {R:Type} (N:Nat) (d:zA8.sk2.D) (kn:zA8.sk2.D->Option R) (kx:XD zA8.xs2->Option R):roundK (zA8.cfg N) N (nthLoop (fnBody Tryz.f74) 0) zA8.sk2 zA8.xs2 d kn kx=zA8.l2 N d kn kx:=by kernel_rfl
theorem zA8.i2 (N:Nat):LoopsOk Tryz.prog TB (zA8.cfg N) (nthLoop (fnBody Tryz.f74) 0):=loopsL (l:=[]) (by kernel_rfl) trivial
theorem zA8.o2 (N:Nat):LoopOk Tryz.prog TB (nthLoop (fnBody Tryz.f74) 0) (loopCon N zA8.sk2 zA8.xs2 (fun {R}=>zA8.l2 (R:=R) N)):=loop_ok (g:=zA8.cfg N) tys_ok (zA8.cons N) mixed (zA8.i2 N) (fun d kn kx=>zA8.h2 N d kn kx)
theorem zA8.ls (N:Nat):LoopsOk Tryz.prog TB (zA8.cfg N) (fnBody Tryz.f74):=loopsL (l:=[nthLoop (fnBody Tryz.f74) 0]) (by kernel_rfl) ⟨loopOne (L0:=loopCon N zA8.sk2 zA8.xs2 (fun {R}=>zA8.l2 (R:=R) N)) (id:=2) (by kernel_rfl) (by kernel_rfl) (zA8.o2 N),trivial⟩
theorem zA8.q2 {R R':Type} {N n:Nat} {d} {k} {g:R->Option R'}:bindF (loopP (zA8.l2 N) n d k) g=loopP (zA8.l2 N) n d fun e=>bindF (k e) g:=bindF_loopP (fun d kn kx=>by simp only [zA8.l2,bindF_ifB,bindF_bindO,bindF_pure,bindF_none,bindF_onSum]) n d k
theorem zA8.b (N:Nat) (x0:den s62) (x1:den (.int .i64)):body (zA8.cfg N) N Tryz.f74 [.one,.one] [.io,.v] [(false,.imm)] [⟨s62,.imm,x0⟩,⟨(.int .i64),.imm,x1⟩] (fun r i=>some (r,i))=bindO (zA8 N x0 x1) fun r=>some ([⟨.str,.imm,r.1⟩],[⟨s62,.imm,r.2⟩]):=by
 show _=bindF _ _
 conv=>rhs;simp only [zA8,bindF_ifB,bindF_bindO,bindF_pure,bindF_none,bindF_onSum,zA8.q2]
 kernel_rfl
theorem zA8.ok (N:Nat):ConOk Tryz.prog TB 74 [.one,.one] (zA8.con N):=ok2 (g:=zA8.cfg N) (N:=N) (res:=[(false,.imm)]) tys_ok (zA8.cons N) mixed Tryz.func74 (zA8.ls N) rfl (zA8.b N)
theorem zA8.det (N:Nat):ConDet (zA8.con N):=det2
def zB4.sk3:Skel:=⟨dd 1 (.ptr 50 []::(.ptr 51 []::(.ov 52 []::(.pv (.int .i64)::(dd 28 []))))),[⟨50,s24,.imm,true,false⟩,⟨51,s24,(.pr .imm (.pr .imm (.pr (.own (.pr (.own .imm) .imm)) .imm))),true,false⟩,⟨52,s23,(.own (.pr (.own .imm) .imm)),false,false⟩]⟩
def zB4.xs3:List XS:=[⟨.exit 0,[1,2,3],⟨dd 1 (.ptr 50 []::(.ptr 51 []::(.ov 52 []::(dd 29 [])))),[⟨50,s24,.imm,true,false⟩,⟨51,s24,(.pr .imm (.pr .imm (.pr (.own (.pr (.own .imm) .imm)) .imm))),true,false⟩,⟨52,s23,(.own (.pr (.own .imm) .imm)),false,false⟩]⟩⟩]
def zB4.con (N:Nat):Con:={ modes:=[.v],ptrs:=[false],fn:=fn1 s24 .imm (zB4 N) (fun r=>[⟨s24,(.pr .imm (.pr .imm (.pr (.own .imm) .imm))),r⟩]) (fun r=>[]) }
def zB4.cfg (N:Nat):Cfg:={ ty:=tys,keep:=[20],flt:=[],elm:=elm0,live:=[(3,[1,2,3,4])],ord:=[(5,[0,1,2,3,4,5,6,8,9,10,11,12,13,7,14,15,16,17])],con:=[((99,[.one]),zC1.con N)],loops:=[(3,loopCon N zB4.sk3 zB4.xs3 (fun {R}=>zB4.l3 (R:=R) N))],joins:=[] }
theorem zB4.cons (N:Nat):ConsOk Tryz.prog TB (zB4.cfg N).con:=(consOk_cons (hb99) (zC1.ok N) (zC1.det N) consOk_nil)
theorem zB4.h3 {R:Type} (N:Nat) (d:zB4.sk3.D) (kn:zB4.sk3.D->Option R) (kx:XD zB4.xs3->Option R):roundK (zB4.cfg N) N (nthLoop (fnBody Tryz.f89) 0) zB4.sk3 zB4.xs3 d kn kx=zB4.l3 N d kn kx:=by kernel_rfl
theorem zB4.i3 (N:Nat):LoopsOk Tryz.prog TB (zB4.cfg N) (nthLoop (fnBody Tryz.f89) 0):=loopsL (l:=[]) (by kernel_rfl) trivial
theorem zB4.o3 (N:Nat):LoopOk Tryz.prog TB (nthLoop (fnBody Tryz.f89) 0) (loopCon N zB4.sk3 zB4.xs3 (fun {R}=>zB4.l3 (R:=R) N)):=loop_ok (g:=zB4.cfg N) tys_ok (zB4.cons N) mixed (zB4.i3 N) (fun d kn kx=>zB4.h3 N d kn kx)
theorem zB4.ls (N:Nat):LoopsOk Tryz.prog TB (zB4.cfg N) (fnBody Tryz.f89):=loopsL (l:=[nthLoop (fnBody Tryz.f89) 0]) (by kernel_rfl) ⟨loopOne (L0:=loopCon N zB4.sk3 zB4.xs3 (fun {R}=>zB4.l3 (R:=R) N)) (id:=3) (by kernel_rfl) (by kernel_rfl) (zB4.o3 N),trivial⟩
theorem zB4.q3 {R R':Type} {N n:Nat} {d} {k} {g:R->Option R'}:bindF (loopP (zB4.l3 N) n d k) g=loopP (zB4.l3 N) n d fun e=>bindF (k e) g:=bindF_loopP (fun d kn kx=>by simp only [zB4.l3,bindF_ifB,bindF_bindO,bindF_pure,bindF_none,bindF_onSum]) n d k
theorem zB4.b (N:Nat) (x0:den s24):body (zB4.cfg N) N Tryz.f89 [.one] [.v] [(false,(.pr .imm (.pr .imm (.pr (.own .imm) .imm))))] [⟨s24,.imm,x0⟩] (fun r i=>some (r,i))=bindO (zB4 N x0) fun r=>some ([⟨s24,(.pr .imm (.pr .imm (.pr (.own .imm) .imm))),r⟩],[]):=by
 show _=bindF _ _
 conv=>rhs;simp only [zB4,bindF_ifB,bindF_bindO,bindF_pure,bindF_none,bindF_onSum,zB4.q3]
 kernel_rfl
theorem zB4.ok (N:Nat):ConOk Tryz.prog TB 89 [.one] (zB4.con N):=ok1 (g:=zB4.cfg N) (N:=N) (res:=[(false,(.pr .imm (.pr .imm (.pr (.own .imm) .imm))))]) tys_ok (zB4.cons N) mixed Tryz.func89 (zB4.ls N) rfl (zB4.b N)
theorem zB4.det (N:Nat):ConDet (zB4.con N):=det1
def zB5.sk4:Skel:=⟨dd 1 (.ptr 50 []::(dd 1 (.pv (.int .i64)::(dd 46 [])))),[⟨50,s50,.imm,true,false⟩]⟩
def zB5.xs4:List XS:=[⟨.exit 0,[],⟨dd 50 [],[]⟩⟩,⟨.ret,[2],⟨dd 2 (.pv .bool::(dd 47 [])),[]⟩⟩]
def zB5.con (N:Nat):Con:={ modes:=[.v],ptrs:=[false],fn:=fn1 s50 .imm (zB5 N) (fun r=>[⟨.bool,.imm,r⟩]) (fun r=>[]) }
def zB5.cfg (N:Nat):Cfg:={ ty:=tys,keep:=[32,38],flt:=[],elm:=elm0,live:=[(4,[1,3])],ord:=[],con:=[((79,[.one]),zBQ.con N),((80,[.one]),zC3.con N)],loops:=[(4,loopCon N zB5.sk4 zB5.xs4 (fun {R}=>zB5.l4 (R:=R) N))],joins:=[] }
theorem zB5.cons (N:Nat):ConsOk Tryz.prog TB (zB5.cfg N).con:=(consOk_cons (hb79) (zBQ.ok N) (zBQ.det N) (consOk_cons (hb80) (zC3.ok N) (zC3.det N) consOk_nil))
theorem zB5.h4 {R:Type} (N:Nat) (d:zB5.sk4.D) (kn:zB5.sk4.D->Option R) (kx:XD zB5.xs4->Option R):roundK (zB5.cfg N) N (nthLoop (fnBody Tryz.f52) 0) zB5.sk4 zB5.xs4 d kn kx=zB5.l4 N d kn kx:=by kernel_rfl
theorem zB5.i4 (N:Nat):LoopsOk Tryz.prog TB (zB5.cfg N) (nthLoop (fnBody Tryz.f52) 0):=loopsL (l:=[]) (by kernel_rfl) trivial
theorem zB5.o4 (N:Nat):LoopOk Tryz.prog TB (nthLoop (fnBody Tryz.f52) 0) (loopCon N zB5.sk4 zB5.xs4 (fun {R}=>zB5.l4 (R:=R) N)):=loop_ok (g:=zB5.cfg N) tys_ok (zB5.cons N) mixed (zB5.i4 N) (fun d kn kx=>zB5.h4 N d kn kx)
theorem zB5.ls (N:Nat):LoopsOk Tryz.prog TB (zB5.cfg N) (fnBody Tryz.f52):=loopsL (l:=[nthLoop (fnBody Tryz.f52) 0]) (by kernel_rfl) ⟨loopOne (L0:=loopCon N zB5.sk4 zB5.xs4 (fun {R}=>zB5.l4 (R:=R) N)) (id:=4) (by kernel_rfl) (by kernel_rfl) (zB5.o4 N),trivial⟩
theorem zB5.q4 {R R':Type} {N n:Nat} {d} {k} {g:R->Option R'}:bindF (loopP (zB5.l4 N) n d k) g=loopP (zB5.l4 N) n d fun e=>bindF (k e) g:=bindF_loopP (fun d kn kx=>by simp only [zB5.l4,bindF_ifB,bindF_bindO,bindF_pure,bindF_none,bindF_onSum]) n d k
theorem zB5.b (N:Nat) (x0:den s50):body (zB5.cfg N) N Tryz.f52 [.one] [.v] [(false,.imm)] [⟨s50,.imm,x0⟩] (fun r i=>some (r,i))=bindO (zB5 N x0) fun r=>some ([⟨.bool,.imm,r⟩],[]):=by
 show _=bindF _ _
 conv=>rhs;simp only [zB5,bindF_ifB,bindF_bindO,bindF_pure,bindF_none,bindF_onSum,zB5.q4]
 kernel_rfl
theorem zB5.ok (N:Nat):ConOk Tryz.prog TB 52 [.one] (zB5.con N):=ok1 (g:=zB5.cfg N) (N:=N) (res:=[(false,.imm)]) tys_ok (zB5.cons N) mixed Tryz.func52 (zB5.ls N) rfl (zB5.b N)
theorem zB5.det (N:Nat):ConDet (zB5.con N):=det1
def zAM.sk4:Skel:=⟨dd 1 (.ptr 50 []::(dd 1 (.pv (.int .i64)::(dd 114 [])))),[⟨50,s24,.imm,true,false⟩]⟩
def zAM.xs4:List XS:=[⟨.exit 0,[],⟨dd 118 [],[]⟩⟩,⟨.ret,[2],⟨dd 2 (.pv .bool::(dd 115 [])),[]⟩⟩]
def zAM.con (N:Nat):Con:={ modes:=[.v],ptrs:=[false],fn:=fn1 s24 .imm (zAM N) (fun r=>[⟨.bool,.imm,r⟩]) (fun r=>[]) }
def zAM.cfg (N:Nat):Cfg:={ ty:=tys,keep:=[9,81,84],flt:=[],elm:=elm0,live:=[(4,[1,3])],ord:=[(9,[0,1,2,3,4,5,6,7,8,9,10,11,12,13,14,15,16,17,18,19,20,21,22,23,24,25,26,27,28,29,30,31,32,33,34])],con:=[((51,[.one,.one]),zC7.con N),((52,[.one]),zB5.con N),((53,[.one]),zC2.con N)],loops:=[(4,loopCon N zAM.sk4 zAM.xs4 (fun {R}=>zAM.l4 (R:=R) N))],joins:=[(5,[⟨.normal,[1,3],⟨dd 1 (.ptr 50 []::(dd 1 (.pv (.int .i64)::(dd 114 [])))),[⟨50,s24,.imm,true,false⟩]⟩⟩,⟨.ret,[2],⟨dd 2 (.pv .bool::(dd 115 [])),[]⟩⟩])] }
theorem zAM.cons (N:Nat):ConsOk Tryz.prog TB (zAM.cfg N).con:=(consOk_cons (hb51) (zC7.ok N) (zC7.det N) (consOk_cons (hb52) (zB5.ok N) (zB5.det N) (consOk_cons (hb53) (zC2.ok N) (zC2.det N) consOk_nil)))
theorem zAM.h4 {R:Type} (N:Nat) (d:zAM.sk4.D) (kn:zAM.sk4.D->Option R) (kx:XD zAM.xs4->Option R):roundK (zAM.cfg N) N (nthLoop (fnBody Tryz.f24) 0) zAM.sk4 zAM.xs4 d kn kx=zAM.l4 N d kn kx:=by kernel_rfl
theorem zAM.i4 (N:Nat):LoopsOk Tryz.prog TB (zAM.cfg N) (nthLoop (fnBody Tryz.f24) 0):=loopsL (l:=[]) (by kernel_rfl) trivial
theorem zAM.o4 (N:Nat):LoopOk Tryz.prog TB (nthLoop (fnBody Tryz.f24) 0) (loopCon N zAM.sk4 zAM.xs4 (fun {R}=>zAM.l4 (R:=R) N)):=loop_ok (g:=zAM.cfg N) tys_ok (zAM.cons N) mixed (zAM.i4 N) (fun d kn kx=>zAM.h4 N d kn kx)
theorem zAM.ls (N:Nat):LoopsOk Tryz.prog TB (zAM.cfg N) (fnBody Tryz.f24):=loopsL (l:=[nthLoop (fnBody Tryz.f24) 0]) (by kernel_rfl) ⟨loopOne (L0:=loopCon N zAM.sk4 zAM.xs4 (fun {R}=>zAM.l4 (R:=R) N)) (id:=4) (by kernel_rfl) (by kernel_rfl) (zAM.o4 N),trivial⟩
theorem zAM.q4 {R R':Type} {N n:Nat} {d} {k} {g:R->Option R'}:bindF (loopP (zAM.l4 N) n d k) g=loopP (zAM.l4 N) n d fun e=>bindF (k e) g:=bindF_loopP (fun d kn kx=>by simp only [zAM.l4,bindF_ifB,bindF_bindO,bindF_pure,bindF_none,bindF_onSum]) n d k
theorem zAM.b (N:Nat) (x0:den s24):body (zAM.cfg N) N Tryz.f24 [.one] [.v] [(false,.imm)] [⟨s24,.imm,x0⟩] (fun r i=>some (r,i))=bindO (zAM N x0) fun r=>some ([⟨.bool,.imm,r⟩],[]):=by
 show _=bindF _ _
 conv=>rhs;simp only [zAM,bindF_ifB,bindF_bindO,bindF_pure,bindF_none,bindF_onSum,zAM.q4]
 kernel_rfl
theorem zAM.ok (N:Nat):ConOk Tryz.prog TB 24 [.one] (zAM.con N):=ok1 (g:=zAM.cfg N) (N:=N) (res:=[(false,.imm)]) tys_ok (zAM.cons N) mixed Tryz.func24 (zAM.ls N) rfl (zAM.b N)
theorem zAM.det (N:Nat):ConDet (zAM.con N):=det1
def zAY.sk18:Skel:=⟨.pv .str::(dd 4 (.pv (.int .i64)::(.pv (.int .i64)::(.pv (.int .i64)::(dd 78 []))))),[]⟩
def zAY.xs18:List XS:=[⟨.exit 1,[0,5,6],⟨.pv .str::(dd 4 (.pv (.int .i64)::(.pv (.int .i64)::(dd 79 [])))),[]⟩⟩,⟨.ret,[2,3],⟨dd 2 (.pv (.int .i64)::(.pv (.int .i64)::(dd 82 []))),[]⟩⟩]
def zAY.con (N:Nat):Con:={ modes:=[.v],ptrs:=[false,false],fn:=fn1 .str .imm (zAY N) (fun r=>[⟨(.int .i64),.imm,r.1⟩,⟨(.int .i64),.imm,r.2⟩]) (fun r=>[]) }
def zAY.cfg (N:Nat):Cfg:={ ty:=tys,keep:=[73,77],flt:=[],elm:=elm0,live:=[(18,[0,5,6,7])],ord:=[(23,[0,1,2,3,4,7,8,9,5,6,10,11])],con:=[((79,[.one]),zBQ.con N),((78,[.one]),zC9.con N)],loops:=[(18,loopCon N zAY.sk18 zAY.xs18 (fun {R}=>zAY.l18 (R:=R) N))],joins:=[(15,[⟨.normal,[0,5,6],⟨.pv .str::(dd 4 (.pv (.int .i64)::(.pv (.int .i64)::(dd 79 [])))),[]⟩⟩])] }
theorem zAY.cons (N:Nat):ConsOk Tryz.prog TB (zAY.cfg N).con:=(consOk_cons (hb79) (zBQ.ok N) (zBQ.det N) (consOk_cons (hb78) (zC9.ok N) (zC9.det N) consOk_nil))
theorem zAY.h18 {R:Type} (N:Nat) (d:zAY.sk18.D) (kn:zAY.sk18.D->Option R) (kx:XD zAY.xs18->Option R):roundK (zAY.cfg N) N (nthLoop (fnBody Tryz.f100) 0) zAY.sk18 zAY.xs18 d kn kx=zAY.l18 N d kn kx:=by kernel_rfl
theorem zAY.i18 (N:Nat):LoopsOk Tryz.prog TB (zAY.cfg N) (nthLoop (fnBody Tryz.f100) 0):=loopsL (l:=[]) (by kernel_rfl) trivial
theorem zAY.o18 (N:Nat):LoopOk Tryz.prog TB (nthLoop (fnBody Tryz.f100) 0) (loopCon N zAY.sk18 zAY.xs18 (fun {R}=>zAY.l18 (R:=R) N)):=loop_ok (g:=zAY.cfg N) tys_ok (zAY.cons N) mixed (zAY.i18 N) (fun d kn kx=>zAY.h18 N d kn kx)
theorem zAY.ls (N:Nat):LoopsOk Tryz.prog TB (zAY.cfg N) (fnBody Tryz.f100):=loopsL (l:=[nthLoop (fnBody Tryz.f100) 0]) (by kernel_rfl) ⟨loopOne (L0:=loopCon N zAY.sk18 zAY.xs18 (fun {R}=>zAY.l18 (R:=R) N)) (id:=18) (by kernel_rfl) (by kernel_rfl) (zAY.o18 N),trivial⟩
theorem zAY.q18 {R R':Type} {N n:Nat} {d} {k} {g:R->Option R'}:bindF (loopP (zAY.l18 N) n d k) g=loopP (zAY.l18 N) n d fun e=>bindF (k e) g:=bindF_loopP (fun d kn kx=>by simp only [zAY.l18,bindF_ifB,bindF_bindO,bindF_pure,bindF_none,bindF_onSum]) n d k
theorem zAY.b (N:Nat) (x0:den .str):body (zAY.cfg N) N Tryz.f100 [.one] [.v] [(false,.imm),(false,.imm)] [⟨.str,.imm,x0⟩] (fun r i=>some (r,i))=bindO (zAY N x0) fun r=>some ([⟨(.int .i64),.imm,r.1⟩,⟨(.int .i64),.imm,r.2⟩],[]):=by
 show _=bindF _ _
 conv=>rhs;simp only [zAY,bindF_ifB,bindF_bindO,bindF_pure,bindF_none,bindF_onSum,zAY.q18]
 kernel_rfl
theorem zAY.ok (N:Nat):ConOk Tryz.prog TB 100 [.one] (zAY.con N):=ok1 (g:=zAY.cfg N) (N:=N) (res:=[(false,.imm),(false,.imm)]) tys_ok (zAY.cons N) mixed Tryz.func100 (zAY.ls N) rfl (zAY.b N)
theorem zAY.det (N:Nat):ConDet (zAY.con N):=det1
def zAT.sk3:Skel:=⟨.pv .str::(dd 2 (.ov 50 []::(.pv (.int .i64)::(dd 22 [])))),[⟨50,s49,(.own .imm),false,false⟩]⟩
def zAT.xs3:List XS:=[⟨.exit 0,[3],⟨dd 3 (.ov 50 []::(dd 23 [])),[⟨50,s49,(.own .imm),false,false⟩]⟩⟩]
def zAT.con (N:Nat):Con:={ modes:=[.v],ptrs:=[false],fn:=fn1 .str .imm (zAT N) (fun r=>[⟨s49,.imm,r⟩]) (fun r=>[]) }
def zAT.cfg (N:Nat):Cfg:={ ty:=tys,keep:=[16],flt:=[],elm:=elm0,live:=[(3,[0,3,4])],ord:=[],con:=[((100,[.one]),zAY.con N)],loops:=[(3,loopCon N zAT.sk3 zAT.xs3 (fun {R}=>zAT.l3 (R:=R) N))],joins:=[] }
theorem zAT.cons (N:Nat):ConsOk Tryz.prog TB (zAT.cfg N).con:=(consOk_cons (hb100) (zAY.ok N) (zAY.det N) consOk_nil)
theorem zAT.h3 {R:Type} (N:Nat) (d:zAT.sk3.D) (kn:zAT.sk3.D->Option R) (kx:XD zAT.xs3->Option R):roundK (zAT.cfg N) N (nthLoop (fnBody Tryz.f90) 0) zAT.sk3 zAT.xs3 d kn kx=zAT.l3 N d kn kx:=by kernel_rfl
theorem zAT.i3 (N:Nat):LoopsOk Tryz.prog TB (zAT.cfg N) (nthLoop (fnBody Tryz.f90) 0):=loopsL (l:=[]) (by kernel_rfl) trivial
theorem zAT.o3 (N:Nat):LoopOk Tryz.prog TB (nthLoop (fnBody Tryz.f90) 0) (loopCon N zAT.sk3 zAT.xs3 (fun {R}=>zAT.l3 (R:=R) N)):=loop_ok (g:=zAT.cfg N) tys_ok (zAT.cons N) mixed (zAT.i3 N) (fun d kn kx=>zAT.h3 N d kn kx)
theorem zAT.ls (N:Nat):LoopsOk Tryz.prog TB (zAT.cfg N) (fnBody Tryz.f90):=loopsL (l:=[nthLoop (fnBody Tryz.f90) 0]) (by kernel_rfl) ⟨loopOne (L0:=loopCon N zAT.sk3 zAT.xs3 (fun {R}=>zAT.l3 (R:=R) N)) (id:=3) (by kernel_rfl) (by kernel_rfl) (zAT.o3 N),trivial⟩
theorem zAT.q3 {R R':Type} {N n:Nat} {d} {k} {g:R->Option R'}:bindF (loopP (zAT.l3 N) n d k) g=loopP (zAT.l3 N) n d fun e=>bindF (k e) g:=bindF_loopP (fun d kn kx=>by simp only [zAT.l3,bindF_ifB,bindF_bindO,bindF_pure,bindF_none,bindF_onSum]) n d k
theorem zAT.b (N:Nat) (x0:den .str):body (zAT.cfg N) N Tryz.f90 [.one] [.v] [(false,.imm)] [⟨.str,.imm,x0⟩] (fun r i=>some (r,i))=bindO (zAT N x0) fun r=>some ([⟨s49,.imm,r⟩],[]):=by
 show _=bindF _ _
 conv=>rhs;simp only [zAT,bindF_ifB,bindF_bindO,bindF_pure,bindF_none,bindF_onSum,zAT.q3]
 kernel_rfl
theorem zAT.ok (N:Nat):ConOk Tryz.prog TB 90 [.one] (zAT.con N):=ok1 (g:=zAT.cfg N) (N:=N) (res:=[(false,.imm)]) tys_ok (zAT.cons N) mixed Tryz.func90 (zAT.ls N) rfl (zAT.b N)
theorem zAT.det (N:Nat):ConDet (zAT.con N):=det1
def zB7.sk4:Skel:=⟨.pv s49::(dd 2 (.ov 50 []::(.pv (.int .i64)::(.pv (.int .i64)::(dd 43 []))))),[⟨50,s49,(.own .imm),false,false⟩]⟩
def zB7.xs4:List XS:=[⟨.exit 0,[3],⟨dd 3 (.ov 50 []::(dd 45 [])),[⟨50,s49,(.own .imm),false,false⟩]⟩⟩]
def zB7.con (N:Nat):Con:={ modes:=[.v],ptrs:=[false],fn:=fn1 s49 .imm (zB7 N) (fun r=>[⟨s49,(.own .imm),r⟩]) (fun r=>[]) }
def zB7.cfg (N:Nat):Cfg:={ ty:=tys,keep:=[],flt:=[],elm:=elm0,live:=[(4,[0,3,4,5])],ord:=[(11,[0,1,2,3,4,5,6,7,8,9,10,11,12,13,14])],con:=[],loops:=[(4,loopCon N zB7.sk4 zB7.xs4 (fun {R}=>zB7.l4 (R:=R) N))],joins:=[(5,[⟨.normal,[0,3,4,5],⟨.pv s49::(dd 2 (.ov 50 []::(.pv (.int .i64)::(.pv (.int .i64)::(dd 43 []))))),[⟨50,s49,(.own .imm),false,false⟩]⟩⟩])] }
theorem zB7.cons (N:Nat):ConsOk Tryz.prog TB (zB7.cfg N).con:=consOk_nil
theorem zB7.h4 {R:Type} (N:Nat) (d:zB7.sk4.D) (kn:zB7.sk4.D->Option R) (kx:XD zB7.xs4->Option R):roundK (zB7.cfg N) N (nthLoop (fnBody Tryz.f101) 0) zB7.sk4 zB7.xs4 d kn kx=zB7.l4 N d kn kx:=by kernel_rfl
theorem zB7.i4 (N:Nat):LoopsOk Tryz.prog TB (zB7.cfg N) (nthLoop (fnBody Tryz.f101) 0):=loopsL (l:=[]) (by kernel_rfl) trivial
theorem zB7.o4 (N:Nat):LoopOk Tryz.prog TB (nthLoop (fnBody Tryz.f101) 0) (loopCon N zB7.sk4 zB7.xs4 (fun {R}=>zB7.l4 (R:=R) N)):=loop_ok (g:=zB7.cfg N) tys_ok (zB7.cons N) mixed (zB7.i4 N) (fun d kn kx=>zB7.h4 N d kn kx)
theorem zB7.ls (N:Nat):LoopsOk Tryz.prog TB (zB7.cfg N) (fnBody Tryz.f101):=loopsL (l:=[nthLoop (fnBody Tryz.f101) 0]) (by kernel_rfl) ⟨loopOne (L0:=loopCon N zB7.sk4 zB7.xs4 (fun {R}=>zB7.l4 (R:=R) N)) (id:=4) (by kernel_rfl) (by kernel_rfl) (zB7.o4 N),trivial⟩
theorem zB7.q4 {R R':Type} {N n:Nat} {d} {k} {g:R->Option R'}:bindF (loopP (zB7.l4 N) n d k) g=loopP (zB7.l4 N) n d fun e=>bindF (k e) g:=bindF_loopP (fun d kn kx=>by simp only [zB7.l4,bindF_ifB,bindF_bindO,bindF_pure,bindF_none,bindF_onSum]) n d k
theorem zB7.b (N:Nat) (x0:den s49):body (zB7.cfg N) N Tryz.f101 [.one] [.v] [(false,(.own .imm))] [⟨s49,.imm,x0⟩] (fun r i=>some (r,i))=bindO (zB7 N x0) fun r=>some ([⟨s49,(.own .imm),r⟩],[]):=by
 show _=bindF _ _
 conv=>rhs;simp only [zB7,bindF_ifB,bindF_bindO,bindF_pure,bindF_none,bindF_onSum,zB7.q4]
 kernel_rfl
theorem zB7.ok (N:Nat):ConOk Tryz.prog TB 101 [.one] (zB7.con N):=ok1 (g:=zB7.cfg N) (N:=N) (res:=[(false,(.own .imm))]) tys_ok (zB7.cons N) mixed Tryz.func101 (zB7.ls N) rfl (zB7.b N)
theorem zB7.det (N:Nat):ConDet (zB7.con N):=det1
def zCA.con (N:Nat):Con:={ modes:=[.v,.v],ptrs:=[false],fn:=fn2 s24 .imm (.int .i64) .imm (zCA N) (fun r=>[⟨.bool,.imm,r⟩]) (fun r=>[]) }
def zCA.cfg (N:Nat):Cfg:={ ty:=tys,keep:=[17],flt:=[],elm:=elm0,live:=[],ord:=[],con:=[((53,[.one]),zC2.con N)],loops:=[],joins:=[] }
theorem zCA.cons (N:Nat):ConsOk Tryz.prog TB (zCA.cfg N).con:=(consOk_cons (hb53) (zC2.ok N) (zC2.det N) consOk_nil)
theorem zCA.ls (N:Nat):LoopsOk Tryz.prog TB (zCA.cfg N) (fnBody Tryz.f25):=loopsL (l:=[]) (by kernel_rfl) trivial
theorem zCA.b (N:Nat) (x0:den s24) (x1:den (.int .i64)):body (zCA.cfg N) N Tryz.f25 [.one,.one] [.v,.v] [(false,.imm)] [⟨s24,.imm,x0⟩,⟨(.int .i64),.imm,x1⟩] (fun r i=>some (r,i))=bindO (zCA N x0 x1) fun r=>some ([⟨.bool,.imm,r⟩],[]):=by
 show _=bindF _ _
 conv=>rhs;simp only [zCA,bindF_ifB,bindF_bindO,bindF_pure,bindF_none,bindF_onSum]
 kernel_rfl
theorem zCA.ok (N:Nat):ConOk Tryz.prog TB 25 [.one,.one] (zCA.con N):=ok2 (g:=zCA.cfg N) (N:=N) (res:=[(false,.imm)]) tys_ok (zCA.cons N) mixed Tryz.func25 (zCA.ls N) rfl (zCA.b N)
theorem zCA.det (N:Nat):ConDet (zCA.con N):=det2
end Go.AE.F
end
