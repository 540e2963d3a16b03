/- The printed functions are what the program comes to: contracts. -/
import Derived.Test.YtkknmokglbhheaaGreatLMachineL3
noncomputable section
namespace Go.AE.F
open Go.AE Go.Proofs
set_option maxRecDepth 100000
def zCS.con (N:Nat):Con:={ modes:=[.v,.v,.v],ptrs:=[false],fn:=fn3 s25 .imm (.int .i64) .imm (.int .i64) .imm (zCS N) (fun r=>[⟨s99,(.pr (.pr (.own .imm) .imm) (.pr (.own .imm) .imm)),r⟩]) (fun r=>[]) }
def zCS.cfg (N:Nat):Cfg:={ ty:=tys,keep:=[11],flt:=[],elm:=elm0,live:=[],ord:=[],con:=[((82,[.one,.one,.one,.one]),zBW.con N)],loops:=[],joins:=[] }
theorem zCS.cons (N:Nat):ConsOk Tryz.prog (zCS.cfg N).con:=(consOk_cons (hb82) (zBW.ok N) (zBW.det N) consOk_nil)
theorem zCS.ls (N:Nat):LoopsOk Tryz.prog (zCS.cfg N) (fnBody Tryz.f58):=loopsL (l:=[]) (by kernel_rfl) trivial
theorem zCS.b (N:Nat) (x0:den s25) (x1:den (.int .i64)) (x2:den (.int .i64)):body (zCS.cfg N) N Tryz.f58 [.one,.one,.one] [.v,.v,.v] [(false,(.pr (.pr (.own .imm) .imm) (.pr (.own .imm) .imm)))] [⟨s25,.imm,x0⟩,⟨(.int .i64),.imm,x1⟩,⟨(.int .i64),.imm,x2⟩] (fun r i=>some (r,i))=bindO (zCS N x0 x1 x2) fun r=>some ([⟨s99,(.pr (.pr (.own .imm) .imm) (.pr (.own .imm) .imm)),r⟩],[]):=by
  show _=bindF _ _
  conv=>rhs;simp only [zCS,bindF_ifB,bindF_bindO,bindF_pure,bindF_none,bindF_onSum]
  kernel_rfl
theorem zCS.ok (N:Nat):ConOk Tryz.prog 58 [.one,.one,.one] (zCS.con N):=ok3 (g:=zCS.cfg N) (N:=N) (res:=[(false,(.pr (.pr (.own .imm) .imm) (.pr (.own .imm) .imm)))]) tys_ok (zCS.cons N) mixed Tryz.func58 (zCS.ls N) rfl (zCS.b N)
theorem zCS.det (N:Nat):ConDet (zCS.con N):=det3
def zBF.con (N:Nat):Con:={ modes:=[.io,.v,.v,.v],ptrs:=[],fn:=fn4 s63 (.pr .imm (.pr .imm (.pr (.own .imm) .imm))) (.int .i64) .imm (.int .i64) .imm (.int .i64) .imm (zBF N) (fun r=>[]) (fun r=>[⟨s63,(.pr .imm (.pr .imm (.pr (.own .imm) .imm))),r⟩]) }
def zBF.cfg (N:Nat):Cfg:={ ty:=tys,keep:=[],flt:=[],elm:=elm0,live:=[],ord:=[],con:=[((53,[.one]),zC5.con N),((30,[.one,.one]),zBC.con N),((57,[.one,.one]),zCM.con N),((58,[.one,.one,.one]),zCS.con N)],loops:=[],joins:=[] }
theorem zBF.cons (N:Nat):ConsOk Tryz.prog (zBF.cfg N).con:=(consOk_cons (hb53) (zC5.ok N) (zC5.det N) (consOk_cons (hb30) (zBC.ok N) (zBC.det N) (consOk_cons (hb57) (zCM.ok N) (zCM.det N) (consOk_cons (hb58) (zCS.ok N) (zCS.det N) consOk_nil))))
theorem zBF.ls (N:Nat):LoopsOk Tryz.prog (zBF.cfg N) (fnBody Tryz.f34):=loopsL (l:=[]) (by kernel_rfl) trivial
theorem zBF.b (N:Nat) (x0:den s63) (x1:den (.int .i64)) (x2:den (.int .i64)) (x3:den (.int .i64)):body (zBF.cfg N) N Tryz.f34 [.one,.one,.one,.one] [.io,.v,.v,.v] [] [⟨s63,(.pr .imm (.pr .imm (.pr (.own .imm) .imm))),x0⟩,⟨(.int .i64),.imm,x1⟩,⟨(.int .i64),.imm,x2⟩,⟨(.int .i64),.imm,x3⟩] (fun r i=>some (r,i))=bindO (zBF N x0 x1 x2 x3) fun r=>some ([],[⟨s63,(.pr .imm (.pr .imm (.pr (.own .imm) .imm))),r⟩]):=by
  show _=bindF _ _
  conv=>rhs;simp only [zBF,bindF_ifB,bindF_bindO,bindF_pure,bindF_none,bindF_onSum]
  kernel_rfl
theorem zBF.ok (N:Nat):ConOk Tryz.prog 34 [.one,.one,.one,.one] (zBF.con N):=ok4 (g:=zBF.cfg N) (N:=N) (res:=[]) tys_ok (zBF.cons N) mixed Tryz.func34 (zBF.ls N) rfl (zBF.b N)
theorem zBF.det (N:Nat):ConDet (zBF.con N):=det4
def zB1.sk1:Skel:=⟨dd 1 (.pv (.int .i64)::(.ptr 50 []::(dd 16 []))),[⟨50,s25,.imm,true,false⟩]⟩
def zB1.xs1:List XS:=[⟨.exit 0,[1],⟨dd 1 (.pv (.int .i64)::(dd 17 [])),[]⟩⟩]
def zB1.con (N:Nat):Con:={ modes:=[.v,.v],ptrs:=[false],fn:=fn2 s25 .imm (.int .i64) .imm (zB1 N) (fun r=>[⟨(.int .i64),.imm,r⟩]) (fun r=>[]) }
def zB1.cfg (N:Nat):Cfg:={ ty:=tys,keep:=[],flt:=[],elm:=elm0,live:=[(1,[1,2,8,9,10,11,12,13,14])],ord:=[],con:=[],loops:=[(1,loopCon N zB1.sk1 zB1.xs1 (fun {R}=>zB1.l1 (R:=R) N))],joins:=[] }
theorem zB1.cons (N:Nat):ConsOk Tryz.prog (zB1.cfg N).con:=consOk_nil
theorem zB1.h1 {R:Type} (N:Nat) (d:zB1.sk1.D) (kn:zB1.sk1.D→Option R) (kx:XD zB1.xs1→Option R):roundK (zB1.cfg N) N (nthLoop (fnBody Tryz.f99) 0) zB1.sk1 zB1.xs1 d kn kx=zB1.l1 N d kn kx:=by kernel_rfl
theorem zB1.i1 (N:Nat):LoopsOk Tryz.prog (zB1.cfg N) (nthLoop (fnBody Tryz.f99) 0):=loopsL (l:=[]) (by kernel_rfl) trivial
theorem zB1.o1 (N:Nat):LoopOk Tryz.prog (nthLoop (fnBody Tryz.f99) 0) (loopCon N zB1.sk1 zB1.xs1 (fun {R}=>zB1.l1 (R:=R) N)):=loop_ok (g:=zB1.cfg N) tys_ok (zB1.cons N) mixed (zB1.i1 N) (fun d kn kx=>zB1.h1 N d kn kx)
theorem zB1.ls (N:Nat):LoopsOk Tryz.prog (zB1.cfg N) (fnBody Tryz.f99):=loopsL (l:=[nthLoop (fnBody Tryz.f99) 0]) (by kernel_rfl) ⟨loopOne (L0:=loopCon N zB1.sk1 zB1.xs1 (fun {R}=>zB1.l1 (R:=R) N)) (id:=1) (by kernel_rfl) (by kernel_rfl) (zB1.o1 N),trivial⟩
theorem zB1.q1 {R R':Type} {N n:Nat} {d} {k} {g:R→Option R'}:bindF (loopP (zB1.l1 N) n d k) g=loopP (zB1.l1 N) n d fun e=>bindF (k e) g:=bindF_loopP (fun d kn kx=>by simp only [zB1.l1,bindF_ifB,bindF_bindO,bindF_pure,bindF_none,bindF_onSum]) n d k
theorem zB1.b (N:Nat) (x0:den s25) (x1:den (.int .i64)):body (zB1.cfg N) N Tryz.f99 [.one,.one] [.v,.v] [(false,.imm)] [⟨s25,.imm,x0⟩,⟨(.int .i64),.imm,x1⟩] (fun r i=>some (r,i))=bindO (zB1 N x0 x1) fun r=>some ([⟨(.int .i64),.imm,r⟩],[]):=by
  show _=bindF _ _
  conv=>rhs;simp only [zB1,bindF_ifB,bindF_bindO,bindF_pure,bindF_none,bindF_onSum,zB1.q1]
  kernel_rfl
theorem zB1.ok (N:Nat):ConOk Tryz.prog 99 [.one,.one] (zB1.con N):=ok2 (g:=zB1.cfg N) (N:=N) (res:=[(false,.imm)]) tys_ok (zB1.cons N) mixed Tryz.func99 (zB1.ls N) rfl (zB1.b N)
theorem zB1.det (N:Nat):ConDet (zB1.con N):=det2
def zB3.sk3:Skel:=⟨dd 1 (.pv (.int .i64)::(.ptr 50 []::(dd 1 (.ptr 51 []::(.pv (.int .i64)::(.pv (.int .i64)::(dd 20 []))))))),[⟨50,s25,.imm,true,false⟩,⟨51,s54,.imm,true,false⟩]⟩
def zB3.xs3:List XS:=[⟨.exit 0,[1,2,4,5],⟨dd 1 (.pv (.int .i64)::(.ptr 50 []::(dd 1 (.ptr 51 []::(.pv (.int .i64)::(dd 21 [])))))),[⟨50,s25,.imm,true,false⟩,⟨51,s54,.imm,true,false⟩]⟩⟩]
def zB3.con (N:Nat):Con:={ modes:=[.v,.v],ptrs:=[false],fn:=fn2 s25 .imm (.int .i64) .imm (zB3 N) (fun r=>[⟨s54,.imm,r⟩]) (fun r=>[]) }
def zB3.cfg (N:Nat):Cfg:={ ty:=tys,keep:=[24],flt:=[],elm:=elm0,live:=[(3,[1,2,4,5,6])],ord:=[],con:=[((99,[.one,.one]),zB1.con N)],loops:=[(3,loopCon N zB3.sk3 zB3.xs3 (fun {R}=>zB3.l3 (R:=R) N))],joins:=[(4,[⟨.normal,[1,2,4,5,6],⟨dd 1 (.pv (.int .i64)::(.ptr 50 []::(dd 1 (.ptr 51 []::(.pv (.int .i64)::(.pv (.int .i64)::(dd 20 []))))))),[⟨50,s25,.imm,true,false⟩,⟨51,s54,.imm,true,false⟩]⟩⟩])] }
theorem zB3.cons (N:Nat):ConsOk Tryz.prog (zB3.cfg N).con:=(consOk_cons (hb99) (zB1.ok N) (zB1.det N) consOk_nil)
theorem zB3.h3 {R:Type} (N:Nat) (d:zB3.sk3.D) (kn:zB3.sk3.D→Option R) (kx:XD zB3.xs3→Option R):roundK (zB3.cfg N) N (nthLoop (fnBody Tryz.f83) 0) zB3.sk3 zB3.xs3 d kn kx=zB3.l3 N d kn kx:=by kernel_rfl
theorem zB3.i3 (N:Nat):LoopsOk Tryz.prog (zB3.cfg N) (nthLoop (fnBody Tryz.f83) 0):=loopsL (l:=[]) (by kernel_rfl) trivial
theorem zB3.o3 (N:Nat):LoopOk Tryz.prog (nthLoop (fnBody Tryz.f83) 0) (loopCon N zB3.sk3 zB3.xs3 (fun {R}=>zB3.l3 (R:=R) N)):=loop_ok (g:=zB3.cfg N) tys_ok (zB3.cons N) mixed (zB3.i3 N) (fun d kn kx=>zB3.h3 N d kn kx)
theorem zB3.ls (N:Nat):LoopsOk Tryz.prog (zB3.cfg N) (fnBody Tryz.f83):=loopsL (l:=[nthLoop (fnBody Tryz.f83) 0]) (by kernel_rfl) ⟨loopOne (L0:=loopCon N zB3.sk3 zB3.xs3 (fun {R}=>zB3.l3 (R:=R) N)) (id:=3) (by kernel_rfl) (by kernel_rfl) (zB3.o3 N),trivial⟩
theorem zB3.q3 {R R':Type} {N n:Nat} {d} {k} {g:R→Option R'}:bindF (loopP (zB3.l3 N) n d k) g=loopP (zB3.l3 N) n d fun e=>bindF (k e) g:=bindF_loopP (fun d kn kx=>by simp only [zB3.l3,bindF_ifB,bindF_bindO,bindF_pure,bindF_none,bindF_onSum]) n d k
theorem zB3.b (N:Nat) (x0:den s25) (x1:den (.int .i64)):body (zB3.cfg N) N Tryz.f83 [.one,.one] [.v,.v] [(false,.imm)] [⟨s25,.imm,x0⟩,⟨(.int .i64),.imm,x1⟩] (fun r i=>some (r,i))=bindO (zB3 N x0 x1) fun r=>some ([⟨s54,.imm,r⟩],[]):=by
  show _=bindF _ _
  conv=>rhs;simp only [zB3,bindF_ifB,bindF_bindO,bindF_pure,bindF_none,bindF_onSum,zB3.q3]
  kernel_rfl
theorem zB3.ok (N:Nat):ConOk Tryz.prog 83 [.one,.one] (zB3.con N):=ok2 (g:=zB3.cfg N) (N:=N) (res:=[(false,.imm)]) tys_ok (zB3.cons N) mixed Tryz.func83 (zB3.ls N) rfl (zB3.b N)
theorem zB3.det (N:Nat):ConDet (zB3.con N):=det2
def zCR.con (N:Nat):Con:={ modes:=[.v],ptrs:=[false],fn:=fn1 s25 .imm (zCR N) (fun r=>[⟨(.int .i64),.imm,r⟩]) (fun r=>[]) }
def zCR.cfg (N:Nat):Cfg:={ ty:=tys,keep:=[4,10],flt:=[],elm:=elm0,live:=[],ord:=[],con:=[((15,[.one]),zBN.con N),((83,[.one,.one]),zB3.con N)],loops:=[],joins:=[] }
theorem zCR.cons (N:Nat):ConsOk Tryz.prog (zCR.cfg N).con:=(consOk_cons (hb15) (zBN.ok N) (zBN.det N) (consOk_cons (hb83) (zB3.ok N) (zB3.det N) consOk_nil))
theorem zCR.ls (N:Nat):LoopsOk Tryz.prog (zCR.cfg N) (fnBody Tryz.f102):=loopsL (l:=[]) (by kernel_rfl) trivial
theorem zCR.b (N:Nat) (x0:den s25):body (zCR.cfg N) N Tryz.f102 [.one] [.v] [(false,.imm)] [⟨s25,.imm,x0⟩] (fun r i=>some (r,i))=bindO (zCR N x0) fun r=>some ([⟨(.int .i64),.imm,r⟩],[]):=by
  show _=bindF _ _
  conv=>rhs;simp only [zCR,bindF_ifB,bindF_bindO,bindF_pure,bindF_none,bindF_onSum]
  kernel_rfl
theorem zCR.ok (N:Nat):ConOk Tryz.prog 102 [.one] (zCR.con N):=ok1 (g:=zCR.cfg N) (N:=N) (res:=[(false,.imm)]) tys_ok (zCR.cons N) mixed Tryz.func102 (zCR.ls N) rfl (zCR.b N)
theorem zCR.det (N:Nat):ConDet (zCR.con N):=det1
def zD1.con (N:Nat):Con:={ modes:=[.v,.v],ptrs:=[false],fn:=fn2 (.int .i64) .imm (.int .i64) .imm (zD1 N) (fun r=>[⟨(.int .i64),.imm,r⟩]) (fun r=>[]) }
def zD1.cfg (N:Nat):Cfg:={ ty:=tys,keep:=[],flt:=[],elm:=elm0,live:=[],ord:=[],con:=[],loops:=[],joins:=[] }
theorem zD1.cons (N:Nat):ConsOk Tryz.prog (zD1.cfg N).con:=consOk_nil
theorem zD1.ls (N:Nat):LoopsOk Tryz.prog (zD1.cfg N) (fnBody Tryz.f101):=loopsL (l:=[]) (by kernel_rfl) trivial
theorem zD1.b (N:Nat) (x0:den (.int .i64)) (x1:den (.int .i64)):body (zD1.cfg N) N Tryz.f101 [.one,.one] [.v,.v] [(false,.imm)] [⟨(.int .i64),.imm,x0⟩,⟨(.int .i64),.imm,x1⟩] (fun r i=>some (r,i))=bindO (zD1 N x0 x1) fun r=>some ([⟨(.int .i64),.imm,r⟩],[]):=by
  show _=bindF _ _
  conv=>rhs;simp only [zD1,bindF_ifB,bindF_bindO,bindF_pure,bindF_none,bindF_onSum]
  kernel_rfl
theorem zD1.ok (N:Nat):ConOk Tryz.prog 101 [.one,.one] (zD1.con N):=ok2 (g:=zD1.cfg N) (N:=N) (res:=[(false,.imm)]) tys_ok (zD1.cons N) mixed Tryz.func101 (zD1.ls N) rfl (zD1.b N)
theorem zD1.det (N:Nat):ConDet (zD1.con N):=det2
def zD2.con (N:Nat):Con:={ modes:=[.v,.v],ptrs:=[false],fn:=fn2 (.int .i64) .imm (.int .i64) .imm (zD2 N) (fun r=>[⟨(.int .i64),.imm,r⟩]) (fun r=>[]) }
def zD2.cfg (N:Nat):Cfg:={ ty:=tys,keep:=[],flt:=[],elm:=elm0,live:=[],ord:=[],con:=[],loops:=[],joins:=[] }
theorem zD2.cons (N:Nat):ConsOk Tryz.prog (zD2.cfg N).con:=consOk_nil
theorem zD2.ls (N:Nat):LoopsOk Tryz.prog (zD2.cfg N) (fnBody Tryz.f100):=loopsL (l:=[]) (by kernel_rfl) trivial
theorem zD2.b (N:Nat) (x0:den (.int .i64)) (x1:den (.int .i64)):body (zD2.cfg N) N Tryz.f100 [.one,.one] [.v,.v] [(false,.imm)] [⟨(.int .i64),.imm,x0⟩,⟨(.int .i64),.imm,x1⟩] (fun r i=>some (r,i))=bindO (zD2 N x0 x1) fun r=>some ([⟨(.int .i64),.imm,r⟩],[]):=by
  show _=bindF _ _
  conv=>rhs;simp only [zD2,bindF_ifB,bindF_bindO,bindF_pure,bindF_none,bindF_onSum]
  kernel_rfl
theorem zD2.ok (N:Nat):ConOk Tryz.prog 100 [.one,.one] (zD2.con N):=ok2 (g:=zD2.cfg N) (N:=N) (res:=[(false,.imm)]) tys_ok (zD2.cons N) mixed Tryz.func100 (zD2.ls N) rfl (zD2.b N)
theorem zD2.det (N:Nat):ConDet (zD2.con N):=det2
def zB9.sk1:Skel:=⟨dd 1 (.pv (.int .i64)::(.ptr 50 []::(dd 18 []))),[⟨50,s25,.imm,true,false⟩]⟩
def zB9.xs1:List XS:=[⟨.exit 0,[1],⟨dd 1 (.pv (.int .i64)::(dd 19 [])),[]⟩⟩]
def zB9.con (N:Nat):Con:={ modes:=[.v,.v],ptrs:=[false],fn:=fn2 s25 .imm (.int .i64) .imm (zB9 N) (fun r=>[⟨(.int .i64),.imm,r⟩]) (fun r=>[]) }
def zB9.cfg (N:Nat):Cfg:={ ty:=tys,keep:=[],flt:=[],elm:=elm0,live:=[(1,[1,2,11,12,13,14,15,16])],ord:=[],con:=[],loops:=[(1,loopCon N zB9.sk1 zB9.xs1 (fun {R}=>zB9.l1 (R:=R) N))],joins:=[] }
theorem zB9.cons (N:Nat):ConsOk Tryz.prog (zB9.cfg N).con:=consOk_nil
theorem zB9.h1 {R:Type} (N:Nat) (d:zB9.sk1.D) (kn:zB9.sk1.D→Option R) (kx:XD zB9.xs1→Option R):roundK (zB9.cfg N) N (nthLoop (fnBody Tryz.f103) 0) zB9.sk1 zB9.xs1 d kn kx=zB9.l1 N d kn kx:=by kernel_rfl
theorem zB9.i1 (N:Nat):LoopsOk Tryz.prog (zB9.cfg N) (nthLoop (fnBody Tryz.f103) 0):=loopsL (l:=[]) (by kernel_rfl) trivial
theorem zB9.o1 (N:Nat):LoopOk Tryz.prog (nthLoop (fnBody Tryz.f103) 0) (loopCon N zB9.sk1 zB9.xs1 (fun {R}=>zB9.l1 (R:=R) N)):=loop_ok (g:=zB9.cfg N) tys_ok (zB9.cons N) mixed (zB9.i1 N) (fun d kn kx=>zB9.h1 N d kn kx)
theorem zB9.ls (N:Nat):LoopsOk Tryz.prog (zB9.cfg N) (fnBody Tryz.f103):=loopsL (l:=[nthLoop (fnBody Tryz.f103) 0]) (by kernel_rfl) ⟨loopOne (L0:=loopCon N zB9.sk1 zB9.xs1 (fun {R}=>zB9.l1 (R:=R) N)) (id:=1) (by kernel_rfl) (by kernel_rfl) (zB9.o1 N),trivial⟩
theorem zB9.q1 {R R':Type} {N n:Nat} {d} {k} {g:R→Option R'}:bindF (loopP (zB9.l1 N) n d k) g=loopP (zB9.l1 N) n d fun e=>bindF (k e) g:=bindF_loopP (fun d kn kx=>by simp only [zB9.l1,bindF_ifB,bindF_bindO,bindF_pure,bindF_none,bindF_onSum]) n d k
theorem zB9.b (N:Nat) (x0:den s25) (x1:den (.int .i64)):body (zB9.cfg N) N Tryz.f103 [.one,.one] [.v,.v] [(false,.imm)] [⟨s25,.imm,x0⟩,⟨(.int .i64),.imm,x1⟩] (fun r i=>some (r,i))=bindO (zB9 N x0 x1) fun r=>some ([⟨(.int .i64),.imm,r⟩],[]):=by
  show _=bindF _ _
  conv=>rhs;simp only [zB9,bindF_ifB,bindF_bindO,bindF_pure,bindF_none,bindF_onSum,zB9.q1]
  kernel_rfl
theorem zB9.ok (N:Nat):ConOk Tryz.prog 103 [.one,.one] (zB9.con N):=ok2 (g:=zB9.cfg N) (N:=N) (res:=[(false,.imm)]) tys_ok (zB9.cons N) mixed Tryz.func103 (zB9.ls N) rfl (zB9.b N)
theorem zB9.det (N:Nat):ConDet (zB9.con N):=det2
def zB7.sk5:Skel:=⟨dd 2 (.ptr 50 []::(.ptr 51 []::(dd 1 (.pv (.int .i64)::(.pv (.int .i64)::(dd 37 [])))))),[⟨50,s25,.imm,true,false⟩,⟨51,s54,.imm,true,false⟩]⟩
def zB7.xs5:List XS:=[⟨.exit 0,[2,3,6],⟨dd 2 (.ptr 50 []::(.ptr 51 []::(dd 2 (.pv (.int .i64)::(dd 37 []))))),[⟨50,s25,.imm,true,false⟩,⟨51,s54,.imm,true,false⟩]⟩⟩]
def zB7.con (N:Nat):Con:={ modes:=[.v,.v],ptrs:=[false],fn:=fn2 s25 .imm s54 .imm (zB7 N) (fun r=>[⟨(.int .i64),.imm,r⟩]) (fun r=>[]) }
def zB7.cfg (N:Nat):Cfg:={ ty:=tys,keep:=[9,14,16,17,24,28],flt:=[],elm:=elm0,live:=[(5,[2,3,5,6])],ord:=[(3,[0,1,2,3,4,5,6,7])],con:=[((15,[.one]),zBN.con N),((102,[.one]),zCR.con N),((101,[.one,.one]),zD1.con N),((100,[.one,.one]),zD2.con N),((103,[.one,.one]),zB9.con N)],loops:=[(5,loopCon N zB7.sk5 zB7.xs5 (fun {R}=>zB7.l5 (R:=R) N))],joins:=[] }
theorem zB7.cons (N:Nat):ConsOk Tryz.prog (zB7.cfg N).con:=(consOk_cons (hb15) (zBN.ok N) (zBN.det N) (consOk_cons (hb102) (zCR.ok N) (zCR.det N) (consOk_cons (hb101) (zD1.ok N) (zD1.det N) (consOk_cons (hb100) (zD2.ok N) (zD2.det N) (consOk_cons (hb103) (zB9.ok N) (zB9.det N) consOk_nil)))))
theorem zB7.h5 {R:Type} (N:Nat) (d:zB7.sk5.D) (kn:zB7.sk5.D→Option R) (kx:XD zB7.xs5→Option R):roundK (zB7.cfg N) N (nthLoop (fnBody Tryz.f84) 0) zB7.sk5 zB7.xs5 d kn kx=zB7.l5 N d kn kx:=by kernel_rfl
theorem zB7.i5 (N:Nat):LoopsOk Tryz.prog (zB7.cfg N) (nthLoop (fnBody Tryz.f84) 0):=loopsL (l:=[]) (by kernel_rfl) trivial
theorem zB7.o5 (N:Nat):LoopOk Tryz.prog (nthLoop (fnBody Tryz.f84) 0) (loopCon N zB7.sk5 zB7.xs5 (fun {R}=>zB7.l5 (R:=R) N)):=loop_ok (g:=zB7.cfg N) tys_ok (zB7.cons N) mixed (zB7.i5 N) (fun d kn kx=>zB7.h5 N d kn kx)
theorem zB7.ls (N:Nat):LoopsOk Tryz.prog (zB7.cfg N) (fnBody Tryz.f84):=loopsL (l:=[nthLoop (fnBody Tryz.f84) 0]) (by kernel_rfl) ⟨loopOne (L0:=loopCon N zB7.sk5 zB7.xs5 (fun {R}=>zB7.l5 (R:=R) N)) (id:=5) (by kernel_rfl) (by kernel_rfl) (zB7.o5 N),trivial⟩
theorem zB7.q5 {R R':Type} {N n:Nat} {d} {k} {g:R→Option R'}:bindF (loopP (zB7.l5 N) n d k) g=loopP (zB7.l5 N) n d fun e=>bindF (k e) g:=bindF_loopP (fun d kn kx=>by simp only [zB7.l5,bindF_ifB,bindF_bindO,bindF_pure,bindF_none,bindF_onSum]) n d k
theorem zB7.b (N:Nat) (x0:den s25) (x1:den s54):body (zB7.cfg N) N Tryz.f84 [.one,.one] [.v,.v] [(false,.imm)] [⟨s25,.imm,x0⟩,⟨s54,.imm,x1⟩] (fun r i=>some (r,i))=bindO (zB7 N x0 x1) fun r=>some ([⟨(.int .i64),.imm,r⟩],[]):=by
  show _=bindF _ _
  conv=>rhs;simp only [zB7,bindF_ifB,bindF_bindO,bindF_pure,bindF_none,bindF_onSum,zB7.q5]
  kernel_rfl
theorem zB7.ok (N:Nat):ConOk Tryz.prog 84 [.one,.one] (zB7.con N):=ok2 (g:=zB7.cfg N) (N:=N) (res:=[(false,.imm)]) tys_ok (zB7.cons N) mixed Tryz.func84 (zB7.ls N) rfl (zB7.b N)
theorem zB7.det (N:Nat):ConDet (zB7.con N):=det2
def zCY.con (N:Nat):Con:={ modes:=[.v],ptrs:=[false],fn:=fn1 (.int .i64) .imm (zCY N) (fun r=>[⟨(.int .i64),.imm,r⟩]) (fun r=>[]) }
def zCY.cfg (N:Nat):Cfg:={ ty:=tys,keep:=[4],flt:=[],elm:=elm0,live:=[],ord:=[],con:=[((53,[.one]),zC5.con N)],loops:=[],joins:=[] }
theorem zCY.cons (N:Nat):ConsOk Tryz.prog (zCY.cfg N).con:=(consOk_cons (hb53) (zC5.ok N) (zC5.det N) consOk_nil)
theorem zCY.ls (N:Nat):LoopsOk Tryz.prog (zCY.cfg N) (fnBody Tryz.f104):=loopsL (l:=[]) (by kernel_rfl) trivial
theorem zCY.b (N:Nat) (x0:den (.int .i64)):body (zCY.cfg N) N Tryz.f104 [.one] [.v] [(false,.imm)] [⟨(.int .i64),.imm,x0⟩] (fun r i=>some (r,i))=bindO (zCY N x0) fun r=>some ([⟨(.int .i64),.imm,r⟩],[]):=by
  show _=bindF _ _
  conv=>rhs;simp only [zCY,bindF_ifB,bindF_bindO,bindF_pure,bindF_none,bindF_onSum]
  kernel_rfl
theorem zCY.ok (N:Nat):ConOk Tryz.prog 104 [.one] (zCY.con N):=ok1 (g:=zCY.cfg N) (N:=N) (res:=[(false,.imm)]) tys_ok (zCY.cons N) mixed Tryz.func104 (zCY.ls N) rfl (zCY.b N)
theorem zCY.det (N:Nat):ConDet (zCY.con N):=det1
def zA5.sk8:Skel:=⟨dd 1 (.pv (.int .i64)::(dd 2 (.ptr 50 []::(dd 114 [])))),[⟨50,s25,.imm,true,false⟩]⟩
def zA5.xs8:List XS:=[⟨.exit 1,[1,4,45,46,47,48,49,50,51,52],⟨dd 1 (.pv (.int .i64)::(dd 2 (.ptr 50 []::(dd 114 [])))),[⟨50,s25,.imm,true,false⟩]⟩⟩]
def zA5.sk10:Skel:=⟨dd 1 (.pv (.int .i64)::(dd 2 (.ptr 50 []::(dd 114 [])))),[⟨50,s25,.imm,true,false⟩]⟩
def zA5.xs10:List XS:=[⟨.exit 3,[1],⟨dd 1 (.pv (.int .i64)::(dd 117 [])),[]⟩⟩]
def zA5.sk14:Skel:=⟨dd 1 (.pv (.int .i64)::(dd 2 (.ptr 50 []::(dd 4 (.pv (.int .i64)::(dd 109 [])))))),[⟨50,s25,.imm,true,false⟩]⟩
def zA5.xs14:List XS:=[⟨.exit 5,[1,4,9,77,78,79,80,81,82,83],⟨dd 1 (.pv (.int .i64)::(dd 2 (.ptr 50 []::(dd 4 (.pv (.int .i64)::(dd 109 [])))))),[⟨50,s25,.imm,true,false⟩]⟩⟩]
def zA5.sk16:Skel:=⟨dd 1 (.pv (.int .i64)::(dd 2 (.ptr 50 []::(dd 4 (.pv (.int .i64)::(dd 109 [])))))),[⟨50,s25,.imm,true,false⟩]⟩
def zA5.xs16:List XS:=[⟨.exit 7,[1],⟨dd 1 (.pv (.int .i64)::(dd 117 [])),[]⟩⟩]
def zA5.sk28:Skel:=⟨dd 1 (.pv (.int .i64)::(dd 1 (.pv (.int .i64)::(.ptr 50 []::(dd 4 (.pv (.int .i64)::(.pv (.int .i64)::(dd 108 [])))))))),[⟨50,s25,.imm,true,false⟩]⟩
def zA5.xs28:List XS:=[⟨.exit 9,[1],⟨dd 1 (.pv (.int .i64)::(dd 117 [])),[]⟩⟩,⟨.ret,[8],⟨dd 8 (.pv (.int .i64)::(dd 110 [])),[]⟩⟩]
def zA5.con (N:Nat):Con:={ modes:=[.v,.v,.v,.v],ptrs:=[false],fn:=fn4 s25 .imm (.int .i64) .imm (.int .i64) .imm (.int .i64) .imm (zA5 N) (fun r=>[⟨(.int .i64),.imm,r⟩]) (fun r=>[]) }
def zA5.cfg (N:Nat):Cfg:={ ty:=tys,keep:=[19,25,37,51,68,82,92,97],flt:=[],elm:=elm0,live:=[(28,[1,3,4,9,10]),(10,[1,4,45,46,47,48,49,50,51,52]),(8,[1,4,31,32,33,34,35,36,37,38,45,46,47,48,49,50,51,52]),(16,[1,4,9,77,78,79,80,81,82,83]),(14,[1,4,9,63,64,65,66,67,68,69,77,78,79,80,81,82,83])],ord:=[],con:=[((100,[.one,.one]),zD2.con N),((101,[.one,.one]),zD1.con N),((104,[.one]),zCY.con N),((99,[.one,.one]),zB1.con N),((103,[.one,.one]),zB9.con N)],loops:=[(8,loopCon N zA5.sk8 zA5.xs8 (fun {R}=>zA5.l8 (R:=R) N)),(10,loopCon N zA5.sk10 zA5.xs10 (fun {R}=>zA5.l10 (R:=R) N)),(14,loopCon N zA5.sk14 zA5.xs14 (fun {R}=>zA5.l14 (R:=R) N)),(16,loopCon N zA5.sk16 zA5.xs16 (fun {R}=>zA5.l16 (R:=R) N)),(28,loopCon N zA5.sk28 zA5.xs28 (fun {R}=>zA5.l28 (R:=R) N))],joins:=[] }
theorem zA5.cons (N:Nat):ConsOk Tryz.prog (zA5.cfg N).con:=(consOk_cons (hb100) (zD2.ok N) (zD2.det N) (consOk_cons (hb101) (zD1.ok N) (zD1.det N) (consOk_cons (hb104) (zCY.ok N) (zCY.det N) (consOk_cons (hb99) (zB1.ok N) (zB1.det N) (consOk_cons (hb103) (zB9.ok N) (zB9.det N) consOk_nil)))))
theorem zA5.h28 {R:Type} (N:Nat) (d:zA5.sk28.D) (kn:zA5.sk28.D→Option R) (kx:XD zA5.xs28→Option R):roundK (zA5.cfg N) N (nthLoop (fnBody Tryz.f85) 4) zA5.sk28 zA5.xs28 d kn kx=zA5.l28 N d kn kx:=by kernel_rfl
theorem zA5.i28 (N:Nat):LoopsOk Tryz.prog (zA5.cfg N) (nthLoop (fnBody Tryz.f85) 4):=loopsL (l:=[]) (by kernel_rfl) trivial
theorem zA5.o28 (N:Nat):LoopOk Tryz.prog (nthLoop (fnBody Tryz.f85) 4) (loopCon N zA5.sk28 zA5.xs28 (fun {R}=>zA5.l28 (R:=R) N)):=loop_ok (g:=zA5.cfg N) tys_ok (zA5.cons N) mixed (zA5.i28 N) (fun d kn kx=>zA5.h28 N d kn kx)
theorem zA5.h16 {R:Type} (N:Nat) (d:zA5.sk16.D) (kn:zA5.sk16.D→Option R) (kx:XD zA5.xs16→Option R):roundK (zA5.cfg N) N (nthLoop (fnBody Tryz.f85) 3) zA5.sk16 zA5.xs16 d kn kx=zA5.l16 N d kn kx:=by kernel_rfl
theorem zA5.i16 (N:Nat):LoopsOk Tryz.prog (zA5.cfg N) (nthLoop (fnBody Tryz.f85) 3):=loopsL (l:=[]) (by kernel_rfl) trivial
theorem zA5.o16 (N:Nat):LoopOk Tryz.prog (nthLoop (fnBody Tryz.f85) 3) (loopCon N zA5.sk16 zA5.xs16 (fun {R}=>zA5.l16 (R:=R) N)):=loop_ok (g:=zA5.cfg N) tys_ok (zA5.cons N) mixed (zA5.i16 N) (fun d kn kx=>zA5.h16 N d kn kx)
theorem zA5.h14 {R:Type} (N:Nat) (d:zA5.sk14.D) (kn:zA5.sk14.D→Option R) (kx:XD zA5.xs14→Option R):roundK (zA5.cfg N) N (nthLoop (fnBody Tryz.f85) 2) zA5.sk14 zA5.xs14 d kn kx=zA5.l14 N d kn kx:=by kernel_rfl
theorem zA5.i14 (N:Nat):LoopsOk Tryz.prog (zA5.cfg N) (nthLoop (fnBody Tryz.f85) 2):=loopsL (l:=[]) (by kernel_rfl) trivial
theorem zA5.o14 (N:Nat):LoopOk Tryz.prog (nthLoop (fnBody Tryz.f85) 2) (loopCon N zA5.sk14 zA5.xs14 (fun {R}=>zA5.l14 (R:=R) N)):=loop_ok (g:=zA5.cfg N) tys_ok (zA5.cons N) mixed (zA5.i14 N) (fun d kn kx=>zA5.h14 N d kn kx)
theorem zA5.h10 {R:Type} (N:Nat) (d:zA5.sk10.D) (kn:zA5.sk10.D→Option R) (kx:XD zA5.xs10→Option R):roundK (zA5.cfg N) N (nthLoop (fnBody Tryz.f85) 1) zA5.sk10 zA5.xs10 d kn kx=zA5.l10 N d kn kx:=by kernel_rfl
theorem zA5.i10 (N:Nat):LoopsOk Tryz.prog (zA5.cfg N) (nthLoop (fnBody Tryz.f85) 1):=loopsL (l:=[]) (by kernel_rfl) trivial
theorem zA5.o10 (N:Nat):LoopOk Tryz.prog (nthLoop (fnBody Tryz.f85) 1) (loopCon N zA5.sk10 zA5.xs10 (fun {R}=>zA5.l10 (R:=R) N)):=loop_ok (g:=zA5.cfg N) tys_ok (zA5.cons N) mixed (zA5.i10 N) (fun d kn kx=>zA5.h10 N d kn kx)
theorem zA5.h8 {R:Type} (N:Nat) (d:zA5.sk8.D) (kn:zA5.sk8.D→Option R) (kx:XD zA5.xs8→Option R):roundK (zA5.cfg N) N (nthLoop (fnBody Tryz.f85) 0) zA5.sk8 zA5.xs8 d kn kx=zA5.l8 N d kn kx:=by kernel_rfl
theorem zA5.i8 (N:Nat):LoopsOk Tryz.prog (zA5.cfg N) (nthLoop (fnBody Tryz.f85) 0):=loopsL (l:=[]) (by kernel_rfl) trivial
theorem zA5.o8 (N:Nat):LoopOk Tryz.prog (nthLoop (fnBody Tryz.f85) 0) (loopCon N zA5.sk8 zA5.xs8 (fun {R}=>zA5.l8 (R:=R) N)):=loop_ok (g:=zA5.cfg N) tys_ok (zA5.cons N) mixed (zA5.i8 N) (fun d kn kx=>zA5.h8 N d kn kx)
theorem zA5.ls (N:Nat):LoopsOk Tryz.prog (zA5.cfg N) (fnBody Tryz.f85):=loopsL (l:=[nthLoop (fnBody Tryz.f85) 0,nthLoop (fnBody Tryz.f85) 1,nthLoop (fnBody Tryz.f85) 2,nthLoop (fnBody Tryz.f85) 3,nthLoop (fnBody Tryz.f85) 4]) (by kernel_rfl) ⟨loopOne (L0:=loopCon N zA5.sk8 zA5.xs8 (fun {R}=>zA5.l8 (R:=R) N)) (id:=8) (by kernel_rfl) (by kernel_rfl) (zA5.o8 N),⟨loopOne (L0:=loopCon N zA5.sk10 zA5.xs10 (fun {R}=>zA5.l10 (R:=R) N)) (id:=10) (by kernel_rfl) (by kernel_rfl) (zA5.o10 N),⟨loopOne (L0:=loopCon N zA5.sk14 zA5.xs14 (fun {R}=>zA5.l14 (R:=R) N)) (id:=14) (by kernel_rfl) (by kernel_rfl) (zA5.o14 N),⟨loopOne (L0:=loopCon N zA5.sk16 zA5.xs16 (fun {R}=>zA5.l16 (R:=R) N)) (id:=16) (by kernel_rfl) (by kernel_rfl) (zA5.o16 N),⟨loopOne (L0:=loopCon N zA5.sk28 zA5.xs28 (fun {R}=>zA5.l28 (R:=R) N)) (id:=28) (by kernel_rfl) (by kernel_rfl) (zA5.o28 N),trivial⟩⟩⟩⟩⟩
theorem zA5.q28 {R R':Type} {N n:Nat} {d} {k} {g:R→Option R'}:bindF (loopP (zA5.l28 N) n d k) g=loopP (zA5.l28 N) n d fun e=>bindF (k e) g:=bindF_loopP (fun d kn kx=>by simp only [zA5.l28,bindF_ifB,bindF_bindO,bindF_pure,bindF_none,bindF_onSum]) n d k
theorem zA5.q16 {R R':Type} {N n:Nat} {d} {k} {g:R→Option R'}:bindF (loopP (zA5.l16 N) n d k) g=loopP (zA5.l16 N) n d fun e=>bindF (k e) g:=bindF_loopP (fun d kn kx=>by simp only [zA5.l16,bindF_ifB,bindF_bindO,bindF_pure,bindF_none,bindF_onSum]) n d k
theorem zA5.q14 {R R':Type} {N n:Nat} {d} {k} {g:R→Option R'}:bindF (loopP (zA5.l14 N) n d k) g=loopP (zA5.l14 N) n d fun e=>bindF (k e) g:=bindF_loopP (fun d kn kx=>by simp only [zA5.l14,bindF_ifB,bindF_bindO,bindF_pure,bindF_none,bindF_onSum]) n d k
theorem zA5.q10 {R R':Type} {N n:Nat} {d} {k} {g:R→Option R'}:bindF (loopP (zA5.l10 N) n d k) g=loopP (zA5.l10 N) n d fun e=>bindF (k e) g:=bindF_loopP (fun d kn kx=>by simp only [zA5.l10,bindF_ifB,bindF_bindO,bindF_pure,bindF_none,bindF_onSum]) n d k
theorem zA5.q8 {R R':Type} {N n:Nat} {d} {k} {g:R→Option R'}:bindF (loopP (zA5.l8 N) n d k) g=loopP (zA5.l8 N) n d fun e=>bindF (k e) g:=bindF_loopP (fun d kn kx=>by simp only [zA5.l8,bindF_ifB,bindF_bindO,bindF_pure,bindF_none,bindF_onSum]) n d k
theorem zA5.b (N:Nat) (x0:den s25) (x1:den (.int .i64)) (x2:den (.int .i64)) (x3:den (.int .i64)):body (zA5.cfg N) N Tryz.f85 [.one,.one,.one,.one] [.v,.v,.v,.v] [(false,.imm)] [⟨s25,.imm,x0⟩,⟨(.int .i64),.imm,x1⟩,⟨(.int .i64),.imm,x2⟩,⟨(.int .i64),.imm,x3⟩] (fun r i=>some (r,i))=bindO (zA5 N x0 x1 x2 x3) fun r=>some ([⟨(.int .i64),.imm,r⟩],[]):=by
  show _=bindF _ _
  conv=>rhs;simp only [zA5,bindF_ifB,bindF_bindO,bindF_pure,bindF_none,bindF_onSum,zA5.q8,zA5.q10,zA5.q14,zA5.q16,zA5.q28]
  kernel_rfl
theorem zA5.ok (N:Nat):ConOk Tryz.prog 85 [.one,.one,.one,.one] (zA5.con N):=ok4 (g:=zA5.cfg N) (N:=N) (res:=[(false,.imm)]) tys_ok (zA5.cons N) mixed Tryz.func85 (zA5.ls N) rfl (zA5.b N)
theorem zA5.det (N:Nat):ConDet (zA5.con N):=det4
def zBH.sk10:Skel:=⟨dd 1 (.pv (.int .i64)::(.pv (.int .i64)::(.pv (.int .i64)::(.ptr 50 []::(dd 5 (.pv (.int .i64)::(dd 56 []))))))),[⟨50,s25,.imm,true,false⟩]⟩
def zBH.xs10:List XS:=[⟨.exit 0,[10],⟨dd 10 (.pv (.int .i64)::(dd 56 [])),[]⟩⟩]
def zBH.con (N:Nat):Con:={ modes:=[.v,.v,.v,.v],ptrs:=[false],fn:=fn4 s25 .imm (.int .i64) .imm (.int .i64) .imm (.int .i64) .imm (zBH N) (fun r=>[⟨(.int .i64),.imm,r⟩]) (fun r=>[]) }
def zBH.cfg (N:Nat):Cfg:={ ty:=tys,keep:=[12,39,54,65],flt:=[],elm:=elm0,live:=[(10,[1,2,3,4,10])],ord:=[],con:=[((15,[.one]),zBN.con N),((83,[.one,.one]),zB3.con N),((84,[.one,.one]),zB7.con N),((85,[.one,.one,.one,.one]),zA5.con N)],loops:=[(10,loopCon N zBH.sk10 zBH.xs10 (fun {R}=>zBH.l10 (R:=R) N))],joins:=[] }
theorem zBH.cons (N:Nat):ConsOk Tryz.prog (zBH.cfg N).con:=(consOk_cons (hb15) (zBN.ok N) (zBN.det N) (consOk_cons (hb83) (zB3.ok N) (zB3.det N) (consOk_cons (hb84) (zB7.ok N) (zB7.det N) (consOk_cons (hb85) (zA5.ok N) (zA5.det N) consOk_nil))))
theorem zBH.h10 {R:Type} (N:Nat) (d:zBH.sk10.D) (kn:zBH.sk10.D→Option R) (kx:XD zBH.xs10→Option R):roundK (zBH.cfg N) N (nthLoop (fnBody Tryz.f59) 0) zBH.sk10 zBH.xs10 d kn kx=zBH.l10 N d kn kx:=by kernel_rfl
theorem zBH.i10 (N:Nat):LoopsOk Tryz.prog (zBH.cfg N) (nthLoop (fnBody Tryz.f59) 0):=loopsL (l:=[]) (by kernel_rfl) trivial
theorem zBH.o10 (N:Nat):LoopOk Tryz.prog (nthLoop (fnBody Tryz.f59) 0) (loopCon N zBH.sk10 zBH.xs10 (fun {R}=>zBH.l10 (R:=R) N)):=loop_ok (g:=zBH.cfg N) tys_ok (zBH.cons N) mixed (zBH.i10 N) (fun d kn kx=>zBH.h10 N d kn kx)
theorem zBH.ls (N:Nat):LoopsOk Tryz.prog (zBH.cfg N) (fnBody Tryz.f59):=loopsL (l:=[nthLoop (fnBody Tryz.f59) 0]) (by kernel_rfl) ⟨loopOne (L0:=loopCon N zBH.sk10 zBH.xs10 (fun {R}=>zBH.l10 (R:=R) N)) (id:=10) (by kernel_rfl) (by kernel_rfl) (zBH.o10 N),trivial⟩
theorem zBH.q10 {R R':Type} {N n:Nat} {d} {k} {g:R→Option R'}:bindF (loopP (zBH.l10 N) n d k) g=loopP (zBH.l10 N) n d fun e=>bindF (k e) g:=bindF_loopP (fun d kn kx=>by simp only [zBH.l10,bindF_ifB,bindF_bindO,bindF_pure,bindF_none,bindF_onSum]) n d k
theorem zBH.b (N:Nat) (x0:den s25) (x1:den (.int .i64)) (x2:den (.int .i64)) (x3:den (.int .i64)):body (zBH.cfg N) N Tryz.f59 [.one,.one,.one,.one] [.v,.v,.v,.v] [(false,.imm)] [⟨s25,.imm,x0⟩,⟨(.int .i64),.imm,x1⟩,⟨(.int .i64),.imm,x2⟩,⟨(.int .i64),.imm,x3⟩] (fun r i=>some (r,i))=bindO (zBH N x0 x1 x2 x3) fun r=>some ([⟨(.int .i64),.imm,r⟩],[]):=by
  show _=bindF _ _
  conv=>rhs;simp only [zBH,bindF_ifB,bindF_bindO,bindF_pure,bindF_none,bindF_onSum,zBH.q10]
  kernel_rfl
theorem zBH.ok (N:Nat):ConOk Tryz.prog 59 [.one,.one,.one,.one] (zBH.con N):=ok4 (g:=zBH.cfg N) (N:=N) (res:=[(false,.imm)]) tys_ok (zBH.cons N) mixed Tryz.func59 (zBH.ls N) rfl (zBH.b N)
theorem zBH.det (N:Nat):ConDet (zBH.con N):=det4
end Go.AE.F
end
