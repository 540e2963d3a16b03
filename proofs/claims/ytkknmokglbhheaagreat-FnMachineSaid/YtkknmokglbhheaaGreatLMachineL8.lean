/- The printed functions are what the program comes to: contracts. -/
import Derived.Test.YtkknmokglbhheaaGreatLMachineL7
noncomputable section
namespace Go.AE.F
open Go.AE Go.Proofs
set_option maxRecDepth 100000
def zCB.con (N:Nat):Con:={ modes:=[.v,.rd,.rd,.rd],ptrs:=[false],fn:=fn4 (.int .i64) .imm (.int .i64) .imm (.int .i64) .imm (.int .i64) .imm (zCB N) (fun r=>[⟨(.int .i64),.imm,r⟩]) (fun r=>[]) }
def zCB.cfg (N:Nat):Cfg:={ ty:=tys,keep:=[],flt:=[],elm:=elm0,live:=[],ord:=[],con:=[],loops:=[],joins:=[] }
theorem zCB.cons (N:Nat):ConsOk Tryz.prog (zCB.cfg N).con:=consOk_nil
theorem zCB.ls (N:Nat):LoopsOk Tryz.prog (zCB.cfg N) (fnBody Tryz.f107):=loopsL (l:=[]) (by kernel_rfl) trivial
theorem zCB.b (N:Nat) (x0:den (.int .i64)) (x1:den (.int .i64)) (x2:den (.int .i64)) (x3:den (.int .i64)):body (zCB.cfg N) N Tryz.f107 [.one] [.v,.rd,.rd,.rd] [(false,.imm)] [⟨(.int .i64),.imm,x0⟩,⟨(.int .i64),.imm,x1⟩,⟨(.int .i64),.imm,x2⟩,⟨(.int .i64),.imm,x3⟩] (fun r i=>some (r,i))=bindO (zCB N x0 x1 x2 x3) fun r=>some ([⟨(.int .i64),.imm,r⟩],[]):=by
  show _=bindF _ _
  conv=>rhs;simp only [zCB,bindF_ifB,bindF_bindO,bindF_pure,bindF_none,bindF_onSum]
  kernel_rfl
theorem zCB.ok (N:Nat):ConOk Tryz.prog 107 [.one] (zCB.con N):=ok4 (g:=zCB.cfg N) (N:=N) (res:=[(false,.imm)]) tys_ok (zCB.cons N) mixed Tryz.func107 (zCB.ls N) rfl (zCB.b N)
theorem zCB.det (N:Nat):ConDet (zCB.con N):=det4
def zCW.con (N:Nat):Con:={ modes:=[.v,.v,.v,.v],ptrs:=[false],fn:=fn4 s25 .imm (.int .i64) .imm (.int .i64) .imm s24 .imm (zCW N) (fun r=>[⟨s99,(.pr (.pr (.own .imm) .imm) (.pr (.own .imm) .imm)),r⟩]) (fun r=>[]) }
def zCW.cfg (N:Nat):Cfg:={ ty:=tys,keep:=[23,28,35,51,55,59,72,81],flt:=[],elm:=elm0,live:=[],ord:=[(1,[0,1,2,3,4,5,6,7,8,9,10,11,12,13]),(3,[6,0,2,3,4,1,5,7]),(4,[0,1,3,2,4,5]),(7,[20,0,1,2,3,4,5,6,7,8,11,12,13,15,16,17,9,10,14,18,19,21]),(9,[0,1,2,3,4,5]),(10,[0,1,2,3,4,5,6,7,8])],con:=[((45,[.one]),zAR.con N),((108,[.one]),zA2.con N),((107,[.one]),zCB.con N),((61,[.one]),zAO.con N)],loops:=[],joins:=[] }
theorem zCW.cons (N:Nat):ConsOk Tryz.prog (zCW.cfg N).con:=(consOk_cons (hb45) (zAR.ok N) (zAR.det N) (consOk_cons (hb108) (zA2.ok N) (zA2.det N) (consOk_cons (hb107) (zCB.ok N) (zCB.det N) (consOk_cons (hb61) (zAO.ok N) (zAO.det N) consOk_nil))))
theorem zCW.ls (N:Nat):LoopsOk Tryz.prog (zCW.cfg N) (fnBody Tryz.f91):=loopsL (l:=[]) (by kernel_rfl) trivial
theorem zCW.b (N:Nat) (x0:den s25) (x1:den (.int .i64)) (x2:den (.int .i64)) (x3:den s24):body (zCW.cfg N) N Tryz.f91 [.one,.one,.one,.one] [.v,.v,.v,.v] [(false,(.pr (.pr (.own .imm) .imm) (.pr (.own .imm) .imm)))] [⟨s25,.imm,x0⟩,⟨(.int .i64),.imm,x1⟩,⟨(.int .i64),.imm,x2⟩,⟨s24,.imm,x3⟩] (fun r i=>some (r,i))=bindO (zCW N x0 x1 x2 x3) fun r=>some ([⟨s99,(.pr (.pr (.own .imm) .imm) (.pr (.own .imm) .imm)),r⟩],[]):=by
  show _=bindF _ _
  conv=>rhs;simp only [zCW,bindF_ifB,bindF_bindO,bindF_pure,bindF_none,bindF_onSum]
  kernel_rfl
theorem zCW.ok (N:Nat):ConOk Tryz.prog 91 [.one,.one,.one,.one] (zCW.con N):=ok4 (g:=zCW.cfg N) (N:=N) (res:=[(false,(.pr (.pr (.own .imm) .imm) (.pr (.own .imm) .imm)))]) tys_ok (zCW.cons N) mixed Tryz.func91 (zCW.ls N) rfl (zCW.b N)
theorem zCW.det (N:Nat):ConDet (zCW.con N):=det4
def zC4.con (N:Nat):Con:={ modes:=[.io,.v],ptrs:=[],fn:=fn2 s29 .imm s99 .imm (zC4 N) (fun r=>[]) (fun r=>[⟨s29,.imm,r⟩]) }
def zC4.cfg (N:Nat):Cfg:={ ty:=tys,keep:=[],flt:=[],elm:=elm0,live:=[],ord:=[],con:=[],loops:=[],joins:=[] }
theorem zC4.cons (N:Nat):ConsOk Tryz.prog (zC4.cfg N).con:=consOk_nil
theorem zC4.ls (N:Nat):LoopsOk Tryz.prog (zC4.cfg N) (fnBody Tryz.f90):=loopsL (l:=[]) (by kernel_rfl) trivial
theorem zC4.b (N:Nat) (x0:den s29) (x1:den s99):body (zC4.cfg N) N Tryz.f90 [.one,.one] [.io,.v] [] [⟨s29,.imm,x0⟩,⟨s99,.imm,x1⟩] (fun r i=>some (r,i))=bindO (zC4 N x0 x1) fun r=>some ([],[⟨s29,.imm,r⟩]):=by
  show _=bindF _ _
  conv=>rhs;simp only [zC4,bindF_ifB,bindF_bindO,bindF_pure,bindF_none,bindF_onSum]
  kernel_rfl
theorem zC4.ok (N:Nat):ConOk Tryz.prog 90 [.one,.one] (zC4.con N):=ok2 (g:=zC4.cfg N) (N:=N) (res:=[]) tys_ok (zC4.cons N) mixed Tryz.func90 (zC4.ls N) rfl (zC4.b N)
theorem zC4.det (N:Nat):ConDet (zC4.con N):=det2
def zBQ.con (N:Nat):Con:={ modes:=[.io,.v],ptrs:=[],fn:=fn2 s29 .imm (.int .i64) .imm (zBQ N) (fun r=>[]) (fun r=>[⟨s29,.imm,r⟩]) }
def zBQ.cfg (N:Nat):Cfg:={ ty:=tys,keep:=[5,27,28],flt:=[],elm:=elm0,live:=[],ord:=[(2,[0,1,2,3,4,5,6,7,8,9,10,11,12,13,14,15,16,17,18])],con:=[((44,[.one]),zCH.con N),((91,[.one,.one,.one,.one]),zCW.con N),((90,[.one,.one]),zC4.con N)],loops:=[],joins:=[] }
theorem zBQ.cons (N:Nat):ConsOk Tryz.prog (zBQ.cfg N).con:=(consOk_cons (hb44) (zCH.ok N) (zCH.det N) (consOk_cons (hb91) (zCW.ok N) (zCW.det N) (consOk_cons (hb90) (zC4.ok N) (zC4.det N) consOk_nil)))
theorem zBQ.ls (N:Nat):LoopsOk Tryz.prog (zBQ.cfg N) (fnBody Tryz.f69):=loopsL (l:=[]) (by kernel_rfl) trivial
theorem zBQ.b (N:Nat) (x0:den s29) (x1:den (.int .i64)):body (zBQ.cfg N) N Tryz.f69 [.one,.one] [.io,.v] [] [⟨s29,.imm,x0⟩,⟨(.int .i64),.imm,x1⟩] (fun r i=>some (r,i))=bindO (zBQ N x0 x1) fun r=>some ([],[⟨s29,.imm,r⟩]):=by
  show _=bindF _ _
  conv=>rhs;simp only [zBQ,bindF_ifB,bindF_bindO,bindF_pure,bindF_none,bindF_onSum]
  kernel_rfl
theorem zBQ.ok (N:Nat):ConOk Tryz.prog 69 [.one,.one] (zBQ.con N):=ok2 (g:=zBQ.cfg N) (N:=N) (res:=[]) tys_ok (zBQ.cons N) mixed Tryz.func69 (zBQ.ls N) rfl (zBQ.b N)
theorem zBQ.det (N:Nat):ConDet (zBQ.con N):=det2
def zBR.con (N:Nat):Con:={ modes:=[.io,.v,.v],ptrs:=[],fn:=fn3 s29 .imm (.int .i64) .imm (.int .i64) .imm (zBR N) (fun r=>[]) (fun r=>[⟨s29,.imm,r⟩]) }
def zBR.cfg (N:Nat):Cfg:={ ty:=tys,keep:=[13,14],flt:=[],elm:=elm0,live:=[],ord:=[],con:=[((91,[.one,.one,.one,.one]),zCW.con N),((90,[.one,.one]),zC4.con N)],loops:=[],joins:=[] }
theorem zBR.cons (N:Nat):ConsOk Tryz.prog (zBR.cfg N).con:=(consOk_cons (hb91) (zCW.ok N) (zCW.det N) (consOk_cons (hb90) (zC4.ok N) (zC4.det N) consOk_nil))
theorem zBR.ls (N:Nat):LoopsOk Tryz.prog (zBR.cfg N) (fnBody Tryz.f70):=loopsL (l:=[]) (by kernel_rfl) trivial
theorem zBR.b (N:Nat) (x0:den s29) (x1:den (.int .i64)) (x2:den (.int .i64)):body (zBR.cfg N) N Tryz.f70 [.one,.one,.one] [.io,.v,.v] [] [⟨s29,.imm,x0⟩,⟨(.int .i64),.imm,x1⟩,⟨(.int .i64),.imm,x2⟩] (fun r i=>some (r,i))=bindO (zBR N x0 x1 x2) fun r=>some ([],[⟨s29,.imm,r⟩]):=by
  show _=bindF _ _
  conv=>rhs;simp only [zBR,bindF_ifB,bindF_bindO,bindF_pure,bindF_none,bindF_onSum]
  kernel_rfl
theorem zBR.ok (N:Nat):ConOk Tryz.prog 70 [.one,.one,.one] (zBR.con N):=ok3 (g:=zBR.cfg N) (N:=N) (res:=[]) tys_ok (zBR.cons N) mixed Tryz.func70 (zBR.ls N) rfl (zBR.b N)
theorem zBR.det (N:Nat):ConDet (zBR.con N):=det3
def zC0.con (N:Nat):Con:={ modes:=[.io,.v],ptrs:=[],fn:=fn2 s29 .imm (.int .i64) .imm (zC0 N) (fun r=>[]) (fun r=>[⟨s29,.imm,r⟩]) }
def zC0.cfg (N:Nat):Cfg:={ ty:=tys,keep:=[8],flt:=[],elm:=elm0,live:=[],ord:=[],con:=[((20,[.one,.one]),zBK.con N)],loops:=[],joins:=[] }
theorem zC0.cons (N:Nat):ConsOk Tryz.prog (zC0.cfg N).con:=(consOk_cons (hb20) (zBK.ok N) (zBK.det N) consOk_nil)
theorem zC0.ls (N:Nat):LoopsOk Tryz.prog (zC0.cfg N) (fnBody Tryz.f71):=loopsL (l:=[]) (by kernel_rfl) trivial
theorem zC0.b (N:Nat) (x0:den s29) (x1:den (.int .i64)):body (zC0.cfg N) N Tryz.f71 [.one,.one] [.io,.v] [] [⟨s29,.imm,x0⟩,⟨(.int .i64),.imm,x1⟩] (fun r i=>some (r,i))=bindO (zC0 N x0 x1) fun r=>some ([],[⟨s29,.imm,r⟩]):=by
  show _=bindF _ _
  conv=>rhs;simp only [zC0,bindF_ifB,bindF_bindO,bindF_pure,bindF_none,bindF_onSum]
  kernel_rfl
theorem zC0.ok (N:Nat):ConOk Tryz.prog 71 [.one,.one] (zC0.con N):=ok2 (g:=zC0.cfg N) (N:=N) (res:=[]) tys_ok (zC0.cons N) mixed Tryz.func71 (zC0.ls N) rfl (zC0.b N)
theorem zC0.det (N:Nat):ConDet (zC0.con N):=det2
def zBP.con (N:Nat):Con:={ modes:=[.io,.v],ptrs:=[],fn:=fn2 s29 .imm (.int .i64) .imm (zBP N) (fun r=>[]) (fun r=>[⟨s29,.imm,r⟩]) }
def zBP.cfg (N:Nat):Cfg:={ ty:=tys,keep:=[8],flt:=[],elm:=elm0,live:=[],ord:=[],con:=[((20,[.one,.one]),zBK.con N)],loops:=[],joins:=[] }
theorem zBP.cons (N:Nat):ConsOk Tryz.prog (zBP.cfg N).con:=(consOk_cons (hb20) (zBK.ok N) (zBK.det N) consOk_nil)
theorem zBP.ls (N:Nat):LoopsOk Tryz.prog (zBP.cfg N) (fnBody Tryz.f72):=loopsL (l:=[]) (by kernel_rfl) trivial
theorem zBP.b (N:Nat) (x0:den s29) (x1:den (.int .i64)):body (zBP.cfg N) N Tryz.f72 [.one,.one] [.io,.v] [] [⟨s29,.imm,x0⟩,⟨(.int .i64),.imm,x1⟩] (fun r i=>some (r,i))=bindO (zBP N x0 x1) fun r=>some ([],[⟨s29,.imm,r⟩]):=by
  show _=bindF _ _
  conv=>rhs;simp only [zBP,bindF_ifB,bindF_bindO,bindF_pure,bindF_none,bindF_onSum]
  kernel_rfl
theorem zBP.ok (N:Nat):ConOk Tryz.prog 72 [.one,.one] (zBP.con N):=ok2 (g:=zBP.cfg N) (N:=N) (res:=[]) tys_ok (zBP.cons N) mixed Tryz.func72 (zBP.ls N) rfl (zBP.b N)
theorem zBP.det (N:Nat):ConDet (zBP.con N):=det2
def zD5.con (N:Nat):Con:={ modes:=[.v],ptrs:=[false],fn:=fn1 (.int .i64) .imm (zD5 N) (fun r=>[⟨(.int .i64),.imm,r⟩]) (fun r=>[]) }
def zD5.cfg (N:Nat):Cfg:={ ty:=tys,keep:=[5,20,23,27],flt:=[],elm:=elm0,live:=[],ord:=[],con:=[((44,[.one]),zCH.con N),((37,[.one,.one,.one]),zB5.con N)],loops:=[],joins:=[] }
theorem zD5.cons (N:Nat):ConsOk Tryz.prog (zD5.cfg N).con:=(consOk_cons (hb44) (zCH.ok N) (zCH.det N) (consOk_cons (hb37) (zB5.ok N) (zB5.det N) consOk_nil))
theorem zD5.ls (N:Nat):LoopsOk Tryz.prog (zD5.cfg N) (fnBody Tryz.f127):=loopsL (l:=[]) (by kernel_rfl) trivial
theorem zD5.b (N:Nat) (x0:den (.int .i64)):body (zD5.cfg N) N Tryz.f127 [.one] [.v] [(false,.imm)] [⟨(.int .i64),.imm,x0⟩] (fun r i=>some (r,i))=bindO (zD5 N x0) fun r=>some ([⟨(.int .i64),.imm,r⟩],[]):=by
  show _=bindF _ _
  conv=>rhs;simp only [zD5,bindF_ifB,bindF_bindO,bindF_pure,bindF_none,bindF_onSum]
  kernel_rfl
theorem zD5.ok (N:Nat):ConOk Tryz.prog 127 [.one] (zD5.con N):=ok1 (g:=zD5.cfg N) (N:=N) (res:=[(false,.imm)]) tys_ok (zD5.cons N) mixed Tryz.func127 (zD5.ls N) rfl (zD5.b N)
theorem zD5.det (N:Nat):ConDet (zD5.con N):=det1
def zBZ.con (N:Nat):Con:={ modes:=[.rd,.v],ptrs:=[false],fn:=fn2 s25 .imm (.int .i64) .imm (zBZ N) (fun r=>[⟨.bool,.imm,r⟩]) (fun r=>[]) }
def zBZ.cfg (N:Nat):Cfg:={ ty:=tys,keep:=[12],flt:=[],elm:=elm0,live:=[],ord:=[],con:=[((127,[.one]),zD5.con N)],loops:=[],joins:=[] }
theorem zBZ.cons (N:Nat):ConsOk Tryz.prog (zBZ.cfg N).con:=(consOk_cons (hb127) (zD5.ok N) (zD5.det N) consOk_nil)
theorem zBZ.ls (N:Nat):LoopsOk Tryz.prog (zBZ.cfg N) (fnBody Tryz.f124):=loopsL (l:=[]) (by kernel_rfl) trivial
theorem zBZ.b (N:Nat) (x0:den s25) (x1:den (.int .i64)):body (zBZ.cfg N) N Tryz.f124 [.one,.one] [.rd,.v] [(false,.imm)] [⟨s25,.imm,x0⟩,⟨(.int .i64),.imm,x1⟩] (fun r i=>some (r,i))=bindO (zBZ N x0 x1) fun r=>some ([⟨.bool,.imm,r⟩],[]):=by
  show _=bindF _ _
  conv=>rhs;simp only [zBZ,bindF_ifB,bindF_bindO,bindF_pure,bindF_none,bindF_onSum]
  kernel_rfl
theorem zBZ.ok (N:Nat):ConOk Tryz.prog 124 [.one,.one] (zBZ.con N):=ok2 (g:=zBZ.cfg N) (N:=N) (res:=[(false,.imm)]) tys_ok (zBZ.cons N) mixed Tryz.func124 (zBZ.ls N) rfl (zBZ.b N)
theorem zBZ.det (N:Nat):ConDet (zBZ.con N):=det2
def zAC.sk1:Skel:=⟨.rp s25::(.pv (.int .i64)::(dd 25 [])),[]⟩
def zAC.xs1:List XS:=[⟨.exit 0,[0,1,19,20,21,22],⟨.rp s25::(.pv (.int .i64)::(dd 25 [])),[]⟩⟩]
def zAC.sk3:Skel:=⟨.rp s25::(.pv (.int .i64)::(dd 25 [])),[]⟩
def zAC.xs3:List XS:=[⟨.exit 2,[1],⟨dd 1 (.pv (.int .i64)::(dd 25 [])),[]⟩⟩]
def zAC.con (N:Nat):Con:={ modes:=[.rd,.v],ptrs:=[false],fn:=fn2 s25 .imm (.int .i64) .imm (zAC N) (fun r=>[⟨(.int .i64),.imm,r⟩]) (fun r=>[]) }
def zAC.cfg (N:Nat):Cfg:={ ty:=tys,keep:=[11,22],flt:=[],elm:=elm0,live:=[(3,[0,1,19,20,21,22]),(1,[0,1,8,9,10,11,12,19,20,21,22])],ord:=[],con:=[((124,[.one,.one]),zBZ.con N)],loops:=[(1,loopCon N zAC.sk1 zAC.xs1 (fun {R}=>zAC.l1 (R:=R) N)),(3,loopCon N zAC.sk3 zAC.xs3 (fun {R}=>zAC.l3 (R:=R) N))],joins:=[] }
theorem zAC.cons (N:Nat):ConsOk Tryz.prog (zAC.cfg N).con:=(consOk_cons (hb124) (zBZ.ok N) (zBZ.det N) consOk_nil)
theorem zAC.h3 {R:Type} (N:Nat) (d:zAC.sk3.D) (kn:zAC.sk3.D→Option R) (kx:XD zAC.xs3→Option R):roundK (zAC.cfg N) N (nthLoop (fnBody Tryz.f117) 1) zAC.sk3 zAC.xs3 d kn kx=zAC.l3 N d kn kx:=by kernel_rfl
theorem zAC.i3 (N:Nat):LoopsOk Tryz.prog (zAC.cfg N) (nthLoop (fnBody Tryz.f117) 1):=loopsL (l:=[]) (by kernel_rfl) trivial
theorem zAC.o3 (N:Nat):LoopOk Tryz.prog (nthLoop (fnBody Tryz.f117) 1) (loopCon N zAC.sk3 zAC.xs3 (fun {R}=>zAC.l3 (R:=R) N)):=loop_ok (g:=zAC.cfg N) tys_ok (zAC.cons N) mixed (zAC.i3 N) (fun d kn kx=>zAC.h3 N d kn kx)
theorem zAC.h1 {R:Type} (N:Nat) (d:zAC.sk1.D) (kn:zAC.sk1.D→Option R) (kx:XD zAC.xs1→Option R):roundK (zAC.cfg N) N (nthLoop (fnBody Tryz.f117) 0) zAC.sk1 zAC.xs1 d kn kx=zAC.l1 N d kn kx:=by kernel_rfl
theorem zAC.i1 (N:Nat):LoopsOk Tryz.prog (zAC.cfg N) (nthLoop (fnBody Tryz.f117) 0):=loopsL (l:=[]) (by kernel_rfl) trivial
theorem zAC.o1 (N:Nat):LoopOk Tryz.prog (nthLoop (fnBody Tryz.f117) 0) (loopCon N zAC.sk1 zAC.xs1 (fun {R}=>zAC.l1 (R:=R) N)):=loop_ok (g:=zAC.cfg N) tys_ok (zAC.cons N) mixed (zAC.i1 N) (fun d kn kx=>zAC.h1 N d kn kx)
theorem zAC.ls (N:Nat):LoopsOk Tryz.prog (zAC.cfg N) (fnBody Tryz.f117):=loopsL (l:=[nthLoop (fnBody Tryz.f117) 0,nthLoop (fnBody Tryz.f117) 1]) (by kernel_rfl) ⟨loopOne (L0:=loopCon N zAC.sk1 zAC.xs1 (fun {R}=>zAC.l1 (R:=R) N)) (id:=1) (by kernel_rfl) (by kernel_rfl) (zAC.o1 N),⟨loopOne (L0:=loopCon N zAC.sk3 zAC.xs3 (fun {R}=>zAC.l3 (R:=R) N)) (id:=3) (by kernel_rfl) (by kernel_rfl) (zAC.o3 N),trivial⟩⟩
theorem zAC.q3 {R R':Type} {N n:Nat} {d} {k} {g:R→Option R'}:bindF (loopP (zAC.l3 N) n d k) g=loopP (zAC.l3 N) n d fun e=>bindF (k e) g:=bindF_loopP (fun d kn kx=>by simp only [zAC.l3,bindF_ifB,bindF_bindO,bindF_pure,bindF_none,bindF_onSum]) n d k
theorem zAC.q1 {R R':Type} {N n:Nat} {d} {k} {g:R→Option R'}:bindF (loopP (zAC.l1 N) n d k) g=loopP (zAC.l1 N) n d fun e=>bindF (k e) g:=bindF_loopP (fun d kn kx=>by simp only [zAC.l1,bindF_ifB,bindF_bindO,bindF_pure,bindF_none,bindF_onSum]) n d k
theorem zAC.b (N:Nat) (x0:den s25) (x1:den (.int .i64)):body (zAC.cfg N) N Tryz.f117 [.one,.one] [.rd,.v] [(false,.imm)] [⟨s25,.imm,x0⟩,⟨(.int .i64),.imm,x1⟩] (fun r i=>some (r,i))=bindO (zAC N x0 x1) fun r=>some ([⟨(.int .i64),.imm,r⟩],[]):=by
  show _=bindF _ _
  conv=>rhs;simp only [zAC,bindF_ifB,bindF_bindO,bindF_pure,bindF_none,bindF_onSum,zAC.q1,zAC.q3]
  kernel_rfl
theorem zAC.ok (N:Nat):ConOk Tryz.prog 117 [.one,.one] (zAC.con N):=ok2 (g:=zAC.cfg N) (N:=N) (res:=[(false,.imm)]) tys_ok (zAC.cons N) mixed Tryz.func117 (zAC.ls N) rfl (zAC.b N)
theorem zAC.det (N:Nat):ConDet (zAC.con N):=det2
def zAE.sk2:Skel:=⟨.rp s25::(.pv (.int .i64)::(dd 3 (.pv (.int .i64)::(dd 27 [])))),[]⟩
def zAE.xs2:List XS:=[⟨.exit 0,[0,1,5,26,27,28],⟨.rp s25::(.pv (.int .i64)::(dd 3 (.pv (.int .i64)::(dd 27 [])))),[]⟩⟩]
def zAE.sk4:Skel:=⟨.rp s25::(.pv (.int .i64)::(dd 3 (.pv (.int .i64)::(dd 27 [])))),[]⟩
def zAE.xs4:List XS:=[⟨.exit 2,[1],⟨dd 1 (.pv (.int .i64)::(dd 31 [])),[]⟩⟩]
def zAE.con (N:Nat):Con:={ modes:=[.rd,.v],ptrs:=[false],fn:=fn2 s25 .imm (.int .i64) .imm (zAE N) (fun r=>[⟨(.int .i64),.imm,r⟩]) (fun r=>[]) }
def zAE.cfg (N:Nat):Cfg:={ ty:=tys,keep:=[10,17,28],flt:=[],elm:=elm0,live:=[(4,[0,1,5,26,27,28]),(2,[0,1,5,15,16,17,18,26,27,28])],ord:=[],con:=[((45,[.one]),zAR.con N),((124,[.one,.one]),zBZ.con N)],loops:=[(2,loopCon N zAE.sk2 zAE.xs2 (fun {R}=>zAE.l2 (R:=R) N)),(4,loopCon N zAE.sk4 zAE.xs4 (fun {R}=>zAE.l4 (R:=R) N))],joins:=[] }
theorem zAE.cons (N:Nat):ConsOk Tryz.prog (zAE.cfg N).con:=(consOk_cons (hb45) (zAR.ok N) (zAR.det N) (consOk_cons (hb124) (zBZ.ok N) (zBZ.det N) consOk_nil))
theorem zAE.h4 {R:Type} (N:Nat) (d:zAE.sk4.D) (kn:zAE.sk4.D→Option R) (kx:XD zAE.xs4→Option R):roundK (zAE.cfg N) N (nthLoop (fnBody Tryz.f118) 1) zAE.sk4 zAE.xs4 d kn kx=zAE.l4 N d kn kx:=by kernel_rfl
theorem zAE.i4 (N:Nat):LoopsOk Tryz.prog (zAE.cfg N) (nthLoop (fnBody Tryz.f118) 1):=loopsL (l:=[]) (by kernel_rfl) trivial
theorem zAE.o4 (N:Nat):LoopOk Tryz.prog (nthLoop (fnBody Tryz.f118) 1) (loopCon N zAE.sk4 zAE.xs4 (fun {R}=>zAE.l4 (R:=R) N)):=loop_ok (g:=zAE.cfg N) tys_ok (zAE.cons N) mixed (zAE.i4 N) (fun d kn kx=>zAE.h4 N d kn kx)
theorem zAE.h2 {R:Type} (N:Nat) (d:zAE.sk2.D) (kn:zAE.sk2.D→Option R) (kx:XD zAE.xs2→Option R):roundK (zAE.cfg N) N (nthLoop (fnBody Tryz.f118) 0) zAE.sk2 zAE.xs2 d kn kx=zAE.l2 N d kn kx:=by kernel_rfl
theorem zAE.i2 (N:Nat):LoopsOk Tryz.prog (zAE.cfg N) (nthLoop (fnBody Tryz.f118) 0):=loopsL (l:=[]) (by kernel_rfl) trivial
theorem zAE.o2 (N:Nat):LoopOk Tryz.prog (nthLoop (fnBody Tryz.f118) 0) (loopCon N zAE.sk2 zAE.xs2 (fun {R}=>zAE.l2 (R:=R) N)):=loop_ok (g:=zAE.cfg N) tys_ok (zAE.cons N) mixed (zAE.i2 N) (fun d kn kx=>zAE.h2 N d kn kx)
theorem zAE.ls (N:Nat):LoopsOk Tryz.prog (zAE.cfg N) (fnBody Tryz.f118):=loopsL (l:=[nthLoop (fnBody Tryz.f118) 0,nthLoop (fnBody Tryz.f118) 1]) (by kernel_rfl) ⟨loopOne (L0:=loopCon N zAE.sk2 zAE.xs2 (fun {R}=>zAE.l2 (R:=R) N)) (id:=2) (by kernel_rfl) (by kernel_rfl) (zAE.o2 N),⟨loopOne (L0:=loopCon N zAE.sk4 zAE.xs4 (fun {R}=>zAE.l4 (R:=R) N)) (id:=4) (by kernel_rfl) (by kernel_rfl) (zAE.o4 N),trivial⟩⟩
theorem zAE.q4 {R R':Type} {N n:Nat} {d} {k} {g:R→Option R'}:bindF (loopP (zAE.l4 N) n d k) g=loopP (zAE.l4 N) n d fun e=>bindF (k e) g:=bindF_loopP (fun d kn kx=>by simp only [zAE.l4,bindF_ifB,bindF_bindO,bindF_pure,bindF_none,bindF_onSum]) n d k
theorem zAE.q2 {R R':Type} {N n:Nat} {d} {k} {g:R→Option R'}:bindF (loopP (zAE.l2 N) n d k) g=loopP (zAE.l2 N) n d fun e=>bindF (k e) g:=bindF_loopP (fun d kn kx=>by simp only [zAE.l2,bindF_ifB,bindF_bindO,bindF_pure,bindF_none,bindF_onSum]) n d k
theorem zAE.b (N:Nat) (x0:den s25) (x1:den (.int .i64)):body (zAE.cfg N) N Tryz.f118 [.one,.one] [.rd,.v] [(false,.imm)] [⟨s25,.imm,x0⟩,⟨(.int .i64),.imm,x1⟩] (fun r i=>some (r,i))=bindO (zAE N x0 x1) fun r=>some ([⟨(.int .i64),.imm,r⟩],[]):=by
  show _=bindF _ _
  conv=>rhs;simp only [zAE,bindF_ifB,bindF_bindO,bindF_pure,bindF_none,bindF_onSum,zAE.q2,zAE.q4]
  kernel_rfl
theorem zAE.ok (N:Nat):ConOk Tryz.prog 118 [.one,.one] (zAE.con N):=ok2 (g:=zAE.cfg N) (N:=N) (res:=[(false,.imm)]) tys_ok (zAE.cons N) mixed Tryz.func118 (zAE.ls N) rfl (zAE.b N)
theorem zAE.det (N:Nat):ConDet (zAE.con N):=det2
def zAZ.sk1:Skel:=⟨.rp s25::(.pv (.int .i64)::(dd 19 [])),[]⟩
def zAZ.xs1:List XS:=[⟨.exit 0,[1],⟨dd 1 (.pv (.int .i64)::(dd 19 [])),[]⟩⟩]
def zAZ.con (N:Nat):Con:={ modes:=[.rd,.v],ptrs:=[false],fn:=fn2 s25 .imm (.int .i64) .imm (zAZ N) (fun r=>[⟨(.int .i64),.imm,r⟩]) (fun r=>[]) }
def zAZ.cfg (N:Nat):Cfg:={ ty:=tys,keep:=[],flt:=[],elm:=elm0,live:=[(1,[0,1,8,9,10,11,12,13,14,15,16])],ord:=[],con:=[],loops:=[(1,loopCon N zAZ.sk1 zAZ.xs1 (fun {R}=>zAZ.l1 (R:=R) N))],joins:=[] }
theorem zAZ.cons (N:Nat):ConsOk Tryz.prog (zAZ.cfg N).con:=consOk_nil
theorem zAZ.h1 {R:Type} (N:Nat) (d:zAZ.sk1.D) (kn:zAZ.sk1.D→Option R) (kx:XD zAZ.xs1→Option R):roundK (zAZ.cfg N) N (nthLoop (fnBody Tryz.f119) 0) zAZ.sk1 zAZ.xs1 d kn kx=zAZ.l1 N d kn kx:=by kernel_rfl
theorem zAZ.i1 (N:Nat):LoopsOk Tryz.prog (zAZ.cfg N) (nthLoop (fnBody Tryz.f119) 0):=loopsL (l:=[]) (by kernel_rfl) trivial
theorem zAZ.o1 (N:Nat):LoopOk Tryz.prog (nthLoop (fnBody Tryz.f119) 0) (loopCon N zAZ.sk1 zAZ.xs1 (fun {R}=>zAZ.l1 (R:=R) N)):=loop_ok (g:=zAZ.cfg N) tys_ok (zAZ.cons N) mixed (zAZ.i1 N) (fun d kn kx=>zAZ.h1 N d kn kx)
theorem zAZ.ls (N:Nat):LoopsOk Tryz.prog (zAZ.cfg N) (fnBody Tryz.f119):=loopsL (l:=[nthLoop (fnBody Tryz.f119) 0]) (by kernel_rfl) ⟨loopOne (L0:=loopCon N zAZ.sk1 zAZ.xs1 (fun {R}=>zAZ.l1 (R:=R) N)) (id:=1) (by kernel_rfl) (by kernel_rfl) (zAZ.o1 N),trivial⟩
theorem zAZ.q1 {R R':Type} {N n:Nat} {d} {k} {g:R→Option R'}:bindF (loopP (zAZ.l1 N) n d k) g=loopP (zAZ.l1 N) n d fun e=>bindF (k e) g:=bindF_loopP (fun d kn kx=>by simp only [zAZ.l1,bindF_ifB,bindF_bindO,bindF_pure,bindF_none,bindF_onSum]) n d k
theorem zAZ.b (N:Nat) (x0:den s25) (x1:den (.int .i64)):body (zAZ.cfg N) N Tryz.f119 [.one,.one] [.rd,.v] [(false,.imm)] [⟨s25,.imm,x0⟩,⟨(.int .i64),.imm,x1⟩] (fun r i=>some (r,i))=bindO (zAZ N x0 x1) fun r=>some ([⟨(.int .i64),.imm,r⟩],[]):=by
  show _=bindF _ _
  conv=>rhs;simp only [zAZ,bindF_ifB,bindF_bindO,bindF_pure,bindF_none,bindF_onSum,zAZ.q1]
  kernel_rfl
theorem zAZ.ok (N:Nat):ConOk Tryz.prog 119 [.one,.one] (zAZ.con N):=ok2 (g:=zAZ.cfg N) (N:=N) (res:=[(false,.imm)]) tys_ok (zAZ.cons N) mixed Tryz.func119 (zAZ.ls N) rfl (zAZ.b N)
theorem zAZ.det (N:Nat):ConDet (zAZ.con N):=det2
end Go.AE.F
end
