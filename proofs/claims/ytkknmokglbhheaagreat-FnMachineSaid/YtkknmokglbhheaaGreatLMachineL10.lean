/- The printed functions are what the program comes to: contracts. -/
import Derived.Test.YtkknmokglbhheaaGreatLMachineL9
noncomputable section
namespace Go.AE.F
open Go.AE Go.Proofs
set_option maxRecDepth 100000
def zC2.con (N:Nat):Con:={ modes:=[.v,.v,.v],ptrs:=[false],fn:=fn3 s23 .imm s25 .imm (.int .i64) .imm (zC2 N) (fun r=>[⟨s29,(.pr (.pr (.own .imm) .imm) .imm),r⟩]) (fun r=>[]) }
def zC2.cfg (N:Nat):Cfg:={ ty:=tys,keep:=[17],flt:=[],elm:=elm0,live:=[],ord:=[],con:=[((17,[.one,.one,.one]),zBJ.con N)],loops:=[],joins:=[] }
theorem zC2.cons (N:Nat):ConsOk Tryz.prog (zC2.cfg N).con:=(consOk_cons (hb17) (zBJ.ok N) (zBJ.det N) consOk_nil)
theorem zC2.ls (N:Nat):LoopsOk Tryz.prog (zC2.cfg N) (fnBody Tryz.f6):=loopsL (l:=[]) (by kernel_rfl) trivial
theorem zC2.b (N:Nat) (x0:den s23) (x1:den s25) (x2:den (.int .i64)):body (zC2.cfg N) N Tryz.f6 [.one,.one,.one] [.v,.v,.v] [(false,(.pr (.pr (.own .imm) .imm) .imm))] [⟨s23,.imm,x0⟩,⟨s25,.imm,x1⟩,⟨(.int .i64),.imm,x2⟩] (fun r i=>some (r,i))=bindO (zC2 N x0 x1 x2) fun r=>some ([⟨s29,(.pr (.pr (.own .imm) .imm) .imm),r⟩],[]):=by
  show _=bindF _ _
  conv=>rhs;simp only [zC2,bindF_ifB,bindF_bindO,bindF_pure,bindF_none,bindF_onSum]
  kernel_rfl
theorem zC2.ok (N:Nat):ConOk Tryz.prog 6 [.one,.one,.one] (zC2.con N):=ok3 (g:=zC2.cfg N) (N:=N) (res:=[(false,(.pr (.pr (.own .imm) .imm) .imm))]) tys_ok (zC2.cons N) mixed Tryz.func6 (zC2.ls N) rfl (zC2.b N)
theorem zC2.det (N:Nat):ConDet (zC2.con N):=det3
def zBX.con (N:Nat):Con:={ modes:=[.v,.v,.v],ptrs:=[false],fn:=fn3 s23 .imm s25 .imm (.int .i64) .imm (zBX N) (fun r=>[⟨(.int .i64),.imm,r⟩]) (fun r=>[]) }
def zBX.cfg (N:Nat):Cfg:={ ty:=tys,keep:=[16],flt:=[],elm:=elm0,live:=[],ord:=[],con:=[((17,[.one,.one,.one]),zBJ.con N)],loops:=[],joins:=[] }
theorem zBX.cons (N:Nat):ConsOk Tryz.prog (zBX.cfg N).con:=(consOk_cons (hb17) (zBJ.ok N) (zBJ.det N) consOk_nil)
theorem zBX.ls (N:Nat):LoopsOk Tryz.prog (zBX.cfg N) (fnBody Tryz.f7):=loopsL (l:=[]) (by kernel_rfl) trivial
theorem zBX.b (N:Nat) (x0:den s23) (x1:den s25) (x2:den (.int .i64)):body (zBX.cfg N) N Tryz.f7 [.one,.one,.one] [.v,.v,.v] [(false,.imm)] [⟨s23,.imm,x0⟩,⟨s25,.imm,x1⟩,⟨(.int .i64),.imm,x2⟩] (fun r i=>some (r,i))=bindO (zBX N x0 x1 x2) fun r=>some ([⟨(.int .i64),.imm,r⟩],[]):=by
  show _=bindF _ _
  conv=>rhs;simp only [zBX,bindF_ifB,bindF_bindO,bindF_pure,bindF_none,bindF_onSum]
  kernel_rfl
theorem zBX.ok (N:Nat):ConOk Tryz.prog 7 [.one,.one,.one] (zBX.con N):=ok3 (g:=zBX.cfg N) (N:=N) (res:=[(false,.imm)]) tys_ok (zBX.cons N) mixed Tryz.func7 (zBX.ls N) rfl (zBX.b N)
theorem zBX.det (N:Nat):ConDet (zBX.con N):=det3
def zBG.sk4:Skel:=⟨.pv s24::(.pv s24::(dd 3 (.pv (.int .i64)::(dd 20 [])))),[]⟩
def zBG.xs4:List XS:=[⟨.exit 0,[],⟨dd 26 [],[]⟩⟩,⟨.ret,[4],⟨dd 4 (.pv .bool::(dd 21 [])),[]⟩⟩]
def zBG.con (N:Nat):Con:={ modes:=[.v,.v],ptrs:=[false],fn:=fn2 s24 .imm s24 .imm (zBG N) (fun r=>[⟨.bool,.imm,r⟩]) (fun r=>[]) }
def zBG.cfg (N:Nat):Cfg:={ ty:=tys,keep:=[],flt:=[],elm:=elm0,live:=[(4,[0,1,5])],ord:=[(6,[0,1,2,3,4,5,6,7,8])],con:=[],loops:=[(4,loopCon N zBG.sk4 zBG.xs4 (fun {R}=>zBG.l4 (R:=R) N))],joins:=[] }
theorem zBG.cons (N:Nat):ConsOk Tryz.prog (zBG.cfg N).con:=consOk_nil
theorem zBG.h4 {R:Type} (N:Nat) (d:zBG.sk4.D) (kn:zBG.sk4.D→Option R) (kx:XD zBG.xs4→Option R):roundK (zBG.cfg N) N (nthLoop (fnBody Tryz.f18) 0) zBG.sk4 zBG.xs4 d kn kx=zBG.l4 N d kn kx:=by kernel_rfl
theorem zBG.i4 (N:Nat):LoopsOk Tryz.prog (zBG.cfg N) (nthLoop (fnBody Tryz.f18) 0):=loopsL (l:=[]) (by kernel_rfl) trivial
theorem zBG.o4 (N:Nat):LoopOk Tryz.prog (nthLoop (fnBody Tryz.f18) 0) (loopCon N zBG.sk4 zBG.xs4 (fun {R}=>zBG.l4 (R:=R) N)):=loop_ok (g:=zBG.cfg N) tys_ok (zBG.cons N) mixed (zBG.i4 N) (fun d kn kx=>zBG.h4 N d kn kx)
theorem zBG.ls (N:Nat):LoopsOk Tryz.prog (zBG.cfg N) (fnBody Tryz.f18):=loopsL (l:=[nthLoop (fnBody Tryz.f18) 0]) (by kernel_rfl) ⟨loopOne (L0:=loopCon N zBG.sk4 zBG.xs4 (fun {R}=>zBG.l4 (R:=R) N)) (id:=4) (by kernel_rfl) (by kernel_rfl) (zBG.o4 N),trivial⟩
theorem zBG.q4 {R R':Type} {N n:Nat} {d} {k} {g:R→Option R'}:bindF (loopP (zBG.l4 N) n d k) g=loopP (zBG.l4 N) n d fun e=>bindF (k e) g:=bindF_loopP (fun d kn kx=>by simp only [zBG.l4,bindF_ifB,bindF_bindO,bindF_pure,bindF_none,bindF_onSum]) n d k
theorem zBG.b (N:Nat) (x0:den s24) (x1:den s24):body (zBG.cfg N) N Tryz.f18 [.one,.one] [.v,.v] [(false,.imm)] [⟨s24,.imm,x0⟩,⟨s24,.imm,x1⟩] (fun r i=>some (r,i))=bindO (zBG N x0 x1) fun r=>some ([⟨.bool,.imm,r⟩],[]):=by
  show _=bindF _ _
  conv=>rhs;simp only [zBG,bindF_ifB,bindF_bindO,bindF_pure,bindF_none,bindF_onSum,zBG.q4]
  kernel_rfl
theorem zBG.ok (N:Nat):ConOk Tryz.prog 18 [.one,.one] (zBG.con N):=ok2 (g:=zBG.cfg N) (N:=N) (res:=[(false,.imm)]) tys_ok (zBG.cons N) mixed Tryz.func18 (zBG.ls N) rfl (zBG.b N)
theorem zBG.det (N:Nat):ConDet (zBG.con N):=det2
def zDF.con (N:Nat):Con:={ modes:=[.v,.v],ptrs:=[false],fn:=fn2 s25 .imm s25 .imm (zDF N) (fun r=>[⟨.bool,.imm,r⟩]) (fun r=>[]) }
def zDF.cfg (N:Nat):Cfg:={ ty:=tys,keep:=[9],flt:=[],elm:=elm0,live:=[],ord:=[],con:=[((18,[.one,.one]),zBG.con N)],loops:=[],joins:=[] }
theorem zDF.cons (N:Nat):ConsOk Tryz.prog (zDF.cfg N).con:=(consOk_cons (hb18) (zBG.ok N) (zBG.det N) consOk_nil)
theorem zDF.ls (N:Nat):LoopsOk Tryz.prog (zDF.cfg N) (fnBody Tryz.f8):=loopsL (l:=[]) (by kernel_rfl) trivial
theorem zDF.b (N:Nat) (x0:den s25) (x1:den s25):body (zDF.cfg N) N Tryz.f8 [.one,.one] [.v,.v] [(false,.imm)] [⟨s25,.imm,x0⟩,⟨s25,.imm,x1⟩] (fun r i=>some (r,i))=bindO (zDF N x0 x1) fun r=>some ([⟨.bool,.imm,r⟩],[]):=by
  show _=bindF _ _
  conv=>rhs;simp only [zDF,bindF_ifB,bindF_bindO,bindF_pure,bindF_none,bindF_onSum]
  kernel_rfl
theorem zDF.ok (N:Nat):ConOk Tryz.prog 8 [.one,.one] (zDF.con N):=ok2 (g:=zDF.cfg N) (N:=N) (res:=[(false,.imm)]) tys_ok (zDF.cons N) mixed Tryz.func8 (zDF.ls N) rfl (zDF.b N)
theorem zDF.det (N:Nat):ConDet (zDF.con N):=det2
def zCX.con (N:Nat):Con:={ modes:=[.v],ptrs:=[false],fn:=fn1 s22 .imm (zCX N) (fun r=>[⟨.bool,.imm,r⟩]) (fun r=>[]) }
def zCX.cfg (N:Nat):Cfg:={ ty:=tys,keep:=[],flt:=[],elm:=elm0,live:=[],ord:=[(5,[6,1,3,4,0,2,5,7]),(10,[1,3,4,0,2,5,6])],con:=[((4,[.one]),zBV.con N),((5,[.one,.one,.one]),zCC.con N),((6,[.one,.one,.one]),zC2.con N),((7,[.one,.one,.one]),zBX.con N),((8,[.one,.one]),zDF.con N),((9,[.one]),zC6.con N)],loops:=[],joins:=[] }
theorem zCX.cons (N:Nat):ConsOk Tryz.prog (zCX.cfg N).con:=(consOk_cons (hb4) (zBV.ok N) (zBV.det N) (consOk_cons (hb5) (zCC.ok N) (zCC.det N) (consOk_cons (hb6) (zC2.ok N) (zC2.det N) (consOk_cons (hb7) (zBX.ok N) (zBX.det N) (consOk_cons (hb8) (zDF.ok N) (zDF.det N) (consOk_cons (hb9) (zC6.ok N) (zC6.det N) consOk_nil))))))
theorem zCX.ls (N:Nat):LoopsOk Tryz.prog (zCX.cfg N) (fnBody Tryz.f3):=loopsL (l:=[]) (by kernel_rfl) trivial
theorem zCX.b (N:Nat) (x0:den s22):body (zCX.cfg N) N Tryz.f3 [.one] [.v] [(false,.imm)] [⟨s22,.imm,x0⟩] (fun r i=>some (r,i))=bindO (zCX N x0) fun r=>some ([⟨.bool,.imm,r⟩],[]):=by
  show _=bindF _ _
  conv=>rhs;simp only [zCX,bindF_ifB,bindF_bindO,bindF_pure,bindF_none,bindF_onSum]
  kernel_rfl
theorem zCX.ok (N:Nat):ConOk Tryz.prog 3 [.one] (zCX.con N):=ok1 (g:=zCX.cfg N) (N:=N) (res:=[(false,.imm)]) tys_ok (zCX.cons N) mixed Tryz.func3 (zCX.ls N) rfl (zCX.b N)
theorem zCX.det (N:Nat):ConDet (zCX.con N):=det1
end Go.AE.F
end
