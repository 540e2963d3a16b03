/- The printed functions are what the program comes to: contracts. -/
import Derived.Test.YtkknmokglbhheaaGreatLMachineL4
noncomputable section
namespace Go.AE.F
open Go.AE Go.Proofs
set_option maxRecDepth 100000
def zCT.con (N:Nat):Con:={ modes:=[.v,.v,.v,.v],ptrs:=[false],fn:=fn4 s25 .imm (.int .i64) .imm (.int .i64) .imm (.int .i64) .imm (zCT N) (fun r=>[⟨s25,(.pr (.own .imm) .imm),r⟩]) (fun r=>[]) }
def zCT.cfg (N:Nat):Cfg:={ ty:=tys,keep:=[12,17],flt:=[],elm:=elm0,live:=[],ord:=[],con:=[((29,[.one]),zCG.con N),((59,[.one,.one,.one,.one]),zBH.con N)],loops:=[],joins:=[] }
theorem zCT.cons (N:Nat):ConsOk Tryz.prog (zCT.cfg N).con:=(consOk_cons (hb29) (zCG.ok N) (zCG.det N) (consOk_cons (hb59) (zBH.ok N) (zBH.det N) consOk_nil))
theorem zCT.ls (N:Nat):LoopsOk Tryz.prog (zCT.cfg N) (fnBody Tryz.f35):=loopsL (l:=[]) (by kernel_rfl) trivial
theorem zCT.b (N:Nat) (x0:den s25) (x1:den (.int .i64)) (x2:den (.int .i64)) (x3:den (.int .i64)):body (zCT.cfg N) N Tryz.f35 [.one,.one,.one,.one] [.v,.v,.v,.v] [(false,(.pr (.own .imm) .imm))] [⟨s25,.imm,x0⟩,⟨(.int .i64),.imm,x1⟩,⟨(.int .i64),.imm,x2⟩,⟨(.int .i64),.imm,x3⟩] (fun r i=>some (r,i))=bindO (zCT N x0 x1 x2 x3) fun r=>some ([⟨s25,(.pr (.own .imm) .imm),r⟩],[]):=by
  show _=bindF _ _
  conv=>rhs;simp only [zCT,bindF_ifB,bindF_bindO,bindF_pure,bindF_none,bindF_onSum]
  kernel_rfl
theorem zCT.ok (N:Nat):ConOk Tryz.prog 35 [.one,.one,.one,.one] (zCT.con N):=ok4 (g:=zCT.cfg N) (N:=N) (res:=[(false,(.pr (.own .imm) .imm))]) tys_ok (zCT.cons N) mixed Tryz.func35 (zCT.ls N) rfl (zCT.b N)
theorem zCT.det (N:Nat):ConDet (zCT.con N):=det4
def zDE.con (N:Nat):Con:={ modes:=[.v,.v,.v],ptrs:=[false,false],fn:=fn3 (.int .i64) .imm (.int .i64) .imm (.int .i64) .imm (zDE N) (fun r=>[⟨(.int .i64),.imm,r.1⟩,⟨(.int .i64),.imm,r.2⟩]) (fun r=>[]) }
def zDE.cfg (N:Nat):Cfg:={ ty:=tys,keep:=[],flt:=[],elm:=elm0,live:=[],ord:=[],con:=[],loops:=[],joins:=[] }
theorem zDE.cons (N:Nat):ConsOk Tryz.prog (zDE.cfg N).con:=consOk_nil
theorem zDE.ls (N:Nat):LoopsOk Tryz.prog (zDE.cfg N) (fnBody Tryz.f56):=loopsL (l:=[]) (by kernel_rfl) trivial
theorem zDE.b (N:Nat) (x0:den (.int .i64)) (x1:den (.int .i64)) (x2:den (.int .i64)):body (zDE.cfg N) N Tryz.f56 [.one,.one,.one] [.v,.v,.v] [(false,.imm),(false,.imm)] [⟨(.int .i64),.imm,x0⟩,⟨(.int .i64),.imm,x1⟩,⟨(.int .i64),.imm,x2⟩] (fun r i=>some (r,i))=bindO (zDE N x0 x1 x2) fun r=>some ([⟨(.int .i64),.imm,r.1⟩,⟨(.int .i64),.imm,r.2⟩],[]):=by
  show _=bindF _ _
  conv=>rhs;simp only [zDE,bindF_ifB,bindF_bindO,bindF_pure,bindF_none,bindF_onSum]
  kernel_rfl
theorem zDE.ok (N:Nat):ConOk Tryz.prog 56 [.one,.one,.one] (zDE.con N):=ok3 (g:=zDE.cfg N) (N:=N) (res:=[(false,.imm),(false,.imm)]) tys_ok (zDE.cons N) mixed Tryz.func56 (zDE.ls N) rfl (zDE.b N)
theorem zDE.det (N:Nat):ConDet (zDE.con N):=det3
def zBS.con (N:Nat):Con:={ modes:=[.io,.v,.v,.v],ptrs:=[false],fn:=fn4 s63 (.pr .imm (.pr .imm (.pr (.own .imm) .imm))) s70 .imm (.int .i64) .imm (.int .i64) .imm (zBS N) (fun r=>[⟨(.int .i64),.imm,r.1⟩]) (fun r=>[⟨s63,(.pr .imm (.pr .imm (.pr (.own .imm) .imm))),r.2⟩]) }
def zBS.cfg (N:Nat):Cfg:={ ty:=tys,keep:=[],flt:=[],elm:=elm0,live:=[],ord:=[(7,[0,1,2,3,4,5,6,8,7,9,10]),(16,[0,1,2,3,4,5,6,7,8,9,10,11]),(20,[0,1,2,3,4,5,6,7,8,9,10])],con:=[((54,[.one,.one]),zAS.con N),((34,[.one,.one,.one,.one]),zBF.con N),((55,[.one]),zAU.con N),((35,[.one,.one,.one,.one]),zCT.con N),((30,[.one,.one]),zBC.con N),((56,[.one,.one,.one]),zDE.con N)],loops:=[],joins:=[] }
theorem zBS.cons (N:Nat):ConsOk Tryz.prog (zBS.cfg N).con:=(consOk_cons (hb54) (zAS.ok N) (zAS.det N) (consOk_cons (hb34) (zBF.ok N) (zBF.det N) (consOk_cons (hb55) (zAU.ok N) (zAU.det N) (consOk_cons (hb35) (zCT.ok N) (zCT.det N) (consOk_cons (hb30) (zBC.ok N) (zBC.det N) (consOk_cons (hb56) (zDE.ok N) (zDE.det N) consOk_nil))))))
theorem zBS.ls (N:Nat):LoopsOk Tryz.prog (zBS.cfg N) (fnBody Tryz.f33):=loopsL (l:=[]) (by kernel_rfl) trivial
theorem zBS.b (N:Nat) (x0:den s63) (x1:den s70) (x2:den (.int .i64)) (x3:den (.int .i64)):body (zBS.cfg N) N Tryz.f33 [.one,.one,.one,.one] [.io,.v,.v,.v] [(false,.imm)] [⟨s63,(.pr .imm (.pr .imm (.pr (.own .imm) .imm))),x0⟩,⟨s70,.imm,x1⟩,⟨(.int .i64),.imm,x2⟩,⟨(.int .i64),.imm,x3⟩] (fun r i=>some (r,i))=bindO (zBS N x0 x1 x2 x3) fun r=>some ([⟨(.int .i64),.imm,r.1⟩],[⟨s63,(.pr .imm (.pr .imm (.pr (.own .imm) .imm))),r.2⟩]):=by
  show _=bindF _ _
  conv=>rhs;simp only [zBS,bindF_ifB,bindF_bindO,bindF_pure,bindF_none,bindF_onSum]
  kernel_rfl
theorem zBS.ok (N:Nat):ConOk Tryz.prog 33 [.one,.one,.one,.one] (zBS.con N):=ok4 (g:=zBS.cfg N) (N:=N) (res:=[(false,.imm)]) tys_ok (zBS.cons N) mixed Tryz.func33 (zBS.ls N) rfl (zBS.b N)
theorem zBS.det (N:Nat):ConDet (zBS.con N):=det4
def zAX.sk5:Skel:=⟨.pv s23::(dd 1 (.pv (.int .i64)::(dd 1 (.ptr 50 []::(dd 1 (.ptr 51 []::(dd 1 (.ptr 52 []::(.ov 53 []::(.pv (.int .i64)::(.pv (.int .i64)::(dd 251 [])))))))))))),[⟨50,s25,.imm,true,false⟩,⟨51,s29,(.pr (.pr (.own .imm) .imm) .imm),true,false⟩,⟨52,s63,(.pr .imm (.pr .imm (.pr (.own .imm) .imm))),true,false⟩,⟨53,s24,(.own .imm),false,false⟩]⟩
def zAX.xs5:List XS:=[⟨.exit 0,[4,6,8,10],⟨dd 4 (.ptr 50 []::(dd 1 (.ptr 51 []::(dd 1 (.ptr 52 []::(dd 1 (.pv (.int .i64)::(dd 252 [])))))))),[⟨50,s25,.imm,true,false⟩,⟨51,s29,(.pr (.pr (.own .imm) .imm) .imm),true,false⟩,⟨52,s63,(.pr .imm (.pr .imm (.pr (.own .imm) .imm))),true,false⟩]⟩⟩]
def zAX.con (N:Nat):Con:={ modes:=[.v,.v,.v],ptrs:=[false,false],fn:=fn3 s23 .imm s25 .imm (.int .i64) .imm (zAX N) (fun r=>[⟨s29,.imm,r.1⟩,⟨(.int .i64),.imm,r.2⟩]) (fun r=>[]) }
def zAX.cfg (N:Nat):Cfg:={ ty:=tys,keep:=[64],flt:=[22],elm:=elm0,live:=[(5,[0,2,4,6,8,9,10,11,30,31,32,33,34])],ord:=[(1,[1,3,0,2,4,5,6]),(24,[0,1,2,3,4,5,6,7,8]),(26,[0,1,2,3,4,5,6,7,8,9,10]),(38,[0,1,2,4,5,6,7,8,9,3,10,11]),(47,[0,1,2,3,4,5,6,7]),(55,[0,1,2,3,4,5,6,7,8,9,10]),(59,[0,2,3,4,5,1,6,7,8]),(60,[0,1,2,3,4,5,6,7,8,9,10,11,13,12,14,15])],con:=[((29,[.one]),zCG.con N),((30,[.one,.one]),zBC.con N),((31,[.one]),zC1.con N),((32,[.one]),zC9.con N),((33,[.one,.one,.one,.one]),zBS.con N),((34,[.one,.one,.one,.one]),zBF.con N),((35,[.one,.one,.one,.one]),zCT.con N)],loops:=[(5,loopCon N zAX.sk5 zAX.xs5 (fun {R}=>zAX.l5 (R:=R) N))],joins:=[] }
theorem zAX.cons (N:Nat):ConsOk Tryz.prog (zAX.cfg N).con:=(consOk_cons (hb29) (zCG.ok N) (zCG.det N) (consOk_cons (hb30) (zBC.ok N) (zBC.det N) (consOk_cons (hb31) (zC1.ok N) (zC1.det N) (consOk_cons (hb32) (zC9.ok N) (zC9.det N) (consOk_cons (hb33) (zBS.ok N) (zBS.det N) (consOk_cons (hb34) (zBF.ok N) (zBF.det N) (consOk_cons (hb35) (zCT.ok N) (zCT.det N) consOk_nil)))))))
theorem zAX.h5 {R:Type} (N:Nat) (d:zAX.sk5.D) (kn:zAX.sk5.D→Option R) (kx:XD zAX.xs5→Option R):roundK (zAX.cfg N) N (nthLoop (fnBody Tryz.f16) 0) zAX.sk5 zAX.xs5 d kn kx=zAX.l5 N d kn kx:=by kernel_rfl
theorem zAX.i5 (N:Nat):LoopsOk Tryz.prog (zAX.cfg N) (nthLoop (fnBody Tryz.f16) 0):=loopsL (l:=[]) (by kernel_rfl) trivial
theorem zAX.o5 (N:Nat):LoopOk Tryz.prog (nthLoop (fnBody Tryz.f16) 0) (loopCon N zAX.sk5 zAX.xs5 (fun {R}=>zAX.l5 (R:=R) N)):=loop_ok (g:=zAX.cfg N) tys_ok (zAX.cons N) mixed (zAX.i5 N) (fun d kn kx=>zAX.h5 N d kn kx)
theorem zAX.ls (N:Nat):LoopsOk Tryz.prog (zAX.cfg N) (fnBody Tryz.f16):=loopsL (l:=[nthLoop (fnBody Tryz.f16) 0]) (by kernel_rfl) ⟨loopOne (L0:=loopCon N zAX.sk5 zAX.xs5 (fun {R}=>zAX.l5 (R:=R) N)) (id:=5) (by kernel_rfl) (by kernel_rfl) (zAX.o5 N),trivial⟩
theorem zAX.q5 {R R':Type} {N n:Nat} {d} {k} {g:R→Option R'}:bindF (loopP (zAX.l5 N) n d k) g=loopP (zAX.l5 N) n d fun e=>bindF (k e) g:=bindF_loopP (fun d kn kx=>by simp only [zAX.l5,bindF_ifB,bindF_bindO,bindF_pure,bindF_none,bindF_onSum]) n d k
theorem zAX.b (N:Nat) (x0:den s23) (x1:den s25) (x2:den (.int .i64)):body (zAX.cfg N) N Tryz.f16 [.one,.one,.one] [.v,.v,.v] [(false,.imm),(false,.imm)] [⟨s23,.imm,x0⟩,⟨s25,.imm,x1⟩,⟨(.int .i64),.imm,x2⟩] (fun r i=>some (r,i))=bindO (zAX N x0 x1 x2) fun r=>some ([⟨s29,.imm,r.1⟩,⟨(.int .i64),.imm,r.2⟩],[]):=by
  show _=bindF _ _
  conv=>rhs;simp only [zAX,bindF_ifB,bindF_bindO,bindF_pure,bindF_none,bindF_onSum,zAX.q5]
  kernel_rfl
theorem zAX.ok (N:Nat):ConOk Tryz.prog 16 [.one,.one,.one] (zAX.con N):=ok3 (g:=zAX.cfg N) (N:=N) (res:=[(false,.imm),(false,.imm)]) tys_ok (zAX.cons N) mixed Tryz.func16 (zAX.ls N) rfl (zAX.b N)
theorem zAX.det (N:Nat):ConDet (zAX.con N):=det3
def zCC.con (N:Nat):Con:={ modes:=[.v,.v,.v],ptrs:=[false],fn:=fn3 s23 .imm s25 .imm (.int .i64) .imm (zCC N) (fun r=>[⟨s29,.imm,r⟩]) (fun r=>[]) }
def zCC.cfg (N:Nat):Cfg:={ ty:=tys,keep:=[14,18,34],flt:=[],elm:=elm0,live:=[],ord:=[],con:=[((14,[.one]),zAV.con N),((15,[.one]),zBN.con N),((16,[.one,.one,.one]),zAX.con N)],loops:=[],joins:=[] }
theorem zCC.cons (N:Nat):ConsOk Tryz.prog (zCC.cfg N).con:=(consOk_cons (hb14) (zAV.ok N) (zAV.det N) (consOk_cons (hb15) (zBN.ok N) (zBN.det N) (consOk_cons (hb16) (zAX.ok N) (zAX.det N) consOk_nil)))
theorem zCC.ls (N:Nat):LoopsOk Tryz.prog (zCC.cfg N) (fnBody Tryz.f5):=loopsL (l:=[]) (by kernel_rfl) trivial
theorem zCC.b (N:Nat) (x0:den s23) (x1:den s25) (x2:den (.int .i64)):body (zCC.cfg N) N Tryz.f5 [.one,.one,.one] [.v,.v,.v] [(false,.imm)] [⟨s23,.imm,x0⟩,⟨s25,.imm,x1⟩,⟨(.int .i64),.imm,x2⟩] (fun r i=>some (r,i))=bindO (zCC N x0 x1 x2) fun r=>some ([⟨s29,.imm,r⟩],[]):=by
  show _=bindF _ _
  conv=>rhs;simp only [zCC,bindF_ifB,bindF_bindO,bindF_pure,bindF_none,bindF_onSum]
  kernel_rfl
theorem zCC.ok (N:Nat):ConOk Tryz.prog 5 [.one,.one,.one] (zCC.con N):=ok3 (g:=zCC.cfg N) (N:=N) (res:=[(false,.imm)]) tys_ok (zCC.cons N) mixed Tryz.func5 (zCC.ls N) rfl (zCC.b N)
theorem zCC.det (N:Nat):ConDet (zCC.con N):=det3
def zBE.con (N:Nat):Con:={ modes:=[.v],ptrs:=[false],fn:=fn1 s23 .imm (zBE N) (fun r=>[⟨(.int .i64),.imm,r⟩]) (fun r=>[]) }
def zBE.cfg (N:Nat):Cfg:={ ty:=tys,keep:=[],flt:=[],elm:=elm0,live:=[],ord:=[],con:=[],loops:=[],joins:=[] }
theorem zBE.cons (N:Nat):ConsOk Tryz.prog (zBE.cfg N).con:=consOk_nil
theorem zBE.ls (N:Nat):LoopsOk Tryz.prog (zBE.cfg N) (fnBody Tryz.f39):=loopsL (l:=[]) (by kernel_rfl) trivial
theorem zBE.b (N:Nat) (x0:den s23):body (zBE.cfg N) N Tryz.f39 [.one] [.v] [(false,.imm)] [⟨s23,.imm,x0⟩] (fun r i=>some (r,i))=bindO (zBE N x0) fun r=>some ([⟨(.int .i64),.imm,r⟩],[]):=by
  show _=bindF _ _
  conv=>rhs;simp only [zBE,bindF_ifB,bindF_bindO,bindF_pure,bindF_none,bindF_onSum]
  kernel_rfl
theorem zBE.ok (N:Nat):ConOk Tryz.prog 39 [.one] (zBE.con N):=ok1 (g:=zBE.cfg N) (N:=N) (res:=[(false,.imm)]) tys_ok (zBE.cons N) mixed Tryz.func39 (zBE.ls N) rfl (zBE.b N)
theorem zBE.det (N:Nat):ConDet (zBE.con N):=det1
def zB5.con (N:Nat):Con:={ modes:=[.v,.v,.v],ptrs:=[false],fn:=fn3 (.int .i64) .imm (.int .i64) .imm (.int .i64) .imm (zB5 N) (fun r=>[⟨.bool,.imm,r⟩]) (fun r=>[]) }
def zB5.cfg (N:Nat):Cfg:={ ty:=tys,keep:=[],flt:=[],elm:=elm0,live:=[],ord:=[],con:=[],loops:=[],joins:=[] }
theorem zB5.cons (N:Nat):ConsOk Tryz.prog (zB5.cfg N).con:=consOk_nil
theorem zB5.ls (N:Nat):LoopsOk Tryz.prog (zB5.cfg N) (fnBody Tryz.f37):=loopsL (l:=[]) (by kernel_rfl) trivial
theorem zB5.b (N:Nat) (x0:den (.int .i64)) (x1:den (.int .i64)) (x2:den (.int .i64)):body (zB5.cfg N) N Tryz.f37 [.one,.one,.one] [.v,.v,.v] [(false,.imm)] [⟨(.int .i64),.imm,x0⟩,⟨(.int .i64),.imm,x1⟩,⟨(.int .i64),.imm,x2⟩] (fun r i=>some (r,i))=bindO (zB5 N x0 x1 x2) fun r=>some ([⟨.bool,.imm,r⟩],[]):=by
  show _=bindF _ _
  conv=>rhs;simp only [zB5,bindF_ifB,bindF_bindO,bindF_pure,bindF_none,bindF_onSum]
  kernel_rfl
theorem zB5.ok (N:Nat):ConOk Tryz.prog 37 [.one,.one,.one] (zB5.con N):=ok3 (g:=zB5.cfg N) (N:=N) (res:=[(false,.imm)]) tys_ok (zB5.cons N) mixed Tryz.func37 (zB5.ls N) rfl (zB5.b N)
theorem zB5.det (N:Nat):ConDet (zB5.con N):=det3
def zD4.con (N:Nat):Con:={ modes:=[.v,.v],ptrs:=[false],fn:=fn2 s54 .imm (.int .i64) .imm (zD4 N) (fun r=>[⟨.bool,.imm,r⟩]) (fun r=>[]) }
def zD4.cfg (N:Nat):Cfg:={ ty:=tys,keep:=[11,17,22,29,34,37],flt:=[],elm:=elm0,live:=[],ord:=[],con:=[((37,[.one,.one,.one]),zB5.con N)],loops:=[],joins:=[] }
theorem zD4.cons (N:Nat):ConsOk Tryz.prog (zD4.cfg N).con:=(consOk_cons (hb37) (zB5.ok N) (zB5.det N) consOk_nil)
theorem zD4.ls (N:Nat):LoopsOk Tryz.prog (zD4.cfg N) (fnBody Tryz.f88):=loopsL (l:=[]) (by kernel_rfl) trivial
theorem zD4.b (N:Nat) (x0:den s54) (x1:den (.int .i64)):body (zD4.cfg N) N Tryz.f88 [.one,.one] [.v,.v] [(false,.imm)] [⟨s54,.imm,x0⟩,⟨(.int .i64),.imm,x1⟩] (fun r i=>some (r,i))=bindO (zD4 N x0 x1) fun r=>some ([⟨.bool,.imm,r⟩],[]):=by
  show _=bindF _ _
  conv=>rhs;simp only [zD4,bindF_ifB,bindF_bindO,bindF_pure,bindF_none,bindF_onSum]
  kernel_rfl
theorem zD4.ok (N:Nat):ConOk Tryz.prog 88 [.one,.one] (zD4.con N):=ok2 (g:=zD4.cfg N) (N:=N) (res:=[(false,.imm)]) tys_ok (zD4.cons N) mixed Tryz.func88 (zD4.ls N) rfl (zD4.b N)
theorem zD4.det (N:Nat):ConDet (zD4.con N):=det2
def zCQ.con (N:Nat):Con:={ modes:=[.v,.rd],ptrs:=[false],fn:=fn2 s54 .imm (.int .i64) .imm (zCQ N) (fun r=>[⟨.bool,.imm,r⟩]) (fun r=>[]) }
def zCQ.cfg (N:Nat):Cfg:={ ty:=tys,keep:=[6],flt:=[],elm:=elm0,live:=[],ord:=[],con:=[((88,[.one,.one]),zD4.con N)],loops:=[],joins:=[] }
theorem zCQ.cons (N:Nat):ConsOk Tryz.prog (zCQ.cfg N).con:=(consOk_cons (hb88) (zD4.ok N) (zD4.det N) consOk_nil)
theorem zCQ.ls (N:Nat):LoopsOk Tryz.prog (zCQ.cfg N) (fnBody Tryz.f87):=loopsL (l:=[]) (by kernel_rfl) trivial
theorem zCQ.b (N:Nat) (x0:den s54) (x1:den (.int .i64)):body (zCQ.cfg N) N Tryz.f87 [.one] [.v,.rd] [(false,.imm)] [⟨s54,.imm,x0⟩,⟨(.int .i64),.imm,x1⟩] (fun r i=>some (r,i))=bindO (zCQ N x0 x1) fun r=>some ([⟨.bool,.imm,r⟩],[]):=by
  show _=bindF _ _
  conv=>rhs;simp only [zCQ,bindF_ifB,bindF_bindO,bindF_pure,bindF_none,bindF_onSum]
  kernel_rfl
theorem zCQ.ok (N:Nat):ConOk Tryz.prog 87 [.one] (zCQ.con N):=ok2 (g:=zCQ.cfg N) (N:=N) (res:=[(false,.imm)]) tys_ok (zCQ.cons N) mixed Tryz.func87 (zCQ.ls N) rfl (zCQ.b N)
theorem zCQ.det (N:Nat):ConDet (zCQ.con N):=det2
def zA0.sk2:Skel:=⟨.pv s23::(.fn 87 [.cr (.int .i64)]::(dd 5 (.pv (.int .i64)::(.pv (.int .i64)::(dd 10 []))))),[]⟩
def zA0.xs2:List XS:=[⟨.exit 0,[],⟨dd 19 [],[]⟩⟩,⟨.ret,[4],⟨dd 4 (.pv (.int .i64)::(dd 14 [])),[]⟩⟩]
def zA0.con (N:Nat):Con:={ modes:=[.v,.rd],ptrs:=[false],fn:=fn2 s23 .imm (.int .i64) .imm (zA0 N) (fun r=>[⟨(.int .i64),.imm,r⟩]) (fun r=>[]) }
def zA0.cfg (N:Nat):Cfg:={ ty:=tys,keep:=[16],flt:=[],elm:=elm0,live:=[(2,[0,1,7,8])],ord:=[],con:=[((87,[.one]),zCQ.con N)],loops:=[(2,loopCon N zA0.sk2 zA0.xs2 (fun {R}=>zA0.l2 (R:=R) N))],joins:=[] }
theorem zA0.cons (N:Nat):ConsOk Tryz.prog (zA0.cfg N).con:=(consOk_cons (hb87) (zCQ.ok N) (zCQ.det N) consOk_nil)
theorem zA0.h2 {R:Type} (N:Nat) (d:zA0.sk2.D) (kn:zA0.sk2.D→Option R) (kx:XD zA0.xs2→Option R):roundK (zA0.cfg N) N (nthLoop (fnBody Tryz.f105) 0) zA0.sk2 zA0.xs2 d kn kx=zA0.l2 N d kn kx:=by kernel_rfl
theorem zA0.i2 (N:Nat):LoopsOk Tryz.prog (zA0.cfg N) (nthLoop (fnBody Tryz.f105) 0):=loopsL (l:=[]) (by kernel_rfl) trivial
theorem zA0.o2 (N:Nat):LoopOk Tryz.prog (nthLoop (fnBody Tryz.f105) 0) (loopCon N zA0.sk2 zA0.xs2 (fun {R}=>zA0.l2 (R:=R) N)):=loop_ok (g:=zA0.cfg N) tys_ok (zA0.cons N) mixed (zA0.i2 N) (fun d kn kx=>zA0.h2 N d kn kx)
theorem zA0.ls (N:Nat):LoopsOk Tryz.prog (zA0.cfg N) (fnBody Tryz.f105):=loopsL (l:=[nthLoop (fnBody Tryz.f105) 0]) (by kernel_rfl) ⟨loopOne (L0:=loopCon N zA0.sk2 zA0.xs2 (fun {R}=>zA0.l2 (R:=R) N)) (id:=2) (by kernel_rfl) (by kernel_rfl) (zA0.o2 N),trivial⟩
theorem zA0.q2 {R R':Type} {N n:Nat} {d} {k} {g:R→Option R'}:bindF (loopP (zA0.l2 N) n d k) g=loopP (zA0.l2 N) n d fun e=>bindF (k e) g:=bindF_loopP (fun d kn kx=>by simp only [zA0.l2,bindF_ifB,bindF_bindO,bindF_pure,bindF_none,bindF_onSum]) n d k
theorem zA0.b (N:Nat) (x0:den s23) (x1:den (.int .i64)):body (zA0.cfg N) N Tryz.f105 [.one,.fn 87 1] [.v,.rd] [(false,.imm)] [⟨s23,.imm,x0⟩,⟨(.int .i64),.imm,x1⟩] (fun r i=>some (r,i))=bindO (zA0 N x0 x1) fun r=>some ([⟨(.int .i64),.imm,r⟩],[]):=by
  show _=bindF _ _
  conv=>rhs;simp only [zA0,bindF_ifB,bindF_bindO,bindF_pure,bindF_none,bindF_onSum,zA0.q2]
  kernel_rfl
theorem zA0.ok (N:Nat):ConOk Tryz.prog 105 [.one,.fn 87 1] (zA0.con N):=ok2 (g:=zA0.cfg N) (N:=N) (res:=[(false,.imm)]) tys_ok (zA0.cons N) mixed Tryz.func105 (zA0.ls N) rfl (zA0.b N)
theorem zA0.det (N:Nat):ConDet (zA0.con N):=det2
def zAG.con (N:Nat):Con:={ modes:=[.v,.rd],ptrs:=[false],fn:=fn2 s23 .imm (.int .i64) .imm (zAG N) (fun r=>[⟨.bool,.imm,r⟩]) (fun r=>[]) }
def zAG.cfg (N:Nat):Cfg:={ ty:=tys,keep:=[7],flt:=[],elm:=elm0,live:=[],ord:=[],con:=[((105,[.one,.fn 87 1]),zA0.con N)],loops:=[],joins:=[] }
theorem zAG.cons (N:Nat):ConsOk Tryz.prog (zAG.cfg N).con:=(consOk_cons (hb105) (zA0.ok N) (zA0.det N) consOk_nil)
theorem zAG.ls (N:Nat):LoopsOk Tryz.prog (zAG.cfg N) (fnBody Tryz.f86):=loopsL (l:=[]) (by kernel_rfl) trivial
theorem zAG.b (N:Nat) (x0:den s23) (x1:den (.int .i64)):body (zAG.cfg N) N Tryz.f86 [.one,.fn 87 1] [.v,.rd] [(false,.imm)] [⟨s23,.imm,x0⟩,⟨(.int .i64),.imm,x1⟩] (fun r i=>some (r,i))=bindO (zAG N x0 x1) fun r=>some ([⟨.bool,.imm,r⟩],[]):=by
  show _=bindF _ _
  conv=>rhs;simp only [zAG,bindF_ifB,bindF_bindO,bindF_pure,bindF_none,bindF_onSum]
  kernel_rfl
theorem zAG.ok (N:Nat):ConOk Tryz.prog 86 [.one,.fn 87 1] (zAG.con N):=ok2 (g:=zAG.cfg N) (N:=N) (res:=[(false,.imm)]) tys_ok (zAG.cons N) mixed Tryz.func86 (zAG.ls N) rfl (zAG.b N)
theorem zAG.det (N:Nat):ConDet (zAG.con N):=det2
def zCP.con (N:Nat):Con:={ modes:=[.v,.v],ptrs:=[false,false],fn:=fn2 (.int .u32) .imm (.int .u32) .imm (zCP N) (fun r=>[⟨(.int .u32),.imm,r.1⟩,⟨(.int .u32),.imm,r.2⟩]) (fun r=>[]) }
def zCP.cfg (N:Nat):Cfg:={ ty:=tys,keep:=[],flt:=[],elm:=elm0,live:=[],ord:=[],con:=[],loops:=[],joins:=[] }
theorem zCP.cons (N:Nat):ConsOk Tryz.prog (zCP.cfg N).con:=consOk_nil
theorem zCP.ls (N:Nat):LoopsOk Tryz.prog (zCP.cfg N) (fnBody Tryz.f111):=loopsL (l:=[]) (by kernel_rfl) trivial
theorem zCP.b (N:Nat) (x0:den (.int .u32)) (x1:den (.int .u32)):body (zCP.cfg N) N Tryz.f111 [.one,.one] [.v,.v] [(false,.imm),(false,.imm)] [⟨(.int .u32),.imm,x0⟩,⟨(.int .u32),.imm,x1⟩] (fun r i=>some (r,i))=bindO (zCP N x0 x1) fun r=>some ([⟨(.int .u32),.imm,r.1⟩,⟨(.int .u32),.imm,r.2⟩],[]):=by
  show _=bindF _ _
  conv=>rhs;simp only [zCP,bindF_ifB,bindF_bindO,bindF_pure,bindF_none,bindF_onSum]
  kernel_rfl
theorem zCP.ok (N:Nat):ConOk Tryz.prog 111 [.one,.one] (zCP.con N):=ok2 (g:=zCP.cfg N) (N:=N) (res:=[(false,.imm),(false,.imm)]) tys_ok (zCP.cons N) mixed Tryz.func111 (zCP.ls N) rfl (zCP.b N)
theorem zCP.det (N:Nat):ConDet (zCP.con N):=det2
end Go.AE.F
end
