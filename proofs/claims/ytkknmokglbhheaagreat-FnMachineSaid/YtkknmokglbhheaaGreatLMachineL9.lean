/- The printed functions are what the program comes to: contracts. -/
import Derived.Test.YtkknmokglbhheaaGreatLMachineL8
noncomputable section
namespace Go.AE.F
open Go.AE Go.Proofs
set_option maxRecDepth 100000
def zB4.sk1:Skel:=⟨.rp s25::(.pv (.int .i64)::(dd 23 [])),[]⟩
def zB4.xs1:List XS:=[⟨.exit 0,[1],⟨dd 1 (.pv (.int .i64)::(dd 23 [])),[]⟩⟩]
def zB4.con (N:Nat):Con:={ modes:=[.rd,.v],ptrs:=[false],fn:=fn2 s25 .imm (.int .i64) .imm (zB4 N) (fun r=>[⟨(.int .i64),.imm,r⟩]) (fun r=>[]) }
def zB4.cfg (N:Nat):Cfg:={ ty:=tys,keep:=[10],flt:=[],elm:=elm0,live:=[(1,[0,1,13,14,15,16,17,18,19,20])],ord:=[],con:=[((45,[.one]),zAR.con N)],loops:=[(1,loopCon N zB4.sk1 zB4.xs1 (fun {R}=>zB4.l1 (R:=R) N))],joins:=[] }
theorem zB4.cons (N:Nat):ConsOk Tryz.prog (zB4.cfg N).con:=(consOk_cons (hb45) (zAR.ok N) (zAR.det N) consOk_nil)
theorem zB4.h1 {R:Type} (N:Nat) (d:zB4.sk1.D) (kn:zB4.sk1.D→Option R) (kx:XD zB4.xs1→Option R):roundK (zB4.cfg N) N (nthLoop (fnBody Tryz.f120) 0) zB4.sk1 zB4.xs1 d kn kx=zB4.l1 N d kn kx:=by kernel_rfl
theorem zB4.i1 (N:Nat):LoopsOk Tryz.prog (zB4.cfg N) (nthLoop (fnBody Tryz.f120) 0):=loopsL (l:=[]) (by kernel_rfl) trivial
theorem zB4.o1 (N:Nat):LoopOk Tryz.prog (nthLoop (fnBody Tryz.f120) 0) (loopCon N zB4.sk1 zB4.xs1 (fun {R}=>zB4.l1 (R:=R) N)):=loop_ok (g:=zB4.cfg N) tys_ok (zB4.cons N) mixed (zB4.i1 N) (fun d kn kx=>zB4.h1 N d kn kx)
theorem zB4.ls (N:Nat):LoopsOk Tryz.prog (zB4.cfg N) (fnBody Tryz.f120):=loopsL (l:=[nthLoop (fnBody Tryz.f120) 0]) (by kernel_rfl) ⟨loopOne (L0:=loopCon N zB4.sk1 zB4.xs1 (fun {R}=>zB4.l1 (R:=R) N)) (id:=1) (by kernel_rfl) (by kernel_rfl) (zB4.o1 N),trivial⟩
theorem zB4.q1 {R R':Type} {N n:Nat} {d} {k} {g:R→Option R'}:bindF (loopP (zB4.l1 N) n d k) g=loopP (zB4.l1 N) n d fun e=>bindF (k e) g:=bindF_loopP (fun d kn kx=>by simp only [zB4.l1,bindF_ifB,bindF_bindO,bindF_pure,bindF_none,bindF_onSum]) n d k
theorem zB4.b (N:Nat) (x0:den s25) (x1:den (.int .i64)):body (zB4.cfg N) N Tryz.f120 [.one,.one] [.rd,.v] [(false,.imm)] [⟨s25,.imm,x0⟩,⟨(.int .i64),.imm,x1⟩] (fun r i=>some (r,i))=bindO (zB4 N x0 x1) fun r=>some ([⟨(.int .i64),.imm,r⟩],[]):=by
  show _=bindF _ _
  conv=>rhs;simp only [zB4,bindF_ifB,bindF_bindO,bindF_pure,bindF_none,bindF_onSum,zB4.q1]
  kernel_rfl
theorem zB4.ok (N:Nat):ConOk Tryz.prog 120 [.one,.one] (zB4.con N):=ok2 (g:=zB4.cfg N) (N:=N) (res:=[(false,.imm)]) tys_ok (zB4.cons N) mixed Tryz.func120 (zB4.ls N) rfl (zB4.b N)
theorem zB4.det (N:Nat):ConDet (zB4.con N):=det2
def zAY.sk3:Skel:=⟨dd 3 (.ov 50 []::(dd 6 (.pv s24::(.pv (.int .i64)::(.pv (.int .i64)::(dd 13 [])))))),[⟨50,s24,(.own .imm),false,false⟩]⟩
def zAY.xs3:List XS:=[⟨.exit 0,[3],⟨dd 3 (.ov 50 []::(dd 22 [])),[⟨50,s24,(.own .imm),false,false⟩]⟩⟩]
def zAY.con (N:Nat):Con:={ modes:=[.rd],ptrs:=[false],fn:=fn1 s25 .imm (zAY N) (fun r=>[⟨s24,(.own .imm),r⟩]) (fun r=>[]) }
def zAY.cfg (N:Nat):Cfg:={ ty:=tys,keep:=[],flt:=[],elm:=elm0,live:=[(3,[3,10,11,12])],ord:=[],con:=[],loops:=[(3,loopCon N zAY.sk3 zAY.xs3 (fun {R}=>zAY.l3 (R:=R) N))],joins:=[(7,[⟨.normal,[3,10,11,12],⟨dd 3 (.ov 50 []::(dd 6 (.pv s24::(.pv (.int .i64)::(.pv (.int .i64)::(dd 13 [])))))),[⟨50,s24,(.own .imm),false,false⟩]⟩⟩])] }
theorem zAY.cons (N:Nat):ConsOk Tryz.prog (zAY.cfg N).con:=consOk_nil
theorem zAY.h3 {R:Type} (N:Nat) (d:zAY.sk3.D) (kn:zAY.sk3.D→Option R) (kx:XD zAY.xs3→Option R):roundK (zAY.cfg N) N (nthLoop (fnBody Tryz.f126) 0) zAY.sk3 zAY.xs3 d kn kx=zAY.l3 N d kn kx:=by kernel_rfl
theorem zAY.i3 (N:Nat):LoopsOk Tryz.prog (zAY.cfg N) (nthLoop (fnBody Tryz.f126) 0):=loopsL (l:=[]) (by kernel_rfl) trivial
theorem zAY.o3 (N:Nat):LoopOk Tryz.prog (nthLoop (fnBody Tryz.f126) 0) (loopCon N zAY.sk3 zAY.xs3 (fun {R}=>zAY.l3 (R:=R) N)):=loop_ok (g:=zAY.cfg N) tys_ok (zAY.cons N) mixed (zAY.i3 N) (fun d kn kx=>zAY.h3 N d kn kx)
theorem zAY.ls (N:Nat):LoopsOk Tryz.prog (zAY.cfg N) (fnBody Tryz.f126):=loopsL (l:=[nthLoop (fnBody Tryz.f126) 0]) (by kernel_rfl) ⟨loopOne (L0:=loopCon N zAY.sk3 zAY.xs3 (fun {R}=>zAY.l3 (R:=R) N)) (id:=3) (by kernel_rfl) (by kernel_rfl) (zAY.o3 N),trivial⟩
theorem zAY.q3 {R R':Type} {N n:Nat} {d} {k} {g:R→Option R'}:bindF (loopP (zAY.l3 N) n d k) g=loopP (zAY.l3 N) n d fun e=>bindF (k e) g:=bindF_loopP (fun d kn kx=>by simp only [zAY.l3,bindF_ifB,bindF_bindO,bindF_pure,bindF_none,bindF_onSum]) n d k
theorem zAY.b (N:Nat) (x0:den s25):body (zAY.cfg N) N Tryz.f126 [.one] [.rd] [(false,(.own .imm))] [⟨s25,.imm,x0⟩] (fun r i=>some (r,i))=bindO (zAY N x0) fun r=>some ([⟨s24,(.own .imm),r⟩],[]):=by
  show _=bindF _ _
  conv=>rhs;simp only [zAY,bindF_ifB,bindF_bindO,bindF_pure,bindF_none,bindF_onSum,zAY.q3]
  kernel_rfl
theorem zAY.ok (N:Nat):ConOk Tryz.prog 126 [.one] (zAY.con N):=ok1 (g:=zAY.cfg N) (N:=N) (res:=[(false,(.own .imm))]) tys_ok (zAY.cons N) mixed Tryz.func126 (zAY.ls N) rfl (zAY.b N)
theorem zAY.det (N:Nat):ConDet (zAY.con N):=det1
def zAF.sk2:Skel:=⟨.pv s24::(.pv (.int .i64)::(dd 5 (.pv (.int .i64)::(.pv (.int .i64)::(dd 10 []))))),[]⟩
def zAF.xs2:List XS:=[⟨.exit 0,[],⟨dd 19 [],[]⟩⟩,⟨.ret,[4],⟨dd 4 (.pv (.int .i64)::(dd 14 [])),[]⟩⟩]
def zAF.con (N:Nat):Con:={ modes:=[.v,.v],ptrs:=[false],fn:=fn2 s24 .imm (.int .i64) .imm (zAF N) (fun r=>[⟨(.int .i64),.imm,r⟩]) (fun r=>[]) }
def zAF.cfg (N:Nat):Cfg:={ ty:=tys,keep:=[],flt:=[],elm:=elm0,live:=[(2,[0,1,7,8])],ord:=[],con:=[],loops:=[(2,loopCon N zAF.sk2 zAF.xs2 (fun {R}=>zAF.l2 (R:=R) N))],joins:=[] }
theorem zAF.cons (N:Nat):ConsOk Tryz.prog (zAF.cfg N).con:=consOk_nil
theorem zAF.h2 {R:Type} (N:Nat) (d:zAF.sk2.D) (kn:zAF.sk2.D→Option R) (kx:XD zAF.xs2→Option R):roundK (zAF.cfg N) N (nthLoop (fnBody Tryz.f125) 0) zAF.sk2 zAF.xs2 d kn kx=zAF.l2 N d kn kx:=by kernel_rfl
theorem zAF.i2 (N:Nat):LoopsOk Tryz.prog (zAF.cfg N) (nthLoop (fnBody Tryz.f125) 0):=loopsL (l:=[]) (by kernel_rfl) trivial
theorem zAF.o2 (N:Nat):LoopOk Tryz.prog (nthLoop (fnBody Tryz.f125) 0) (loopCon N zAF.sk2 zAF.xs2 (fun {R}=>zAF.l2 (R:=R) N)):=loop_ok (g:=zAF.cfg N) tys_ok (zAF.cons N) mixed (zAF.i2 N) (fun d kn kx=>zAF.h2 N d kn kx)
theorem zAF.ls (N:Nat):LoopsOk Tryz.prog (zAF.cfg N) (fnBody Tryz.f125):=loopsL (l:=[nthLoop (fnBody Tryz.f125) 0]) (by kernel_rfl) ⟨loopOne (L0:=loopCon N zAF.sk2 zAF.xs2 (fun {R}=>zAF.l2 (R:=R) N)) (id:=2) (by kernel_rfl) (by kernel_rfl) (zAF.o2 N),trivial⟩
theorem zAF.q2 {R R':Type} {N n:Nat} {d} {k} {g:R→Option R'}:bindF (loopP (zAF.l2 N) n d k) g=loopP (zAF.l2 N) n d fun e=>bindF (k e) g:=bindF_loopP (fun d kn kx=>by simp only [zAF.l2,bindF_ifB,bindF_bindO,bindF_pure,bindF_none,bindF_onSum]) n d k
theorem zAF.b (N:Nat) (x0:den s24) (x1:den (.int .i64)):body (zAF.cfg N) N Tryz.f125 [.one,.one] [.v,.v] [(false,.imm)] [⟨s24,.imm,x0⟩,⟨(.int .i64),.imm,x1⟩] (fun r i=>some (r,i))=bindO (zAF N x0 x1) fun r=>some ([⟨(.int .i64),.imm,r⟩],[]):=by
  show _=bindF _ _
  conv=>rhs;simp only [zAF,bindF_ifB,bindF_bindO,bindF_pure,bindF_none,bindF_onSum,zAF.q2]
  kernel_rfl
theorem zAF.ok (N:Nat):ConOk Tryz.prog 125 [.one,.one] (zAF.con N):=ok2 (g:=zAF.cfg N) (N:=N) (res:=[(false,.imm)]) tys_ok (zAF.cons N) mixed Tryz.func125 (zAF.ls N) rfl (zAF.b N)
theorem zAF.det (N:Nat):ConDet (zAF.con N):=det2
def zCI.con (N:Nat):Con:={ modes:=[.rd,.v],ptrs:=[false],fn:=fn2 s25 .imm (.int .i64) .imm (zCI N) (fun r=>[⟨s54,.imm,r⟩]) (fun r=>[]) }
def zCI.cfg (N:Nat):Cfg:={ ty:=tys,keep:=[8,10,12],flt:=[],elm:=elm0,live:=[],ord:=[],con:=[((119,[.one,.one]),zAZ.con N),((126,[.one]),zAY.con N),((125,[.one,.one]),zAF.con N)],loops:=[],joins:=[] }
theorem zCI.cons (N:Nat):ConsOk Tryz.prog (zCI.cfg N).con:=(consOk_cons (hb119) (zAZ.ok N) (zAZ.det N) (consOk_cons (hb126) (zAY.ok N) (zAY.det N) (consOk_cons (hb125) (zAF.ok N) (zAF.det N) consOk_nil)))
theorem zCI.ls (N:Nat):LoopsOk Tryz.prog (zCI.cfg N) (fnBody Tryz.f121):=loopsL (l:=[]) (by kernel_rfl) trivial
theorem zCI.b (N:Nat) (x0:den s25) (x1:den (.int .i64)):body (zCI.cfg N) N Tryz.f121 [.one,.one] [.rd,.v] [(false,.imm)] [⟨s25,.imm,x0⟩,⟨(.int .i64),.imm,x1⟩] (fun r i=>some (r,i))=bindO (zCI N x0 x1) fun r=>some ([⟨s54,.imm,r⟩],[]):=by
  show _=bindF _ _
  conv=>rhs;simp only [zCI,bindF_ifB,bindF_bindO,bindF_pure,bindF_none,bindF_onSum]
  kernel_rfl
theorem zCI.ok (N:Nat):ConOk Tryz.prog 121 [.one,.one] (zCI.con N):=ok2 (g:=zCI.cfg N) (N:=N) (res:=[(false,.imm)]) tys_ok (zCI.cons N) mixed Tryz.func121 (zCI.ls N) rfl (zCI.b N)
theorem zCI.det (N:Nat):ConDet (zCI.con N):=det2
def zCD.con (N:Nat):Con:={ modes:=[.rd,.v],ptrs:=[false],fn:=fn2 s25 .imm s54 .imm (zCD N) (fun r=>[⟨(.int .i64),.imm,r⟩]) (fun r=>[]) }
def zCD.cfg (N:Nat):Cfg:={ ty:=tys,keep:=[8,14,25],flt:=[],elm:=elm0,live:=[],ord:=[(2,[0,1,2,4,3,5,6,7,8,9,10]),(3,[0,1,2,4,5,7,3,6,8,9,10,11])],con:=[((126,[.one]),zAY.con N),((45,[.one]),zAR.con N),((120,[.one,.one]),zB4.con N)],loops:=[],joins:=[] }
theorem zCD.cons (N:Nat):ConsOk Tryz.prog (zCD.cfg N).con:=(consOk_cons (hb126) (zAY.ok N) (zAY.det N) (consOk_cons (hb45) (zAR.ok N) (zAR.det N) (consOk_cons (hb120) (zB4.ok N) (zB4.det N) consOk_nil)))
theorem zCD.ls (N:Nat):LoopsOk Tryz.prog (zCD.cfg N) (fnBody Tryz.f122):=loopsL (l:=[]) (by kernel_rfl) trivial
theorem zCD.b (N:Nat) (x0:den s25) (x1:den s54):body (zCD.cfg N) N Tryz.f122 [.one,.one] [.rd,.v] [(false,.imm)] [⟨s25,.imm,x0⟩,⟨s54,.imm,x1⟩] (fun r i=>some (r,i))=bindO (zCD N x0 x1) fun r=>some ([⟨(.int .i64),.imm,r⟩],[]):=by
  show _=bindF _ _
  conv=>rhs;simp only [zCD,bindF_ifB,bindF_bindO,bindF_pure,bindF_none,bindF_onSum]
  kernel_rfl
theorem zCD.ok (N:Nat):ConOk Tryz.prog 122 [.one,.one] (zCD.con N):=ok2 (g:=zCD.cfg N) (N:=N) (res:=[(false,.imm)]) tys_ok (zCD.cons N) mixed Tryz.func122 (zCD.ls N) rfl (zCD.b N)
theorem zCD.det (N:Nat):ConDet (zCD.con N):=det2
def zB2.sk26:Skel:=⟨.rp s25::(.pv (.int .i64)::(dd 1 (.pv (.int .i64)::(dd 5 (.pv (.int .i64)::(dd 1 (.pv (.int .i64)::(dd 85 [])))))))),[]⟩
def zB2.xs26:List XS:=[⟨.exit 1,[1],⟨dd 1 (.pv (.int .i64)::(dd 95 [])),[]⟩⟩,⟨.ret,[8],⟨dd 8 (.pv (.int .i64)::(dd 88 [])),[]⟩⟩]
def zB2.con (N:Nat):Con:={ modes:=[.rd,.v,.v,.v],ptrs:=[false],fn:=fn4 s25 .imm (.int .i64) .imm (.int .i64) .imm (.int .i64) .imm (zB2 N) (fun r=>[⟨(.int .i64),.imm,r⟩]) (fun r=>[]) }
def zB2.cfg (N:Nat):Cfg:={ ty:=tys,keep:=[16,33,38,43,48,54,62,73],flt:=[],elm:=elm0,live:=[(26,[0,1,3,9,11])],ord:=[(17,[13,0,1,5,6,7,8,9,2,3,4,10,11,12,14])],con:=[((45,[.one]),zAR.con N),((117,[.one,.one]),zAC.con N),((118,[.one,.one]),zAE.con N),((119,[.one,.one]),zAZ.con N),((120,[.one,.one]),zB4.con N),((121,[.one,.one]),zCI.con N),((122,[.one,.one]),zCD.con N)],loops:=[(26,loopCon N zB2.sk26 zB2.xs26 (fun {R}=>zB2.l26 (R:=R) N))],joins:=[] }
theorem zB2.cons (N:Nat):ConsOk Tryz.prog (zB2.cfg N).con:=(consOk_cons (hb45) (zAR.ok N) (zAR.det N) (consOk_cons (hb117) (zAC.ok N) (zAC.det N) (consOk_cons (hb118) (zAE.ok N) (zAE.det N) (consOk_cons (hb119) (zAZ.ok N) (zAZ.det N) (consOk_cons (hb120) (zB4.ok N) (zB4.det N) (consOk_cons (hb121) (zCI.ok N) (zCI.det N) (consOk_cons (hb122) (zCD.ok N) (zCD.det N) consOk_nil)))))))
theorem zB2.h26 {R:Type} (N:Nat) (d:zB2.sk26.D) (kn:zB2.sk26.D→Option R) (kx:XD zB2.xs26→Option R):roundK (zB2.cfg N) N (nthLoop (fnBody Tryz.f114) 0) zB2.sk26 zB2.xs26 d kn kx=zB2.l26 N d kn kx:=by kernel_rfl
theorem zB2.i26 (N:Nat):LoopsOk Tryz.prog (zB2.cfg N) (nthLoop (fnBody Tryz.f114) 0):=loopsL (l:=[]) (by kernel_rfl) trivial
theorem zB2.o26 (N:Nat):LoopOk Tryz.prog (nthLoop (fnBody Tryz.f114) 0) (loopCon N zB2.sk26 zB2.xs26 (fun {R}=>zB2.l26 (R:=R) N)):=loop_ok (g:=zB2.cfg N) tys_ok (zB2.cons N) mixed (zB2.i26 N) (fun d kn kx=>zB2.h26 N d kn kx)
theorem zB2.ls (N:Nat):LoopsOk Tryz.prog (zB2.cfg N) (fnBody Tryz.f114):=loopsL (l:=[nthLoop (fnBody Tryz.f114) 0]) (by kernel_rfl) ⟨loopOne (L0:=loopCon N zB2.sk26 zB2.xs26 (fun {R}=>zB2.l26 (R:=R) N)) (id:=26) (by kernel_rfl) (by kernel_rfl) (zB2.o26 N),trivial⟩
theorem zB2.q26 {R R':Type} {N n:Nat} {d} {k} {g:R→Option R'}:bindF (loopP (zB2.l26 N) n d k) g=loopP (zB2.l26 N) n d fun e=>bindF (k e) g:=bindF_loopP (fun d kn kx=>by simp only [zB2.l26,bindF_ifB,bindF_bindO,bindF_pure,bindF_none,bindF_onSum]) n d k
theorem zB2.b (N:Nat) (x0:den s25) (x1:den (.int .i64)) (x2:den (.int .i64)) (x3:den (.int .i64)):body (zB2.cfg N) N Tryz.f114 [.one,.one,.one,.one] [.rd,.v,.v,.v] [(false,.imm)] [⟨s25,.imm,x0⟩,⟨(.int .i64),.imm,x1⟩,⟨(.int .i64),.imm,x2⟩,⟨(.int .i64),.imm,x3⟩] (fun r i=>some (r,i))=bindO (zB2 N x0 x1 x2 x3) fun r=>some ([⟨(.int .i64),.imm,r⟩],[]):=by
  show _=bindF _ _
  conv=>rhs;simp only [zB2,bindF_ifB,bindF_bindO,bindF_pure,bindF_none,bindF_onSum,zB2.q26]
  kernel_rfl
theorem zB2.ok (N:Nat):ConOk Tryz.prog 114 [.one,.one,.one,.one] (zB2.con N):=ok4 (g:=zB2.cfg N) (N:=N) (res:=[(false,.imm)]) tys_ok (zB2.cons N) mixed Tryz.func114 (zB2.ls N) rfl (zB2.b N)
theorem zB2.det (N:Nat):ConDet (zB2.con N):=det4
def zAW.sk3:Skel:=⟨.rp s25::(.pv (.int .i64)::(dd 1 (.pv (.int .i64)::(dd 5 (.pv (.int .i64)::(dd 5 (.pv (.int .i64)::(.pv (.int .i64)::(dd 12 []))))))))),[]⟩
def zAW.xs3:List XS:=[⟨.exit 0,[9],⟨dd 9 (.pv (.int .i64)::(dd 19 [])),[]⟩⟩]
def zAW.con (N:Nat):Con:={ modes:=[.rd,.v,.v,.v],ptrs:=[false],fn:=fn4 s25 .imm (.int .i64) .imm (.int .i64) .imm (.int .i64) .imm (zAW N) (fun r=>[⟨(.int .i64),.imm,r⟩]) (fun r=>[]) }
def zAW.cfg (N:Nat):Cfg:={ ty:=tys,keep:=[22],flt:=[],elm:=elm0,live:=[(3,[0,1,3,9,15,16])],ord:=[],con:=[((114,[.one,.one,.one,.one]),zB2.con N)],loops:=[(3,loopCon N zAW.sk3 zAW.xs3 (fun {R}=>zAW.l3 (R:=R) N))],joins:=[] }
theorem zAW.cons (N:Nat):ConsOk Tryz.prog (zAW.cfg N).con:=(consOk_cons (hb114) (zB2.ok N) (zB2.det N) consOk_nil)
theorem zAW.h3 {R:Type} (N:Nat) (d:zAW.sk3.D) (kn:zAW.sk3.D→Option R) (kx:XD zAW.xs3→Option R):roundK (zAW.cfg N) N (nthLoop (fnBody Tryz.f109) 0) zAW.sk3 zAW.xs3 d kn kx=zAW.l3 N d kn kx:=by kernel_rfl
theorem zAW.i3 (N:Nat):LoopsOk Tryz.prog (zAW.cfg N) (nthLoop (fnBody Tryz.f109) 0):=loopsL (l:=[]) (by kernel_rfl) trivial
theorem zAW.o3 (N:Nat):LoopOk Tryz.prog (nthLoop (fnBody Tryz.f109) 0) (loopCon N zAW.sk3 zAW.xs3 (fun {R}=>zAW.l3 (R:=R) N)):=loop_ok (g:=zAW.cfg N) tys_ok (zAW.cons N) mixed (zAW.i3 N) (fun d kn kx=>zAW.h3 N d kn kx)
theorem zAW.ls (N:Nat):LoopsOk Tryz.prog (zAW.cfg N) (fnBody Tryz.f109):=loopsL (l:=[nthLoop (fnBody Tryz.f109) 0]) (by kernel_rfl) ⟨loopOne (L0:=loopCon N zAW.sk3 zAW.xs3 (fun {R}=>zAW.l3 (R:=R) N)) (id:=3) (by kernel_rfl) (by kernel_rfl) (zAW.o3 N),trivial⟩
theorem zAW.q3 {R R':Type} {N n:Nat} {d} {k} {g:R→Option R'}:bindF (loopP (zAW.l3 N) n d k) g=loopP (zAW.l3 N) n d fun e=>bindF (k e) g:=bindF_loopP (fun d kn kx=>by simp only [zAW.l3,bindF_ifB,bindF_bindO,bindF_pure,bindF_none,bindF_onSum]) n d k
theorem zAW.b (N:Nat) (x0:den s25) (x1:den (.int .i64)) (x2:den (.int .i64)) (x3:den (.int .i64)):body (zAW.cfg N) N Tryz.f109 [.one,.one,.one,.one] [.rd,.v,.v,.v] [(false,.imm)] [⟨s25,.imm,x0⟩,⟨(.int .i64),.imm,x1⟩,⟨(.int .i64),.imm,x2⟩,⟨(.int .i64),.imm,x3⟩] (fun r i=>some (r,i))=bindO (zAW N x0 x1 x2 x3) fun r=>some ([⟨(.int .i64),.imm,r⟩],[]):=by
  show _=bindF _ _
  conv=>rhs;simp only [zAW,bindF_ifB,bindF_bindO,bindF_pure,bindF_none,bindF_onSum,zAW.q3]
  kernel_rfl
theorem zAW.ok (N:Nat):ConOk Tryz.prog 109 [.one,.one,.one,.one] (zAW.con N):=ok4 (g:=zAW.cfg N) (N:=N) (res:=[(false,.imm)]) tys_ok (zAW.cons N) mixed Tryz.func109 (zAW.ls N) rfl (zAW.b N)
theorem zAW.det (N:Nat):ConDet (zAW.con N):=det4
def zDD.con (N:Nat):Con:={ modes:=[.v,.v,.v,.v],ptrs:=[false],fn:=fn4 s25 .imm (.int .i64) .imm (.int .i64) .imm (.int .i64) .imm (zDD N) (fun r=>[⟨(.int .i64),.imm,r⟩]) (fun r=>[]) }
def zDD.cfg (N:Nat):Cfg:={ ty:=tys,keep:=[10,14,19,25],flt:=[],elm:=elm0,live:=[],ord:=[],con:=[((9,[.one]),zC6.con N),((37,[.one,.one,.one]),zB5.con N),((109,[.one,.one,.one,.one]),zAW.con N)],loops:=[],joins:=[] }
theorem zDD.cons (N:Nat):ConsOk Tryz.prog (zDD.cfg N).con:=(consOk_cons (hb9) (zC6.ok N) (zC6.det N) (consOk_cons (hb37) (zB5.ok N) (zB5.det N) (consOk_cons (hb109) (zAW.ok N) (zAW.det N) consOk_nil)))
theorem zDD.ls (N:Nat):LoopsOk Tryz.prog (zDD.cfg N) (fnBody Tryz.f92):=loopsL (l:=[]) (by kernel_rfl) trivial
theorem zDD.b (N:Nat) (x0:den s25) (x1:den (.int .i64)) (x2:den (.int .i64)) (x3:den (.int .i64)):body (zDD.cfg N) N Tryz.f92 [.one,.one,.one,.one] [.v,.v,.v,.v] [(false,.imm)] [⟨s25,.imm,x0⟩,⟨(.int .i64),.imm,x1⟩,⟨(.int .i64),.imm,x2⟩,⟨(.int .i64),.imm,x3⟩] (fun r i=>some (r,i))=bindO (zDD N x0 x1 x2 x3) fun r=>some ([⟨(.int .i64),.imm,r⟩],[]):=by
  show _=bindF _ _
  conv=>rhs;simp only [zDD,bindF_ifB,bindF_bindO,bindF_pure,bindF_none,bindF_onSum]
  kernel_rfl
theorem zDD.ok (N:Nat):ConOk Tryz.prog 92 [.one,.one,.one,.one] (zDD.con N):=ok4 (g:=zDD.cfg N) (N:=N) (res:=[(false,.imm)]) tys_ok (zDD.cons N) mixed Tryz.func92 (zDD.ls N) rfl (zDD.b N)
theorem zDD.det (N:Nat):ConDet (zDD.con N):=det4
def zCU.con (N:Nat):Con:={ modes:=[.v,.v,.v,.v],ptrs:=[false],fn:=fn4 s25 .imm (.int .i64) .imm (.int .i64) .imm (.int .i64) .imm (zCU N) (fun r=>[⟨s25,(.pr (.own .imm) .imm),r⟩]) (fun r=>[]) }
def zCU.cfg (N:Nat):Cfg:={ ty:=tys,keep:=[12,17],flt:=[],elm:=elm0,live:=[],ord:=[],con:=[((38,[.one]),zCL.con N),((92,[.one,.one,.one,.one]),zDD.con N)],loops:=[],joins:=[] }
theorem zCU.cons (N:Nat):ConsOk Tryz.prog (zCU.cfg N).con:=(consOk_cons (hb38) (zCL.ok N) (zCL.det N) (consOk_cons (hb92) (zDD.ok N) (zDD.det N) consOk_nil))
theorem zCU.ls (N:Nat):LoopsOk Tryz.prog (zCU.cfg N) (fnBody Tryz.f73):=loopsL (l:=[]) (by kernel_rfl) trivial
theorem zCU.b (N:Nat) (x0:den s25) (x1:den (.int .i64)) (x2:den (.int .i64)) (x3:den (.int .i64)):body (zCU.cfg N) N Tryz.f73 [.one,.one,.one,.one] [.v,.v,.v,.v] [(false,(.pr (.own .imm) .imm))] [⟨s25,.imm,x0⟩,⟨(.int .i64),.imm,x1⟩,⟨(.int .i64),.imm,x2⟩,⟨(.int .i64),.imm,x3⟩] (fun r i=>some (r,i))=bindO (zCU N x0 x1 x2 x3) fun r=>some ([⟨s25,(.pr (.own .imm) .imm),r⟩],[]):=by
  show _=bindF _ _
  conv=>rhs;simp only [zCU,bindF_ifB,bindF_bindO,bindF_pure,bindF_none,bindF_onSum]
  kernel_rfl
theorem zCU.ok (N:Nat):ConOk Tryz.prog 73 [.one,.one,.one,.one] (zCU.con N):=ok4 (g:=zCU.cfg N) (N:=N) (res:=[(false,(.pr (.own .imm) .imm))]) tys_ok (zCU.cons N) mixed Tryz.func73 (zCU.ls N) rfl (zCU.b N)
theorem zCU.det (N:Nat):ConDet (zCU.con N):=det4
def zAP.con (N:Nat):Con:={ modes:=[.io,.v],ptrs:=[],fn:=fn2 s79 (.pr .imm (.pr (.own .imm) .imm)) s54 .imm (zAP N) (fun r=>[]) (fun r=>[⟨s79,(.pr .imm (.pr (.own .imm) .imm)),r⟩]) }
def zAP.cfg (N:Nat):Cfg:={ ty:=tys,keep:=[],flt:=[],elm:=elm0,live:=[],ord:=[(14,[0,1,2,3,4,5,6,7,8]),(16,[0,1,2,3,4,5,6,7]),(28,[0,1,2,3,4,5,6,7,8,9]),(45,[0,1,2,3,4,5,6,7,8,9,10,11,12])],con:=[((62,[.one]),zDA.con N),((63,[.one]),zB6.con N),((64,[.one]),zC3.con N),((65,[.one,.one]),zAD.con N),((45,[.one]),zAR.con N),((66,[.one,.one]),zCJ.con N),((67,[.one]),zDG.con N),((68,[.one,.one,.one,.one]),zCA.con N),((69,[.one,.one]),zBQ.con N),((70,[.one,.one,.one]),zBR.con N),((71,[.one,.one]),zC0.con N),((72,[.one,.one]),zBP.con N),((73,[.one,.one,.one,.one]),zCU.con N)],loops:=[],joins:=[] }
theorem zAP.cons (N:Nat):ConsOk Tryz.prog (zAP.cfg N).con:=(consOk_cons (hb62) (zDA.ok N) (zDA.det N) (consOk_cons (hb63) (zB6.ok N) (zB6.det N) (consOk_cons (hb64) (zC3.ok N) (zC3.det N) (consOk_cons (hb65) (zAD.ok N) (zAD.det N) (consOk_cons (hb45) (zAR.ok N) (zAR.det N) (consOk_cons (hb66) (zCJ.ok N) (zCJ.det N) (consOk_cons (hb67) (zDG.ok N) (zDG.det N) (consOk_cons (hb68) (zCA.ok N) (zCA.det N) (consOk_cons (hb69) (zBQ.ok N) (zBQ.det N) (consOk_cons (hb70) (zBR.ok N) (zBR.det N) (consOk_cons (hb71) (zC0.ok N) (zC0.det N) (consOk_cons (hb72) (zBP.ok N) (zBP.det N) (consOk_cons (hb73) (zCU.ok N) (zCU.det N) consOk_nil)))))))))))))
theorem zAP.ls (N:Nat):LoopsOk Tryz.prog (zAP.cfg N) (fnBody Tryz.f40):=loopsL (l:=[]) (by kernel_rfl) trivial
theorem zAP.b (N:Nat) (x0:den s79) (x1:den s54):body (zAP.cfg N) N Tryz.f40 [.one,.one] [.io,.v] [] [⟨s79,(.pr .imm (.pr (.own .imm) .imm)),x0⟩,⟨s54,.imm,x1⟩] (fun r i=>some (r,i))=bindO (zAP N x0 x1) fun r=>some ([],[⟨s79,(.pr .imm (.pr (.own .imm) .imm)),r⟩]):=by
  show _=bindF _ _
  conv=>rhs;simp only [zAP,bindF_ifB,bindF_bindO,bindF_pure,bindF_none,bindF_onSum]
  kernel_rfl
theorem zAP.ok (N:Nat):ConOk Tryz.prog 40 [.one,.one] (zAP.con N):=ok2 (g:=zAP.cfg N) (N:=N) (res:=[]) tys_ok (zAP.cons N) mixed Tryz.func40 (zAP.ls N) rfl (zAP.b N)
theorem zAP.det (N:Nat):ConDet (zAP.con N):=det2
def zCF.con (N:Nat):Con:={ modes:=[.rd,.v],ptrs:=[false],fn:=fn2 s29 .imm s25 .imm (zCF N) (fun r=>[⟨s29,(.pr (.pr (.own .imm) .imm) .imm),r⟩]) (fun r=>[]) }
def zCF.cfg (N:Nat):Cfg:={ ty:=tys,keep:=[11,21],flt:=[],elm:=elm0,live:=[],ord:=[(2,[0,2,3,4,5,1,6,7]),(3,[0,1,2,3,5,6,7,8,9,10,11,12,4,13,14])],con:=[((38,[.one]),zCL.con N)],loops:=[],joins:=[] }
theorem zCF.cons (N:Nat):ConsOk Tryz.prog (zCF.cfg N).con:=(consOk_cons (hb38) (zCL.ok N) (zCL.det N) consOk_nil)
theorem zCF.ls (N:Nat):LoopsOk Tryz.prog (zCF.cfg N) (fnBody Tryz.f41):=loopsL (l:=[]) (by kernel_rfl) trivial
theorem zCF.b (N:Nat) (x0:den s29) (x1:den s25):body (zCF.cfg N) N Tryz.f41 [.one,.one] [.rd,.v] [(false,(.pr (.pr (.own .imm) .imm) .imm))] [⟨s29,.imm,x0⟩,⟨s25,.imm,x1⟩] (fun r i=>some (r,i))=bindO (zCF N x0 x1) fun r=>some ([⟨s29,(.pr (.pr (.own .imm) .imm) .imm),r⟩],[]):=by
  show _=bindF _ _
  conv=>rhs;simp only [zCF,bindF_ifB,bindF_bindO,bindF_pure,bindF_none,bindF_onSum]
  kernel_rfl
theorem zCF.ok (N:Nat):ConOk Tryz.prog 41 [.one,.one] (zCF.con N):=ok2 (g:=zCF.cfg N) (N:=N) (res:=[(false,(.pr (.pr (.own .imm) .imm) .imm))]) tys_ok (zCF.cons N) mixed Tryz.func41 (zCF.ls N) rfl (zCF.b N)
theorem zCF.det (N:Nat):ConDet (zCF.con N):=det2
def zBJ.sk4:Skel:=⟨.pv s23::(dd 1 (.pv (.int .i64)::(dd 1 (.ptr 50 []::(dd 1 (.ptr 51 []::(dd 1 (.ptr 52 []::(.pv (.int .i64)::(dd 61 [])))))))))),[⟨50,s25,.imm,true,false⟩,⟨51,s29,(.pr (.pr (.own .imm) .imm) .imm),true,false⟩,⟨52,s79,(.pr .imm (.pr (.own .imm) .imm)),true,false⟩]⟩
def zBJ.xs4:List XS:=[⟨.exit 0,[4,6,8,9],⟨dd 4 (.ptr 50 []::(dd 1 (.ptr 51 []::(dd 1 (.ptr 52 []::(.pv (.int .i64)::(dd 61 []))))))),[⟨50,s25,.imm,true,false⟩,⟨51,s29,(.pr (.pr (.own .imm) .imm) .imm),true,false⟩,⟨52,s79,(.pr .imm (.pr (.own .imm) .imm)),true,false⟩]⟩⟩]
def zBJ.con (N:Nat):Con:={ modes:=[.v,.v,.v],ptrs:=[false,false],fn:=fn3 s23 .imm s25 .imm (.int .i64) .imm (zBJ N) (fun r=>[⟨s29,(.pr (.pr (.own .imm) .imm) .imm),r.1⟩,⟨(.int .i64),.imm,r.2⟩]) (fun r=>[]) }
def zBJ.cfg (N:Nat):Cfg:={ ty:=tys,keep:=[69],flt:=[27],elm:=elm0,live:=[(4,[0,2,4,6,8,9,37,38,39,40,41,42,43])],ord:=[(4,[0,1,2,3,4,5,6,7,8,9,10,11,12,13,14]),(9,[0,1,2,3,5,4,6,7])],con:=[((36,[.one]),zCN.con N),((9,[.one]),zC6.con N),((37,[.one,.one,.one]),zB5.con N),((38,[.one]),zCL.con N),((39,[.one]),zBE.con N),((40,[.one,.one]),zAP.con N),((41,[.one,.one]),zCF.con N)],loops:=[(4,loopCon N zBJ.sk4 zBJ.xs4 (fun {R}=>zBJ.l4 (R:=R) N))],joins:=[] }
theorem zBJ.cons (N:Nat):ConsOk Tryz.prog (zBJ.cfg N).con:=(consOk_cons (hb36) (zCN.ok N) (zCN.det N) (consOk_cons (hb9) (zC6.ok N) (zC6.det N) (consOk_cons (hb37) (zB5.ok N) (zB5.det N) (consOk_cons (hb38) (zCL.ok N) (zCL.det N) (consOk_cons (hb39) (zBE.ok N) (zBE.det N) (consOk_cons (hb40) (zAP.ok N) (zAP.det N) (consOk_cons (hb41) (zCF.ok N) (zCF.det N) consOk_nil)))))))
theorem zBJ.h4 {R:Type} (N:Nat) (d:zBJ.sk4.D) (kn:zBJ.sk4.D→Option R) (kx:XD zBJ.xs4→Option R):roundK (zBJ.cfg N) N (nthLoop (fnBody Tryz.f17) 0) zBJ.sk4 zBJ.xs4 d kn kx=zBJ.l4 N d kn kx:=by kernel_rfl
theorem zBJ.i4 (N:Nat):LoopsOk Tryz.prog (zBJ.cfg N) (nthLoop (fnBody Tryz.f17) 0):=loopsL (l:=[]) (by kernel_rfl) trivial
theorem zBJ.o4 (N:Nat):LoopOk Tryz.prog (nthLoop (fnBody Tryz.f17) 0) (loopCon N zBJ.sk4 zBJ.xs4 (fun {R}=>zBJ.l4 (R:=R) N)):=loop_ok (g:=zBJ.cfg N) tys_ok (zBJ.cons N) mixed (zBJ.i4 N) (fun d kn kx=>zBJ.h4 N d kn kx)
theorem zBJ.ls (N:Nat):LoopsOk Tryz.prog (zBJ.cfg N) (fnBody Tryz.f17):=loopsL (l:=[nthLoop (fnBody Tryz.f17) 0]) (by kernel_rfl) ⟨loopOne (L0:=loopCon N zBJ.sk4 zBJ.xs4 (fun {R}=>zBJ.l4 (R:=R) N)) (id:=4) (by kernel_rfl) (by kernel_rfl) (zBJ.o4 N),trivial⟩
theorem zBJ.q4 {R R':Type} {N n:Nat} {d} {k} {g:R→Option R'}:bindF (loopP (zBJ.l4 N) n d k) g=loopP (zBJ.l4 N) n d fun e=>bindF (k e) g:=bindF_loopP (fun d kn kx=>by simp only [zBJ.l4,bindF_ifB,bindF_bindO,bindF_pure,bindF_none,bindF_onSum]) n d k
theorem zBJ.b (N:Nat) (x0:den s23) (x1:den s25) (x2:den (.int .i64)):body (zBJ.cfg N) N Tryz.f17 [.one,.one,.one] [.v,.v,.v] [(false,(.pr (.pr (.own .imm) .imm) .imm)),(false,.imm)] [⟨s23,.imm,x0⟩,⟨s25,.imm,x1⟩,⟨(.int .i64),.imm,x2⟩] (fun r i=>some (r,i))=bindO (zBJ N x0 x1 x2) fun r=>some ([⟨s29,(.pr (.pr (.own .imm) .imm) .imm),r.1⟩,⟨(.int .i64),.imm,r.2⟩],[]):=by
  show _=bindF _ _
  conv=>rhs;simp only [zBJ,bindF_ifB,bindF_bindO,bindF_pure,bindF_none,bindF_onSum,zBJ.q4]
  kernel_rfl
theorem zBJ.ok (N:Nat):ConOk Tryz.prog 17 [.one,.one,.one] (zBJ.con N):=ok3 (g:=zBJ.cfg N) (N:=N) (res:=[(false,(.pr (.pr (.own .imm) .imm) .imm)),(false,.imm)]) tys_ok (zBJ.cons N) mixed Tryz.func17 (zBJ.ls N) rfl (zBJ.b N)
theorem zBJ.det (N:Nat):ConDet (zBJ.con N):=det3
end Go.AE.F
end
