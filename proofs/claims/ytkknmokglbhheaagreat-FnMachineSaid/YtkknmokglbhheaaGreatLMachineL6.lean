/- The printed functions are what the program comes to: contracts. -/
import Derived.Test.YtkknmokglbhheaaGreatLMachineL5
noncomputable section
namespace Go.AE.F
open Go.AE Go.Proofs
set_option maxRecDepth 100000
def zCK.con (N:Nat):Con:={ modes:=[.v,.v],ptrs:=[false,false],fn:=fn2 (.int .u64) .imm (.int .u64) .imm (zCK N) (fun r=>[⟨(.int .u64),.imm,r.1⟩,⟨(.int .u64),.imm,r.2⟩]) (fun r=>[]) }
def zCK.cfg (N:Nat):Cfg:={ ty:=tys,keep:=[],flt:=[],elm:=elm0,live:=[],ord:=[],con:=[],loops:=[],joins:=[] }
theorem zCK.cons (N:Nat):ConsOk Tryz.prog (zCK.cfg N).con:=consOk_nil
theorem zCK.ls (N:Nat):LoopsOk Tryz.prog (zCK.cfg N) (fnBody Tryz.f112):=loopsL (l:=[]) (by kernel_rfl) trivial
theorem zCK.b (N:Nat) (x0:den (.int .u64)) (x1:den (.int .u64)):body (zCK.cfg N) N Tryz.f112 [.one,.one] [.v,.v] [(false,.imm),(false,.imm)] [⟨(.int .u64),.imm,x0⟩,⟨(.int .u64),.imm,x1⟩] (fun r i=>some (r,i))=bindO (zCK N x0 x1) fun r=>some ([⟨(.int .u64),.imm,r.1⟩,⟨(.int .u64),.imm,r.2⟩],[]):=by
  show _=bindF _ _
  conv=>rhs;simp only [zCK,bindF_ifB,bindF_bindO,bindF_pure,bindF_none,bindF_onSum]
  kernel_rfl
theorem zCK.ok (N:Nat):ConOk Tryz.prog 112 [.one,.one] (zCK.con N):=ok2 (g:=zCK.cfg N) (N:=N) (res:=[(false,.imm),(false,.imm)]) tys_ok (zCK.cons N) mixed Tryz.func112 (zCK.ls N) rfl (zCK.b N)
theorem zCK.det (N:Nat):ConDet (zCK.con N):=det2
def zCZ.con (N:Nat):Con:={ modes:=[.v,.v],ptrs:=[false,false],fn:=fn2 (.int .u64) .imm (.int .u64) .imm (zCZ N) (fun r=>[⟨(.int .u64),.imm,r.1⟩,⟨(.int .u64),.imm,r.2⟩]) (fun r=>[]) }
def zCZ.cfg (N:Nat):Cfg:={ ty:=tys,keep:=[15,25],flt:=[],elm:=elm0,live:=[],ord:=[],con:=[((111,[.one,.one]),zCP.con N),((112,[.one,.one]),zCK.con N)],loops:=[],joins:=[] }
theorem zCZ.cons (N:Nat):ConsOk Tryz.prog (zCZ.cfg N).con:=(consOk_cons (hb111) (zCP.ok N) (zCP.det N) (consOk_cons (hb112) (zCK.ok N) (zCK.det N) consOk_nil))
theorem zCZ.ls (N:Nat):LoopsOk Tryz.prog (zCZ.cfg N) (fnBody Tryz.f106):=loopsL (l:=[]) (by kernel_rfl) trivial
theorem zCZ.b (N:Nat) (x0:den (.int .u64)) (x1:den (.int .u64)):body (zCZ.cfg N) N Tryz.f106 [.one,.one] [.v,.v] [(false,.imm),(false,.imm)] [⟨(.int .u64),.imm,x0⟩,⟨(.int .u64),.imm,x1⟩] (fun r i=>some (r,i))=bindO (zCZ N x0 x1) fun r=>some ([⟨(.int .u64),.imm,r.1⟩,⟨(.int .u64),.imm,r.2⟩],[]):=by
  show _=bindF _ _
  conv=>rhs;simp only [zCZ,bindF_ifB,bindF_bindO,bindF_pure,bindF_none,bindF_onSum]
  kernel_rfl
theorem zCZ.ok (N:Nat):ConOk Tryz.prog 106 [.one,.one] (zCZ.con N):=ok2 (g:=zCZ.cfg N) (N:=N) (res:=[(false,.imm),(false,.imm)]) tys_ok (zCZ.cons N) mixed Tryz.func106 (zCZ.ls N) rfl (zCZ.b N)
theorem zCZ.det (N:Nat):ConDet (zCZ.con N):=det2
def zAB.sk8:Skel:=⟨dd 7 (.ov 50 []::(.pv (.int .i64)::(dd 39 []))),[⟨50,s24,(.own .imm),false,false⟩]⟩
def zAB.xs8:List XS:=[⟨.exit 0,[7],⟨dd 7 (.ov 50 []::(dd 40 [])),[⟨50,s24,(.own .imm),false,false⟩]⟩⟩]
def zAB.con (N:Nat):Con:={ modes:=[.v,.v],ptrs:=[false],fn:=fn2 s24 .imm (.int .i64) .imm (zAB N) (fun r=>[⟨s24,(.own .imm),r⟩]) (fun r=>[]) }
def zAB.cfg (N:Nat):Cfg:={ ty:=tys,keep:=[18],flt:=[],elm:=elm0,live:=[(8,[7,8])],ord:=[(9,[0,1,2,3,4,5,6,7,8,9])],con:=[((106,[.one,.one]),zCZ.con N)],loops:=[(8,loopCon N zAB.sk8 zAB.xs8 (fun {R}=>zAB.l8 (R:=R) N))],joins:=[] }
theorem zAB.cons (N:Nat):ConsOk Tryz.prog (zAB.cfg N).con:=(consOk_cons (hb106) (zCZ.ok N) (zCZ.det N) consOk_nil)
theorem zAB.h8 {R:Type} (N:Nat) (d:zAB.sk8.D) (kn:zAB.sk8.D→Option R) (kx:XD zAB.xs8→Option R):roundK (zAB.cfg N) N (nthLoop (fnBody Tryz.f89) 0) zAB.sk8 zAB.xs8 d kn kx=zAB.l8 N d kn kx:=by kernel_rfl
theorem zAB.i8 (N:Nat):LoopsOk Tryz.prog (zAB.cfg N) (nthLoop (fnBody Tryz.f89) 0):=loopsL (l:=[]) (by kernel_rfl) trivial
theorem zAB.o8 (N:Nat):LoopOk Tryz.prog (nthLoop (fnBody Tryz.f89) 0) (loopCon N zAB.sk8 zAB.xs8 (fun {R}=>zAB.l8 (R:=R) N)):=loop_ok (g:=zAB.cfg N) tys_ok (zAB.cons N) mixed (zAB.i8 N) (fun d kn kx=>zAB.h8 N d kn kx)
theorem zAB.ls (N:Nat):LoopsOk Tryz.prog (zAB.cfg N) (fnBody Tryz.f89):=loopsL (l:=[nthLoop (fnBody Tryz.f89) 0]) (by kernel_rfl) ⟨loopOne (L0:=loopCon N zAB.sk8 zAB.xs8 (fun {R}=>zAB.l8 (R:=R) N)) (id:=8) (by kernel_rfl) (by kernel_rfl) (zAB.o8 N),trivial⟩
theorem zAB.q8 {R R':Type} {N n:Nat} {d} {k} {g:R→Option R'}:bindF (loopP (zAB.l8 N) n d k) g=loopP (zAB.l8 N) n d fun e=>bindF (k e) g:=bindF_loopP (fun d kn kx=>by simp only [zAB.l8,bindF_ifB,bindF_bindO,bindF_pure,bindF_none,bindF_onSum]) n d k
theorem zAB.b (N:Nat) (x0:den s24) (x1:den (.int .i64)):body (zAB.cfg N) N Tryz.f89 [.one,.one] [.v,.v] [(false,(.own .imm))] [⟨s24,.imm,x0⟩,⟨(.int .i64),.imm,x1⟩] (fun r i=>some (r,i))=bindO (zAB N x0 x1) fun r=>some ([⟨s24,(.own .imm),r⟩],[]):=by
  show _=bindF _ _
  conv=>rhs;simp only [zAB,bindF_ifB,bindF_bindO,bindF_pure,bindF_none,bindF_onSum,zAB.q8]
  kernel_rfl
theorem zAB.ok (N:Nat):ConOk Tryz.prog 89 [.one,.one] (zAB.con N):=ok2 (g:=zAB.cfg N) (N:=N) (res:=[(false,(.own .imm))]) tys_ok (zAB.cons N) mixed Tryz.func89 (zAB.ls N) rfl (zAB.b N)
theorem zAB.det (N:Nat):ConDet (zAB.con N):=det2
def zDA.con (N:Nat):Con:={ modes:=[.v],ptrs:=[false,false],fn:=fn1 (.int .i64) .imm (zDA N) (fun r=>[⟨(.int .i64),.imm,r.1⟩,⟨(.int .i64),.imm,r.2⟩]) (fun r=>[]) }
def zDA.cfg (N:Nat):Cfg:={ ty:=tys,keep:=[],flt:=[],elm:=elm0,live:=[],ord:=[],con:=[],loops:=[],joins:=[] }
theorem zDA.cons (N:Nat):ConsOk Tryz.prog (zDA.cfg N).con:=consOk_nil
theorem zDA.ls (N:Nat):LoopsOk Tryz.prog (zDA.cfg N) (fnBody Tryz.f62):=loopsL (l:=[]) (by kernel_rfl) trivial
theorem zDA.b (N:Nat) (x0:den (.int .i64)):body (zDA.cfg N) N Tryz.f62 [.one] [.v] [(false,.imm),(false,.imm)] [⟨(.int .i64),.imm,x0⟩] (fun r i=>some (r,i))=bindO (zDA N x0) fun r=>some ([⟨(.int .i64),.imm,r.1⟩,⟨(.int .i64),.imm,r.2⟩],[]):=by
  show _=bindF _ _
  conv=>rhs;simp only [zDA,bindF_ifB,bindF_bindO,bindF_pure,bindF_none,bindF_onSum]
  kernel_rfl
theorem zDA.ok (N:Nat):ConOk Tryz.prog 62 [.one] (zDA.con N):=ok1 (g:=zDA.cfg N) (N:=N) (res:=[(false,.imm),(false,.imm)]) tys_ok (zDA.cons N) mixed Tryz.func62 (zDA.ls N) rfl (zDA.b N)
theorem zDA.det (N:Nat):ConDet (zDA.con N):=det1
def zAN.sk7:Skel:=⟨.pv s23::(dd 3 (.ptr 50 []::(.ov 51 []::(.ov 52 []::(dd 121 []))))),[⟨50,(.int .i64),.imm,true,false⟩,⟨51,s24,(.own .imm),false,false⟩,⟨52,s24,(.own .imm),false,false⟩]⟩
def zAN.xs7:List XS:=[⟨.exit 0,[5],⟨dd 5 (.ov 50 []::(dd 122 [])),[⟨50,s24,(.own .imm),false,false⟩]⟩⟩,⟨.ret,[2,3],⟨dd 2 (.ov 50 []::(.pv .bool::(dd 124 []))),[⟨50,s24,(.own .imm),false,false⟩]⟩⟩]
def zAN.sk24:Skel:=⟨.pv s23::(dd 3 (.ptr 50 []::(.ov 51 []::(.ov 52 []::(dd 3 (.pv (.int .i64)::(.pv (.int .i64)::(dd 87 (.ov 53 []::(.pv (.int .i64)::(.pv (.int .i64)::(dd 26 [])))))))))))),[⟨50,(.int .i64),.imm,true,false⟩,⟨51,s24,(.own .imm),false,false⟩,⟨52,s24,(.own .imm),false,false⟩,⟨53,s24,(.own .imm),false,false⟩]⟩
def zAN.xs24:List XS:=[⟨.exit 2,[0,4,5,6,72,73,74,75,90,91,92],⟨.pv s23::(dd 3 (.ptr 50 []::(.ov 51 []::(.ov 52 []::(dd 121 []))))),[⟨50,(.int .i64),.imm,true,false⟩,⟨51,s24,(.own .imm),false,false⟩,⟨52,s24,(.own .imm),false,false⟩]⟩⟩,⟨.ret,[2,3],⟨dd 2 (.ov 50 []::(.pv .bool::(dd 124 []))),[⟨50,s24,(.own .imm),false,false⟩]⟩⟩]
def zAN.con (N:Nat):Con:={ modes:=[.v],ptrs:=[false,false],fn:=fn1 s23 .imm (zAN N) (fun r=>[⟨s24,(.own .imm),r.1⟩,⟨.bool,.imm,r.2⟩]) (fun r=>[]) }
def zAN.cfg (N:Nat):Cfg:={ ty:=tys,keep:=[16,22,27,60],flt:=[2],elm:=elm0,live:=[(24,[0,4,5,6,10,11,72,73,74,75,90,91,92,99,100,101]),(7,[0,4,5,6,72,73,74,75,90,91,92])],ord:=[],con:=[((39,[.one]),zBE.con N),((86,[.one,.fn 87 1]),zAG.con N),((89,[.one,.one]),zAB.con N),((62,[.one]),zDA.con N)],loops:=[(7,loopCon N zAN.sk7 zAN.xs7 (fun {R}=>zAN.l7 (R:=R) N)),(24,loopCon N zAN.sk24 zAN.xs24 (fun {R}=>zAN.l24 (R:=R) N))],joins:=[(32,[⟨.normal,[0,4,5,6,10,11,72,73,74,75,90,91,92,99,100,101],⟨.pv s23::(dd 3 (.ptr 50 []::(.ov 51 []::(.ov 52 []::(dd 3 (.pv (.int .i64)::(.pv (.int .i64)::(dd 87 (.ov 53 []::(.pv (.int .i64)::(.pv (.int .i64)::(dd 26 [])))))))))))),[⟨50,(.int .i64),.imm,true,false⟩,⟨51,s24,(.own .imm),false,false⟩,⟨52,s24,(.own .imm),false,false⟩,⟨53,s24,(.own .imm),false,false⟩]⟩⟩,⟨.ret,[2,3],⟨dd 2 (.ov 50 []::(.pv .bool::(dd 124 []))),[⟨50,s24,(.own .imm),false,false⟩]⟩⟩])] }
theorem zAN.cons (N:Nat):ConsOk Tryz.prog (zAN.cfg N).con:=(consOk_cons (hb39) (zBE.ok N) (zBE.det N) (consOk_cons (hb86) (zAG.ok N) (zAG.det N) (consOk_cons (hb89) (zAB.ok N) (zAB.det N) (consOk_cons (hb62) (zDA.ok N) (zDA.det N) consOk_nil))))
theorem zAN.h24 {R:Type} (N:Nat) (d:zAN.sk24.D) (kn:zAN.sk24.D→Option R) (kx:XD zAN.xs24→Option R):roundK (zAN.cfg N) N (nthLoop (fnBody Tryz.f60) 1) zAN.sk24 zAN.xs24 d kn kx=zAN.l24 N d kn kx:=by kernel_rfl
theorem zAN.i24 (N:Nat):LoopsOk Tryz.prog (zAN.cfg N) (nthLoop (fnBody Tryz.f60) 1):=loopsL (l:=[]) (by kernel_rfl) trivial
theorem zAN.o24 (N:Nat):LoopOk Tryz.prog (nthLoop (fnBody Tryz.f60) 1) (loopCon N zAN.sk24 zAN.xs24 (fun {R}=>zAN.l24 (R:=R) N)):=loop_ok (g:=zAN.cfg N) tys_ok (zAN.cons N) mixed (zAN.i24 N) (fun d kn kx=>zAN.h24 N d kn kx)
theorem zAN.h7 {R:Type} (N:Nat) (d:zAN.sk7.D) (kn:zAN.sk7.D→Option R) (kx:XD zAN.xs7→Option R):roundK (zAN.cfg N) N (nthLoop (fnBody Tryz.f60) 0) zAN.sk7 zAN.xs7 d kn kx=zAN.l7 N d kn kx:=by kernel_rfl
theorem zAN.i7 (N:Nat):LoopsOk Tryz.prog (zAN.cfg N) (nthLoop (fnBody Tryz.f60) 0):=loopsL (l:=[nthLoop (fnBody Tryz.f60) 1]) (by kernel_rfl) ⟨loopOne (L0:=loopCon N zAN.sk24 zAN.xs24 (fun {R}=>zAN.l24 (R:=R) N)) (id:=24) (by kernel_rfl) (by kernel_rfl) (zAN.o24 N),trivial⟩
theorem zAN.o7 (N:Nat):LoopOk Tryz.prog (nthLoop (fnBody Tryz.f60) 0) (loopCon N zAN.sk7 zAN.xs7 (fun {R}=>zAN.l7 (R:=R) N)):=loop_ok (g:=zAN.cfg N) tys_ok (zAN.cons N) mixed (zAN.i7 N) (fun d kn kx=>zAN.h7 N d kn kx)
theorem zAN.ls (N:Nat):LoopsOk Tryz.prog (zAN.cfg N) (fnBody Tryz.f60):=loopsL (l:=[nthLoop (fnBody Tryz.f60) 0,nthLoop (fnBody Tryz.f60) 1]) (by kernel_rfl) ⟨loopOne (L0:=loopCon N zAN.sk7 zAN.xs7 (fun {R}=>zAN.l7 (R:=R) N)) (id:=7) (by kernel_rfl) (by kernel_rfl) (zAN.o7 N),⟨loopOne (L0:=loopCon N zAN.sk24 zAN.xs24 (fun {R}=>zAN.l24 (R:=R) N)) (id:=24) (by kernel_rfl) (by kernel_rfl) (zAN.o24 N),trivial⟩⟩
theorem zAN.q24 {R R':Type} {N n:Nat} {d} {k} {g:R→Option R'}:bindF (loopP (zAN.l24 N) n d k) g=loopP (zAN.l24 N) n d fun e=>bindF (k e) g:=bindF_loopP (fun d kn kx=>by simp only [zAN.l24,bindF_ifB,bindF_bindO,bindF_pure,bindF_none,bindF_onSum]) n d k
theorem zAN.q7 {R R':Type} {N n:Nat} {d} {k} {g:R→Option R'}:bindF (loopP (zAN.l7 N) n d k) g=loopP (zAN.l7 N) n d fun e=>bindF (k e) g:=bindF_loopP (fun d kn kx=>by simp only [zAN.l7,bindF_ifB,bindF_bindO,bindF_pure,bindF_none,bindF_onSum,zAN.q24]) n d k
theorem zAN.b (N:Nat) (x0:den s23):body (zAN.cfg N) N Tryz.f60 [.one] [.v] [(false,(.own .imm)),(false,.imm)] [⟨s23,.imm,x0⟩] (fun r i=>some (r,i))=bindO (zAN N x0) fun r=>some ([⟨s24,(.own .imm),r.1⟩,⟨.bool,.imm,r.2⟩],[]):=by
  show _=bindF _ _
  conv=>rhs;simp only [zAN,bindF_ifB,bindF_bindO,bindF_pure,bindF_none,bindF_onSum,zAN.q7,zAN.q24]
  kernel_rfl
theorem zAN.ok (N:Nat):ConOk Tryz.prog 60 [.one] (zAN.con N):=ok1 (g:=zAN.cfg N) (N:=N) (res:=[(false,(.own .imm)),(false,.imm)]) tys_ok (zAN.cons N) mixed Tryz.func60 (zAN.ls N) rfl (zAN.b N)
theorem zAN.det (N:Nat):ConDet (zAN.con N):=det1
def zCN.con (N:Nat):Con:={ modes:=[.v],ptrs:=[false],fn:=fn1 s23 .imm (zCN N) (fun r=>[⟨.bool,.imm,r⟩]) (fun r=>[]) }
def zCN.cfg (N:Nat):Cfg:={ ty:=tys,keep:=[7],flt:=[],elm:=elm0,live:=[],ord:=[],con:=[((60,[.one]),zAN.con N)],loops:=[],joins:=[] }
theorem zCN.cons (N:Nat):ConsOk Tryz.prog (zCN.cfg N).con:=(consOk_cons (hb60) (zAN.ok N) (zAN.det N) consOk_nil)
theorem zCN.ls (N:Nat):LoopsOk Tryz.prog (zCN.cfg N) (fnBody Tryz.f36):=loopsL (l:=[]) (by kernel_rfl) trivial
theorem zCN.b (N:Nat) (x0:den s23):body (zCN.cfg N) N Tryz.f36 [.one] [.v] [(false,.imm)] [⟨s23,.imm,x0⟩] (fun r i=>some (r,i))=bindO (zCN N x0) fun r=>some ([⟨.bool,.imm,r⟩],[]):=by
  show _=bindF _ _
  conv=>rhs;simp only [zCN,bindF_ifB,bindF_bindO,bindF_pure,bindF_none,bindF_onSum]
  kernel_rfl
theorem zCN.ok (N:Nat):ConOk Tryz.prog 36 [.one] (zCN.con N):=ok1 (g:=zCN.cfg N) (N:=N) (res:=[(false,.imm)]) tys_ok (zCN.cons N) mixed Tryz.func36 (zCN.ls N) rfl (zCN.b N)
theorem zCN.det (N:Nat):ConDet (zCN.con N):=det1
def zCH.con (N:Nat):Con:={ modes:=[.v],ptrs:=[false],fn:=fn1 (.int .i64) .imm (zCH N) (fun r=>[⟨.bool,.imm,r⟩]) (fun r=>[]) }
def zCH.cfg (N:Nat):Cfg:={ ty:=tys,keep:=[4,7],flt:=[],elm:=elm0,live:=[],ord:=[],con:=[((37,[.one,.one,.one]),zB5.con N)],loops:=[],joins:=[] }
theorem zCH.cons (N:Nat):ConsOk Tryz.prog (zCH.cfg N).con:=(consOk_cons (hb37) (zB5.ok N) (zB5.det N) consOk_nil)
theorem zCH.ls (N:Nat):LoopsOk Tryz.prog (zCH.cfg N) (fnBody Tryz.f44):=loopsL (l:=[]) (by kernel_rfl) trivial
theorem zCH.b (N:Nat) (x0:den (.int .i64)):body (zCH.cfg N) N Tryz.f44 [.one] [.v] [(false,.imm)] [⟨(.int .i64),.imm,x0⟩] (fun r i=>some (r,i))=bindO (zCH N x0) fun r=>some ([⟨.bool,.imm,r⟩],[]):=by
  show _=bindF _ _
  conv=>rhs;simp only [zCH,bindF_ifB,bindF_bindO,bindF_pure,bindF_none,bindF_onSum]
  kernel_rfl
theorem zCH.ok (N:Nat):ConOk Tryz.prog 44 [.one] (zCH.con N):=ok1 (g:=zCH.cfg N) (N:=N) (res:=[(false,.imm)]) tys_ok (zCH.cons N) mixed Tryz.func44 (zCH.ls N) rfl (zCH.b N)
theorem zCH.det (N:Nat):ConDet (zCH.con N):=det1
def zBT.con (N:Nat):Con:={ modes:=[.v],ptrs:=[false],fn:=fn1 (.int .i64) .imm (zBT N) (fun r=>[⟨.bool,.imm,r⟩]) (fun r=>[]) }
def zBT.cfg (N:Nat):Cfg:={ ty:=tys,keep:=[4],flt:=[],elm:=elm0,live:=[],ord:=[],con:=[((44,[.one]),zCH.con N)],loops:=[],joins:=[] }
theorem zBT.cons (N:Nat):ConsOk Tryz.prog (zBT.cfg N).con:=(consOk_cons (hb44) (zCH.ok N) (zCH.det N) consOk_nil)
theorem zBT.ls (N:Nat):LoopsOk Tryz.prog (zBT.cfg N) (fnBody Tryz.f43):=loopsL (l:=[]) (by kernel_rfl) trivial
theorem zBT.b (N:Nat) (x0:den (.int .i64)):body (zBT.cfg N) N Tryz.f43 [.one] [.v] [(false,.imm)] [⟨(.int .i64),.imm,x0⟩] (fun r i=>some (r,i))=bindO (zBT N x0) fun r=>some ([⟨.bool,.imm,r⟩],[]):=by
  show _=bindF _ _
  conv=>rhs;simp only [zBT,bindF_ifB,bindF_bindO,bindF_pure,bindF_none,bindF_onSum]
  kernel_rfl
theorem zBT.ok (N:Nat):ConOk Tryz.prog 43 [.one] (zBT.con N):=ok1 (g:=zBT.cfg N) (N:=N) (res:=[(false,.imm)]) tys_ok (zBT.cons N) mixed Tryz.func43 (zBT.ls N) rfl (zBT.b N)
theorem zBT.det (N:Nat):ConDet (zBT.con N):=det1
def zA1.sk2:Skel:=⟨.pv s24::(.fn 43 []::(dd 5 (.pv (.int .i64)::(.pv (.int .i64)::(dd 10 []))))),[]⟩
def zA1.xs2:List XS:=[⟨.exit 0,[],⟨dd 19 [],[]⟩⟩,⟨.ret,[4],⟨dd 4 (.pv (.int .i64)::(dd 14 [])),[]⟩⟩]
def zA1.con (N:Nat):Con:={ modes:=[.v],ptrs:=[false],fn:=fn1 s24 .imm (zA1 N) (fun r=>[⟨(.int .i64),.imm,r⟩]) (fun r=>[]) }
def zA1.cfg (N:Nat):Cfg:={ ty:=tys,keep:=[16],flt:=[],elm:=elm0,live:=[(2,[0,1,7,8])],ord:=[],con:=[((43,[.one]),zBT.con N)],loops:=[(2,loopCon N zA1.sk2 zA1.xs2 (fun {R}=>zA1.l2 (R:=R) N))],joins:=[] }
theorem zA1.cons (N:Nat):ConsOk Tryz.prog (zA1.cfg N).con:=(consOk_cons (hb43) (zBT.ok N) (zBT.det N) consOk_nil)
theorem zA1.h2 {R:Type} (N:Nat) (d:zA1.sk2.D) (kn:zA1.sk2.D→Option R) (kx:XD zA1.xs2→Option R):roundK (zA1.cfg N) N (nthLoop (fnBody Tryz.f74) 0) zA1.sk2 zA1.xs2 d kn kx=zA1.l2 N d kn kx:=by kernel_rfl
theorem zA1.i2 (N:Nat):LoopsOk Tryz.prog (zA1.cfg N) (nthLoop (fnBody Tryz.f74) 0):=loopsL (l:=[]) (by kernel_rfl) trivial
theorem zA1.o2 (N:Nat):LoopOk Tryz.prog (nthLoop (fnBody Tryz.f74) 0) (loopCon N zA1.sk2 zA1.xs2 (fun {R}=>zA1.l2 (R:=R) N)):=loop_ok (g:=zA1.cfg N) tys_ok (zA1.cons N) mixed (zA1.i2 N) (fun d kn kx=>zA1.h2 N d kn kx)
theorem zA1.ls (N:Nat):LoopsOk Tryz.prog (zA1.cfg N) (fnBody Tryz.f74):=loopsL (l:=[nthLoop (fnBody Tryz.f74) 0]) (by kernel_rfl) ⟨loopOne (L0:=loopCon N zA1.sk2 zA1.xs2 (fun {R}=>zA1.l2 (R:=R) N)) (id:=2) (by kernel_rfl) (by kernel_rfl) (zA1.o2 N),trivial⟩
theorem zA1.q2 {R R':Type} {N n:Nat} {d} {k} {g:R→Option R'}:bindF (loopP (zA1.l2 N) n d k) g=loopP (zA1.l2 N) n d fun e=>bindF (k e) g:=bindF_loopP (fun d kn kx=>by simp only [zA1.l2,bindF_ifB,bindF_bindO,bindF_pure,bindF_none,bindF_onSum]) n d k
theorem zA1.b (N:Nat) (x0:den s24):body (zA1.cfg N) N Tryz.f74 [.one,.fn 43 0] [.v] [(false,.imm)] [⟨s24,.imm,x0⟩] (fun r i=>some (r,i))=bindO (zA1 N x0) fun r=>some ([⟨(.int .i64),.imm,r⟩],[]):=by
  show _=bindF _ _
  conv=>rhs;simp only [zA1,bindF_ifB,bindF_bindO,bindF_pure,bindF_none,bindF_onSum,zA1.q2]
  kernel_rfl
theorem zA1.ok (N:Nat):ConOk Tryz.prog 74 [.one,.fn 43 0] (zA1.con N):=ok1 (g:=zA1.cfg N) (N:=N) (res:=[(false,.imm)]) tys_ok (zA1.cons N) mixed Tryz.func74 (zA1.ls N) rfl (zA1.b N)
theorem zA1.det (N:Nat):ConDet (zA1.con N):=det1
def zAH.con (N:Nat):Con:={ modes:=[.v],ptrs:=[false],fn:=fn1 s24 .imm (zAH N) (fun r=>[⟨.bool,.imm,r⟩]) (fun r=>[]) }
def zAH.cfg (N:Nat):Cfg:={ ty:=tys,keep:=[7],flt:=[],elm:=elm0,live:=[],ord:=[],con:=[((74,[.one,.fn 43 0]),zA1.con N)],loops:=[],joins:=[] }
theorem zAH.cons (N:Nat):ConsOk Tryz.prog (zAH.cfg N).con:=(consOk_cons (hb74) (zA1.ok N) (zA1.det N) consOk_nil)
theorem zAH.ls (N:Nat):LoopsOk Tryz.prog (zAH.cfg N) (fnBody Tryz.f42):=loopsL (l:=[]) (by kernel_rfl) trivial
theorem zAH.b (N:Nat) (x0:den s24):body (zAH.cfg N) N Tryz.f42 [.one,.fn 43 0] [.v] [(false,.imm)] [⟨s24,.imm,x0⟩] (fun r i=>some (r,i))=bindO (zAH N x0) fun r=>some ([⟨.bool,.imm,r⟩],[]):=by
  show _=bindF _ _
  conv=>rhs;simp only [zAH,bindF_ifB,bindF_bindO,bindF_pure,bindF_none,bindF_onSum]
  kernel_rfl
theorem zAH.ok (N:Nat):ConOk Tryz.prog 42 [.one,.fn 43 0] (zAH.con N):=ok1 (g:=zAH.cfg N) (N:=N) (res:=[(false,.imm)]) tys_ok (zAH.cons N) mixed Tryz.func42 (zAH.ls N) rfl (zAH.b N)
theorem zAH.det (N:Nat):ConDet (zAH.con N):=det1
def zC7.con (N:Nat):Con:={ modes:=[.v],ptrs:=[false],fn:=fn1 s24 .imm (zC7 N) (fun r=>[⟨.bool,.imm,r⟩]) (fun r=>[]) }
def zC7.cfg (N:Nat):Cfg:={ ty:=tys,keep:=[8],flt:=[],elm:=elm0,live:=[],ord:=[],con:=[((42,[.one,.fn 43 0]),zAH.con N)],loops:=[],joins:=[] }
theorem zC7.cons (N:Nat):ConsOk Tryz.prog (zC7.cfg N).con:=(consOk_cons (hb42) (zAH.ok N) (zAH.det N) consOk_nil)
theorem zC7.ls (N:Nat):LoopsOk Tryz.prog (zC7.cfg N) (fnBody Tryz.f19):=loopsL (l:=[]) (by kernel_rfl) trivial
theorem zC7.b (N:Nat) (x0:den s24):body (zC7.cfg N) N Tryz.f19 [.one] [.v] [(false,.imm)] [⟨s24,.imm,x0⟩] (fun r i=>some (r,i))=bindO (zC7 N x0) fun r=>some ([⟨.bool,.imm,r⟩],[]):=by
  show _=bindF _ _
  conv=>rhs;simp only [zC7,bindF_ifB,bindF_bindO,bindF_pure,bindF_none,bindF_onSum]
  kernel_rfl
theorem zC7.ok (N:Nat):ConOk Tryz.prog 19 [.one] (zC7.con N):=ok1 (g:=zC7.cfg N) (N:=N) (res:=[(false,.imm)]) tys_ok (zC7.cons N) mixed Tryz.func19 (zC7.ls N) rfl (zC7.b N)
theorem zC7.det (N:Nat):ConDet (zC7.con N):=det1
def zAR.con (N:Nat):Con:={ modes:=[.v],ptrs:=[false],fn:=fn1 s24 .imm (zAR N) (fun r=>[⟨(.int .i64),.imm,r⟩]) (fun r=>[]) }
def zAR.cfg (N:Nat):Cfg:={ ty:=tys,keep:=[],flt:=[],elm:=elm0,live:=[],ord:=[],con:=[],loops:=[],joins:=[] }
theorem zAR.cons (N:Nat):ConsOk Tryz.prog (zAR.cfg N).con:=consOk_nil
theorem zAR.ls (N:Nat):LoopsOk Tryz.prog (zAR.cfg N) (fnBody Tryz.f45):=loopsL (l:=[]) (by kernel_rfl) trivial
theorem zAR.b (N:Nat) (x0:den s24):body (zAR.cfg N) N Tryz.f45 [.one] [.v] [(false,.imm)] [⟨s24,.imm,x0⟩] (fun r i=>some (r,i))=bindO (zAR N x0) fun r=>some ([⟨(.int .i64),.imm,r⟩],[]):=by
  show _=bindF _ _
  conv=>rhs;simp only [zAR,bindF_ifB,bindF_bindO,bindF_pure,bindF_none,bindF_onSum]
  kernel_rfl
theorem zAR.ok (N:Nat):ConOk Tryz.prog 45 [.one] (zAR.con N):=ok1 (g:=zAR.cfg N) (N:=N) (res:=[(false,.imm)]) tys_ok (zAR.cons N) mixed Tryz.func45 (zAR.ls N) rfl (zAR.b N)
theorem zAR.det (N:Nat):ConDet (zAR.con N):=det1
end Go.AE.F
end
