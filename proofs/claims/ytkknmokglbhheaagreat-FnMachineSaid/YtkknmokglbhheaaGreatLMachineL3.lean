/- The printed functions are what the program comes to: contracts. -/
import Derived.Test.YtkknmokglbhheaaGreatLMachineL2
noncomputable section
namespace Go.AE.F
open Go.AE Go.Proofs
set_option maxRecDepth 100000
def zA7.sk4:Skel:=⟨.pv s23::(dd 3 (.pv (.int .i64)::(.ov 50 []::(.pv (.int .i64)::(dd 138 []))))),[⟨50,s24,(.own .imm),false,false⟩]⟩
def zA7.xs4:List XS:=[⟨.exit 0,[0,4,5,63,64,65,66],⟨.pv s23::(dd 3 (.pv (.int .i64)::(.ov 50 []::(dd 139 [])))),[⟨50,s24,(.own .imm),false,false⟩]⟩⟩]
def zA7.sk9:Skel:=⟨.pv s23::(dd 3 (.pv (.int .i64)::(.ov 50 []::(dd 1 (.ov 51 []::(dd 137 [])))))),[⟨50,s24,(.own .imm),false,false⟩,⟨51,s24,(.own .imm),false,false⟩]⟩
def zA7.xs9:List XS:=[⟨.exit 2,[4,5],⟨dd 4 (.pv (.int .i64)::(.ov 50 []::(dd 139 []))),[⟨50,s24,(.own .imm),false,false⟩]⟩⟩,⟨.ret,[2,3],⟨dd 2 (.ov 50 []::(.pv .bool::(dd 141 []))),[⟨50,s24,(.own .imm),false,false⟩]⟩⟩]
def zA7.sk24:Skel:=⟨.pv s23::(dd 3 (.pv (.int .i64)::(.ov 50 []::(dd 1 (.ov 51 []::(dd 3 (.pv (.int .i64)::(.ov 52 []::(.pv (.int .i64)::(dd 131 [])))))))))),[⟨50,s24,(.own .imm),false,false⟩,⟨51,s24,(.own .imm),false,false⟩,⟨52,s24,(.own .imm),false,false⟩]⟩
def zA7.xs24:List XS:=[⟨.exit 4,[0,4,5,7,63,64,65,66],⟨.pv s23::(dd 3 (.pv (.int .i64)::(.ov 50 []::(dd 1 (.ov 51 []::(dd 137 [])))))),[⟨50,s24,(.own .imm),false,false⟩,⟨51,s24,(.own .imm),false,false⟩]⟩⟩,⟨.ret,[2,3],⟨dd 2 (.ov 50 []::(.pv .bool::(dd 141 []))),[⟨50,s24,(.own .imm),false,false⟩]⟩⟩]
def zA7.con (N:Nat):Con:={ modes:=[.v],ptrs:=[false,false],fn:=fn1 s23 .imm (zA7 N) (fun r=>[⟨s24,(.own .imm),r.1⟩,⟨.bool,.imm,r.2⟩]) (fun r=>[]) }
def zA7.cfg (N:Nat):Cfg:={ ty:=tys,keep:=[51],flt:=[],elm:=elm0,live:=[(24,[0,4,5,7,11,12,13,63,64,65,66]),(9,[0,4,5,7,63,64,65,66]),(4,[0,4,5,6,63,64,65,66])],ord:=[(31,[0,1,2,3,4,5,6,7])],con:=[((31,[.one]),zC1.con N)],loops:=[(4,loopCon N zA7.sk4 zA7.xs4 (fun {R}=>zA7.l4 (R:=R) N)),(9,loopCon N zA7.sk9 zA7.xs9 (fun {R}=>zA7.l9 (R:=R) N)),(24,loopCon N zA7.sk24 zA7.xs24 (fun {R}=>zA7.l24 (R:=R) N))],joins:=[(25,[⟨.normal,[0,4,5,7,11,12,13,63,64,65,66],⟨.pv s23::(dd 3 (.pv (.int .i64)::(.ov 50 []::(dd 1 (.ov 51 []::(dd 3 (.pv (.int .i64)::(.ov 52 []::(.pv (.int .i64)::(dd 131 [])))))))))),[⟨50,s24,(.own .imm),false,false⟩,⟨51,s24,(.own .imm),false,false⟩,⟨52,s24,(.own .imm),false,false⟩]⟩⟩,⟨.ret,[2,3],⟨dd 2 (.ov 50 []::(.pv .bool::(dd 141 []))),[⟨50,s24,(.own .imm),false,false⟩]⟩⟩])] }
theorem zA7.cons (N:Nat):ConsOk Tryz.prog (zA7.cfg N).con:=(consOk_cons (hb31) (zC1.ok N) (zC1.det N) consOk_nil)
theorem zA7.h24 {R:Type} (N:Nat) (d:zA7.sk24.D) (kn:zA7.sk24.D→Option R) (kx:XD zA7.xs24→Option R):roundK (zA7.cfg N) N (nthLoop (fnBody Tryz.f27) 2) zA7.sk24 zA7.xs24 d kn kx=zA7.l24 N d kn kx:=by kernel_rfl
theorem zA7.i24 (N:Nat):LoopsOk Tryz.prog (zA7.cfg N) (nthLoop (fnBody Tryz.f27) 2):=loopsL (l:=[]) (by kernel_rfl) trivial
theorem zA7.o24 (N:Nat):LoopOk Tryz.prog (nthLoop (fnBody Tryz.f27) 2) (loopCon N zA7.sk24 zA7.xs24 (fun {R}=>zA7.l24 (R:=R) N)):=loop_ok (g:=zA7.cfg N) tys_ok (zA7.cons N) mixed (zA7.i24 N) (fun d kn kx=>zA7.h24 N d kn kx)
theorem zA7.h9 {R:Type} (N:Nat) (d:zA7.sk9.D) (kn:zA7.sk9.D→Option R) (kx:XD zA7.xs9→Option R):roundK (zA7.cfg N) N (nthLoop (fnBody Tryz.f27) 1) zA7.sk9 zA7.xs9 d kn kx=zA7.l9 N d kn kx:=by kernel_rfl
theorem zA7.i9 (N:Nat):LoopsOk Tryz.prog (zA7.cfg N) (nthLoop (fnBody Tryz.f27) 1):=loopsL (l:=[nthLoop (fnBody Tryz.f27) 2]) (by kernel_rfl) ⟨loopOne (L0:=loopCon N zA7.sk24 zA7.xs24 (fun {R}=>zA7.l24 (R:=R) N)) (id:=24) (by kernel_rfl) (by kernel_rfl) (zA7.o24 N),trivial⟩
theorem zA7.o9 (N:Nat):LoopOk Tryz.prog (nthLoop (fnBody Tryz.f27) 1) (loopCon N zA7.sk9 zA7.xs9 (fun {R}=>zA7.l9 (R:=R) N)):=loop_ok (g:=zA7.cfg N) tys_ok (zA7.cons N) mixed (zA7.i9 N) (fun d kn kx=>zA7.h9 N d kn kx)
theorem zA7.h4 {R:Type} (N:Nat) (d:zA7.sk4.D) (kn:zA7.sk4.D→Option R) (kx:XD zA7.xs4→Option R):roundK (zA7.cfg N) N (nthLoop (fnBody Tryz.f27) 0) zA7.sk4 zA7.xs4 d kn kx=zA7.l4 N d kn kx:=by kernel_rfl
theorem zA7.i4 (N:Nat):LoopsOk Tryz.prog (zA7.cfg N) (nthLoop (fnBody Tryz.f27) 0):=loopsL (l:=[]) (by kernel_rfl) trivial
theorem zA7.o4 (N:Nat):LoopOk Tryz.prog (nthLoop (fnBody Tryz.f27) 0) (loopCon N zA7.sk4 zA7.xs4 (fun {R}=>zA7.l4 (R:=R) N)):=loop_ok (g:=zA7.cfg N) tys_ok (zA7.cons N) mixed (zA7.i4 N) (fun d kn kx=>zA7.h4 N d kn kx)
theorem zA7.ls (N:Nat):LoopsOk Tryz.prog (zA7.cfg N) (fnBody Tryz.f27):=loopsL (l:=[nthLoop (fnBody Tryz.f27) 0,nthLoop (fnBody Tryz.f27) 1,nthLoop (fnBody Tryz.f27) 2]) (by kernel_rfl) ⟨loopOne (L0:=loopCon N zA7.sk4 zA7.xs4 (fun {R}=>zA7.l4 (R:=R) N)) (id:=4) (by kernel_rfl) (by kernel_rfl) (zA7.o4 N),⟨loopOne (L0:=loopCon N zA7.sk9 zA7.xs9 (fun {R}=>zA7.l9 (R:=R) N)) (id:=9) (by kernel_rfl) (by kernel_rfl) (zA7.o9 N),⟨loopOne (L0:=loopCon N zA7.sk24 zA7.xs24 (fun {R}=>zA7.l24 (R:=R) N)) (id:=24) (by kernel_rfl) (by kernel_rfl) (zA7.o24 N),trivial⟩⟩⟩
theorem zA7.q24 {R R':Type} {N n:Nat} {d} {k} {g:R→Option R'}:bindF (loopP (zA7.l24 N) n d k) g=loopP (zA7.l24 N) n d fun e=>bindF (k e) g:=bindF_loopP (fun d kn kx=>by simp only [zA7.l24,bindF_ifB,bindF_bindO,bindF_pure,bindF_none,bindF_onSum]) n d k
theorem zA7.q9 {R R':Type} {N n:Nat} {d} {k} {g:R→Option R'}:bindF (loopP (zA7.l9 N) n d k) g=loopP (zA7.l9 N) n d fun e=>bindF (k e) g:=bindF_loopP (fun d kn kx=>by simp only [zA7.l9,bindF_ifB,bindF_bindO,bindF_pure,bindF_none,bindF_onSum,zA7.q24]) n d k
theorem zA7.q4 {R R':Type} {N n:Nat} {d} {k} {g:R→Option R'}:bindF (loopP (zA7.l4 N) n d k) g=loopP (zA7.l4 N) n d fun e=>bindF (k e) g:=bindF_loopP (fun d kn kx=>by simp only [zA7.l4,bindF_ifB,bindF_bindO,bindF_pure,bindF_none,bindF_onSum]) n d k
theorem zA7.b (N:Nat) (x0:den s23):body (zA7.cfg N) N Tryz.f27 [.one] [.v] [(false,(.own .imm)),(false,.imm)] [⟨s23,.imm,x0⟩] (fun r i=>some (r,i))=bindO (zA7 N x0) fun r=>some ([⟨s24,(.own .imm),r.1⟩,⟨.bool,.imm,r.2⟩],[]):=by
  show _=bindF _ _
  conv=>rhs;simp only [zA7,bindF_ifB,bindF_bindO,bindF_pure,bindF_none,bindF_onSum,zA7.q4,zA7.q9,zA7.q24]
  kernel_rfl
theorem zA7.ok (N:Nat):ConOk Tryz.prog 27 [.one] (zA7.con N):=ok1 (g:=zA7.cfg N) (N:=N) (res:=[(false,(.own .imm)),(false,.imm)]) tys_ok (zA7.cons N) mixed Tryz.func27 (zA7.ls N) rfl (zA7.b N)
theorem zA7.det (N:Nat):ConDet (zA7.con N):=det1
def zAV.sk4:Skel:=⟨.pv s23::(dd 2 (.pv (.int .i64)::(dd 25 []))),[]⟩
def zAV.xs4:List XS:=[⟨.exit 0,[0],⟨.pv s23::(dd 28 []),[]⟩⟩,⟨.ret,[2],⟨dd 2 (.pv .bool::(dd 26 [])),[]⟩⟩]
def zAV.con (N:Nat):Con:={ modes:=[.v],ptrs:=[false],fn:=fn1 s23 .imm (zAV N) (fun r=>[⟨.bool,.imm,r⟩]) (fun r=>[]) }
def zAV.cfg (N:Nat):Cfg:={ ty:=tys,keep:=[21,25],flt:=[],elm:=elm0,live:=[(4,[0,3])],ord:=[],con:=[((26,[.one,.one]),zD3.con N),((27,[.one]),zA7.con N)],loops:=[(4,loopCon N zAV.sk4 zAV.xs4 (fun {R}=>zAV.l4 (R:=R) N))],joins:=[] }
theorem zAV.cons (N:Nat):ConsOk Tryz.prog (zAV.cfg N).con:=(consOk_cons (hb26) (zD3.ok N) (zD3.det N) (consOk_cons (hb27) (zA7.ok N) (zA7.det N) consOk_nil))
theorem zAV.h4 {R:Type} (N:Nat) (d:zAV.sk4.D) (kn:zAV.sk4.D→Option R) (kx:XD zAV.xs4→Option R):roundK (zAV.cfg N) N (nthLoop (fnBody Tryz.f14) 0) zAV.sk4 zAV.xs4 d kn kx=zAV.l4 N d kn kx:=by kernel_rfl
theorem zAV.i4 (N:Nat):LoopsOk Tryz.prog (zAV.cfg N) (nthLoop (fnBody Tryz.f14) 0):=loopsL (l:=[]) (by kernel_rfl) trivial
theorem zAV.o4 (N:Nat):LoopOk Tryz.prog (nthLoop (fnBody Tryz.f14) 0) (loopCon N zAV.sk4 zAV.xs4 (fun {R}=>zAV.l4 (R:=R) N)):=loop_ok (g:=zAV.cfg N) tys_ok (zAV.cons N) mixed (zAV.i4 N) (fun d kn kx=>zAV.h4 N d kn kx)
theorem zAV.ls (N:Nat):LoopsOk Tryz.prog (zAV.cfg N) (fnBody Tryz.f14):=loopsL (l:=[nthLoop (fnBody Tryz.f14) 0]) (by kernel_rfl) ⟨loopOne (L0:=loopCon N zAV.sk4 zAV.xs4 (fun {R}=>zAV.l4 (R:=R) N)) (id:=4) (by kernel_rfl) (by kernel_rfl) (zAV.o4 N),trivial⟩
theorem zAV.q4 {R R':Type} {N n:Nat} {d} {k} {g:R→Option R'}:bindF (loopP (zAV.l4 N) n d k) g=loopP (zAV.l4 N) n d fun e=>bindF (k e) g:=bindF_loopP (fun d kn kx=>by simp only [zAV.l4,bindF_ifB,bindF_bindO,bindF_pure,bindF_none,bindF_onSum]) n d k
theorem zAV.b (N:Nat) (x0:den s23):body (zAV.cfg N) N Tryz.f14 [.one] [.v] [(false,.imm)] [⟨s23,.imm,x0⟩] (fun r i=>some (r,i))=bindO (zAV N x0) fun r=>some ([⟨.bool,.imm,r⟩],[]):=by
  show _=bindF _ _
  conv=>rhs;simp only [zAV,bindF_ifB,bindF_bindO,bindF_pure,bindF_none,bindF_onSum,zAV.q4]
  kernel_rfl
theorem zAV.ok (N:Nat):ConOk Tryz.prog 14 [.one] (zAV.con N):=ok1 (g:=zAV.cfg N) (N:=N) (res:=[(false,.imm)]) tys_ok (zAV.cons N) mixed Tryz.func14 (zAV.ls N) rfl (zAV.b N)
theorem zAV.det (N:Nat):ConDet (zAV.con N):=det1
def zC5.con (N:Nat):Con:={ modes:=[.v],ptrs:=[false],fn:=fn1 (.int .i64) .imm (zC5 N) (fun r=>[⟨.bool,.imm,r⟩]) (fun r=>[]) }
def zC5.cfg (N:Nat):Cfg:={ ty:=tys,keep:=[],flt:=[],elm:=elm0,live:=[],ord:=[],con:=[],loops:=[],joins:=[] }
theorem zC5.cons (N:Nat):ConsOk Tryz.prog (zC5.cfg N).con:=consOk_nil
theorem zC5.ls (N:Nat):LoopsOk Tryz.prog (zC5.cfg N) (fnBody Tryz.f53):=loopsL (l:=[]) (by kernel_rfl) trivial
theorem zC5.b (N:Nat) (x0:den (.int .i64)):body (zC5.cfg N) N Tryz.f53 [.one] [.v] [(false,.imm)] [⟨(.int .i64),.imm,x0⟩] (fun r i=>some (r,i))=bindO (zC5 N x0) fun r=>some ([⟨.bool,.imm,r⟩],[]):=by
  show _=bindF _ _
  conv=>rhs;simp only [zC5,bindF_ifB,bindF_bindO,bindF_pure,bindF_none,bindF_onSum]
  kernel_rfl
theorem zC5.ok (N:Nat):ConOk Tryz.prog 53 [.one] (zC5.con N):=ok1 (g:=zC5.cfg N) (N:=N) (res:=[(false,.imm)]) tys_ok (zC5.cons N) mixed Tryz.func53 (zC5.ls N) rfl (zC5.b N)
theorem zC5.det (N:Nat):ConDet (zC5.con N):=det1
def zAQ.sk4:Skel:=⟨.pv s24::(dd 2 (.pv (.int .i64)::(dd 15 []))),[]⟩
def zAQ.xs4:List XS:=[⟨.exit 0,[],⟨dd 19 [],[]⟩⟩,⟨.ret,[2],⟨dd 2 (.pv .bool::(dd 16 [])),[]⟩⟩]
def zAQ.con (N:Nat):Con:={ modes:=[.v],ptrs:=[false],fn:=fn1 s24 .imm (zAQ N) (fun r=>[⟨.bool,.imm,r⟩]) (fun r=>[]) }
def zAQ.cfg (N:Nat):Cfg:={ ty:=tys,keep:=[17],flt:=[],elm:=elm0,live:=[(4,[0,3])],ord:=[],con:=[((53,[.one]),zC5.con N)],loops:=[(4,loopCon N zAQ.sk4 zAQ.xs4 (fun {R}=>zAQ.l4 (R:=R) N))],joins:=[] }
theorem zAQ.cons (N:Nat):ConsOk Tryz.prog (zAQ.cfg N).con:=(consOk_cons (hb53) (zC5.ok N) (zC5.det N) consOk_nil)
theorem zAQ.h4 {R:Type} (N:Nat) (d:zAQ.sk4.D) (kn:zAQ.sk4.D→Option R) (kx:XD zAQ.xs4→Option R):roundK (zAQ.cfg N) N (nthLoop (fnBody Tryz.f28) 0) zAQ.sk4 zAQ.xs4 d kn kx=zAQ.l4 N d kn kx:=by kernel_rfl
theorem zAQ.i4 (N:Nat):LoopsOk Tryz.prog (zAQ.cfg N) (nthLoop (fnBody Tryz.f28) 0):=loopsL (l:=[]) (by kernel_rfl) trivial
theorem zAQ.o4 (N:Nat):LoopOk Tryz.prog (nthLoop (fnBody Tryz.f28) 0) (loopCon N zAQ.sk4 zAQ.xs4 (fun {R}=>zAQ.l4 (R:=R) N)):=loop_ok (g:=zAQ.cfg N) tys_ok (zAQ.cons N) mixed (zAQ.i4 N) (fun d kn kx=>zAQ.h4 N d kn kx)
theorem zAQ.ls (N:Nat):LoopsOk Tryz.prog (zAQ.cfg N) (fnBody Tryz.f28):=loopsL (l:=[nthLoop (fnBody Tryz.f28) 0]) (by kernel_rfl) ⟨loopOne (L0:=loopCon N zAQ.sk4 zAQ.xs4 (fun {R}=>zAQ.l4 (R:=R) N)) (id:=4) (by kernel_rfl) (by kernel_rfl) (zAQ.o4 N),trivial⟩
theorem zAQ.q4 {R R':Type} {N n:Nat} {d} {k} {g:R→Option R'}:bindF (loopP (zAQ.l4 N) n d k) g=loopP (zAQ.l4 N) n d fun e=>bindF (k e) g:=bindF_loopP (fun d kn kx=>by simp only [zAQ.l4,bindF_ifB,bindF_bindO,bindF_pure,bindF_none,bindF_onSum]) n d k
theorem zAQ.b (N:Nat) (x0:den s24):body (zAQ.cfg N) N Tryz.f28 [.one] [.v] [(false,.imm)] [⟨s24,.imm,x0⟩] (fun r i=>some (r,i))=bindO (zAQ N x0) fun r=>some ([⟨.bool,.imm,r⟩],[]):=by
  show _=bindF _ _
  conv=>rhs;simp only [zAQ,bindF_ifB,bindF_bindO,bindF_pure,bindF_none,bindF_onSum,zAQ.q4]
  kernel_rfl
theorem zAQ.ok (N:Nat):ConOk Tryz.prog 28 [.one] (zAQ.con N):=ok1 (g:=zAQ.cfg N) (N:=N) (res:=[(false,.imm)]) tys_ok (zAQ.cons N) mixed Tryz.func28 (zAQ.ls N) rfl (zAQ.b N)
theorem zAQ.det (N:Nat):ConDet (zAQ.con N):=det1
def zBN.con (N:Nat):Con:={ modes:=[.v],ptrs:=[false],fn:=fn1 s25 .imm (zBN N) (fun r=>[⟨.bool,.imm,r⟩]) (fun r=>[]) }
def zBN.cfg (N:Nat):Cfg:={ ty:=tys,keep:=[9],flt:=[],elm:=elm0,live:=[],ord:=[],con:=[((28,[.one]),zAQ.con N)],loops:=[],joins:=[] }
theorem zBN.cons (N:Nat):ConsOk Tryz.prog (zBN.cfg N).con:=(consOk_cons (hb28) (zAQ.ok N) (zAQ.det N) consOk_nil)
theorem zBN.ls (N:Nat):LoopsOk Tryz.prog (zBN.cfg N) (fnBody Tryz.f15):=loopsL (l:=[]) (by kernel_rfl) trivial
theorem zBN.b (N:Nat) (x0:den s25):body (zBN.cfg N) N Tryz.f15 [.one] [.v] [(false,.imm)] [⟨s25,.imm,x0⟩] (fun r i=>some (r,i))=bindO (zBN N x0) fun r=>some ([⟨.bool,.imm,r⟩],[]):=by
  show _=bindF _ _
  conv=>rhs;simp only [zBN,bindF_ifB,bindF_bindO,bindF_pure,bindF_none,bindF_onSum]
  kernel_rfl
theorem zBN.ok (N:Nat):ConOk Tryz.prog 15 [.one] (zBN.con N):=ok1 (g:=zBN.cfg N) (N:=N) (res:=[(false,.imm)]) tys_ok (zBN.cons N) mixed Tryz.func15 (zBN.ls N) rfl (zBN.b N)
theorem zBN.det (N:Nat):ConDet (zBN.con N):=det1
def zC9.con (N:Nat):Con:={ modes:=[.v],ptrs:=[false],fn:=fn1 s24 .imm (zC9 N) (fun r=>[⟨s24,(.own .imm),r⟩]) (fun r=>[]) }
def zC9.cfg (N:Nat):Cfg:={ ty:=tys,keep:=[],flt:=[],elm:=elm0,live:=[],ord:=[],con:=[],loops:=[],joins:=[] }
theorem zC9.cons (N:Nat):ConsOk Tryz.prog (zC9.cfg N).con:=consOk_nil
theorem zC9.ls (N:Nat):LoopsOk Tryz.prog (zC9.cfg N) (fnBody Tryz.f32):=loopsL (l:=[]) (by kernel_rfl) trivial
theorem zC9.b (N:Nat) (x0:den s24):body (zC9.cfg N) N Tryz.f32 [.one] [.v] [(false,(.own .imm))] [⟨s24,.imm,x0⟩] (fun r i=>some (r,i))=bindO (zC9 N x0) fun r=>some ([⟨s24,(.own .imm),r⟩],[]):=by
  show _=bindF _ _
  conv=>rhs;simp only [zC9,bindF_ifB,bindF_bindO,bindF_pure,bindF_none,bindF_onSum]
  kernel_rfl
theorem zC9.ok (N:Nat):ConOk Tryz.prog 32 [.one] (zC9.con N):=ok1 (g:=zC9.cfg N) (N:=N) (res:=[(false,(.own .imm))]) tys_ok (zC9.cons N) mixed Tryz.func32 (zC9.ls N) rfl (zC9.b N)
theorem zC9.det (N:Nat):ConDet (zC9.con N):=det1
def zCG.con (N:Nat):Con:={ modes:=[.v],ptrs:=[false],fn:=fn1 s25 .imm (zCG N) (fun r=>[⟨s25,(.pr (.own .imm) .imm),r⟩]) (fun r=>[]) }
def zCG.cfg (N:Nat):Cfg:={ ty:=tys,keep:=[5],flt:=[],elm:=elm0,live:=[],ord:=[],con:=[((32,[.one]),zC9.con N)],loops:=[],joins:=[] }
theorem zCG.cons (N:Nat):ConsOk Tryz.prog (zCG.cfg N).con:=(consOk_cons (hb32) (zC9.ok N) (zC9.det N) consOk_nil)
theorem zCG.ls (N:Nat):LoopsOk Tryz.prog (zCG.cfg N) (fnBody Tryz.f29):=loopsL (l:=[]) (by kernel_rfl) trivial
theorem zCG.b (N:Nat) (x0:den s25):body (zCG.cfg N) N Tryz.f29 [.one] [.v] [(false,(.pr (.own .imm) .imm))] [⟨s25,.imm,x0⟩] (fun r i=>some (r,i))=bindO (zCG N x0) fun r=>some ([⟨s25,(.pr (.own .imm) .imm),r⟩],[]):=by
  show _=bindF _ _
  conv=>rhs;simp only [zCG,bindF_ifB,bindF_bindO,bindF_pure,bindF_none,bindF_onSum]
  kernel_rfl
theorem zCG.ok (N:Nat):ConOk Tryz.prog 29 [.one] (zCG.con N):=ok1 (g:=zCG.cfg N) (N:=N) (res:=[(false,(.pr (.own .imm) .imm))]) tys_ok (zCG.cons N) mixed Tryz.func29 (zCG.ls N) rfl (zCG.b N)
theorem zCG.det (N:Nat):ConDet (zCG.con N):=det1
def zBC.con (N:Nat):Con:={ modes:=[.io,.v],ptrs:=[],fn:=fn2 s63 (.pr .imm (.pr .imm (.pr (.own .imm) .imm))) (.int .i64) .imm (zBC N) (fun r=>[]) (fun r=>[⟨s63,(.pr .imm (.pr .imm (.pr (.own .imm) .imm))),r⟩]) }
def zBC.cfg (N:Nat):Cfg:={ ty:=tys,keep:=[],flt:=[],elm:=elm0,live:=[],ord:=[],con:=[],loops:=[],joins:=[] }
theorem zBC.cons (N:Nat):ConsOk Tryz.prog (zBC.cfg N).con:=consOk_nil
theorem zBC.ls (N:Nat):LoopsOk Tryz.prog (zBC.cfg N) (fnBody Tryz.f30):=loopsL (l:=[]) (by kernel_rfl) trivial
theorem zBC.b (N:Nat) (x0:den s63) (x1:den (.int .i64)):body (zBC.cfg N) N Tryz.f30 [.one,.one] [.io,.v] [] [⟨s63,(.pr .imm (.pr .imm (.pr (.own .imm) .imm))),x0⟩,⟨(.int .i64),.imm,x1⟩] (fun r i=>some (r,i))=bindO (zBC N x0 x1) fun r=>some ([],[⟨s63,(.pr .imm (.pr .imm (.pr (.own .imm) .imm))),r⟩]):=by
  show _=bindF _ _
  conv=>rhs;simp only [zBC,bindF_ifB,bindF_bindO,bindF_pure,bindF_none,bindF_onSum]
  kernel_rfl
theorem zBC.ok (N:Nat):ConOk Tryz.prog 30 [.one,.one] (zBC.con N):=ok2 (g:=zBC.cfg N) (N:=N) (res:=[]) tys_ok (zBC.cons N) mixed Tryz.func30 (zBC.ls N) rfl (zBC.b N)
theorem zBC.det (N:Nat):ConDet (zBC.con N):=det2
def zAS.sk2:Skel:=⟨.rp s63::(.pv .str::(dd 3 (.pv (.int .i64)::(dd 19 [])))),[]⟩
def zAS.xs2:List XS:=[⟨.exit 0,[],⟨dd 25 [],[]⟩⟩,⟨.ret,[4],⟨dd 4 (.pv (.int .i64)::(dd 20 [])),[]⟩⟩]
def zAS.con (N:Nat):Con:={ modes:=[.rd,.v],ptrs:=[false],fn:=fn2 s63 .imm .str .imm (zAS N) (fun r=>[⟨(.int .i64),.imm,r⟩]) (fun r=>[]) }
def zAS.cfg (N:Nat):Cfg:={ ty:=tys,keep:=[],flt:=[],elm:=elm0,live:=[(2,[0,1,5])],ord:=[],con:=[],loops:=[(2,loopCon N zAS.sk2 zAS.xs2 (fun {R}=>zAS.l2 (R:=R) N))],joins:=[] }
theorem zAS.cons (N:Nat):ConsOk Tryz.prog (zAS.cfg N).con:=consOk_nil
theorem zAS.h2 {R:Type} (N:Nat) (d:zAS.sk2.D) (kn:zAS.sk2.D→Option R) (kx:XD zAS.xs2→Option R):roundK (zAS.cfg N) N (nthLoop (fnBody Tryz.f54) 0) zAS.sk2 zAS.xs2 d kn kx=zAS.l2 N d kn kx:=by kernel_rfl
theorem zAS.i2 (N:Nat):LoopsOk Tryz.prog (zAS.cfg N) (nthLoop (fnBody Tryz.f54) 0):=loopsL (l:=[]) (by kernel_rfl) trivial
theorem zAS.o2 (N:Nat):LoopOk Tryz.prog (nthLoop (fnBody Tryz.f54) 0) (loopCon N zAS.sk2 zAS.xs2 (fun {R}=>zAS.l2 (R:=R) N)):=loop_ok (g:=zAS.cfg N) tys_ok (zAS.cons N) mixed (zAS.i2 N) (fun d kn kx=>zAS.h2 N d kn kx)
theorem zAS.ls (N:Nat):LoopsOk Tryz.prog (zAS.cfg N) (fnBody Tryz.f54):=loopsL (l:=[nthLoop (fnBody Tryz.f54) 0]) (by kernel_rfl) ⟨loopOne (L0:=loopCon N zAS.sk2 zAS.xs2 (fun {R}=>zAS.l2 (R:=R) N)) (id:=2) (by kernel_rfl) (by kernel_rfl) (zAS.o2 N),trivial⟩
theorem zAS.q2 {R R':Type} {N n:Nat} {d} {k} {g:R→Option R'}:bindF (loopP (zAS.l2 N) n d k) g=loopP (zAS.l2 N) n d fun e=>bindF (k e) g:=bindF_loopP (fun d kn kx=>by simp only [zAS.l2,bindF_ifB,bindF_bindO,bindF_pure,bindF_none,bindF_onSum]) n d k
theorem zAS.b (N:Nat) (x0:den s63) (x1:den .str):body (zAS.cfg N) N Tryz.f54 [.one,.one] [.rd,.v] [(false,.imm)] [⟨s63,.imm,x0⟩,⟨.str,.imm,x1⟩] (fun r i=>some (r,i))=bindO (zAS N x0 x1) fun r=>some ([⟨(.int .i64),.imm,r⟩],[]):=by
  show _=bindF _ _
  conv=>rhs;simp only [zAS,bindF_ifB,bindF_bindO,bindF_pure,bindF_none,bindF_onSum,zAS.q2]
  kernel_rfl
theorem zAS.ok (N:Nat):ConOk Tryz.prog 54 [.one,.one] (zAS.con N):=ok2 (g:=zAS.cfg N) (N:=N) (res:=[(false,.imm)]) tys_ok (zAS.cons N) mixed Tryz.func54 (zAS.ls N) rfl (zAS.b N)
theorem zAS.det (N:Nat):ConDet (zAS.con N):=det2
def zCV.con (N:Nat):Con:={ modes:=[.v,.v,.v,.v],ptrs:=[false],fn:=fn4 (.int .i64) .imm (.int .i64) .imm (.int .i64) .imm (.int .i64) .imm (zCV N) (fun r=>[⟨(.int .i64),.imm,r⟩]) (fun r=>[]) }
def zCV.cfg (N:Nat):Cfg:={ ty:=tys,keep:=[],flt:=[],elm:=elm0,live:=[],ord:=[],con:=[],loops:=[],joins:=[] }
theorem zCV.cons (N:Nat):ConsOk Tryz.prog (zCV.cfg N).con:=consOk_nil
theorem zCV.ls (N:Nat):LoopsOk Tryz.prog (zCV.cfg N) (fnBody Tryz.f98):=loopsL (l:=[]) (by kernel_rfl) trivial
theorem zCV.b (N:Nat) (x0:den (.int .i64)) (x1:den (.int .i64)) (x2:den (.int .i64)) (x3:den (.int .i64)):body (zCV.cfg N) N Tryz.f98 [.one,.one,.one,.one] [.v,.v,.v,.v] [(false,.imm)] [⟨(.int .i64),.imm,x0⟩,⟨(.int .i64),.imm,x1⟩,⟨(.int .i64),.imm,x2⟩,⟨(.int .i64),.imm,x3⟩] (fun r i=>some (r,i))=bindO (zCV N x0 x1 x2 x3) fun r=>some ([⟨(.int .i64),.imm,r⟩],[]):=by
  show _=bindF _ _
  conv=>rhs;simp only [zCV,bindF_ifB,bindF_bindO,bindF_pure,bindF_none,bindF_onSum]
  kernel_rfl
theorem zCV.ok (N:Nat):ConOk Tryz.prog 98 [.one,.one,.one,.one] (zCV.con N):=ok4 (g:=zCV.cfg N) (N:=N) (res:=[(false,.imm)]) tys_ok (zCV.cons N) mixed Tryz.func98 (zCV.ls N) rfl (zCV.b N)
theorem zCV.det (N:Nat):ConDet (zCV.con N):=det4
def zBW.con (N:Nat):Con:={ modes:=[.v,.v,.v,.v],ptrs:=[false],fn:=fn4 s25 .imm (.int .i64) .imm (.int .i64) .imm s24 .imm (zBW N) (fun r=>[⟨s99,(.pr (.pr (.own .imm) .imm) (.pr (.own .imm) .imm)),r⟩]) (fun r=>[]) }
def zBW.cfg (N:Nat):Cfg:={ ty:=tys,keep:=[18,22,63,69,75,103],flt:=[],elm:=elm0,live:=[],ord:=[(12,[13,0,1,2,3,4,6,7,8,9,10,5,11,12,14]),(13,[0,1,2,3,5,7,8,9,10,4,6,11,12,13]),(16,[0,1,2,3,4,5,6,7,8])],con:=[((15,[.one]),zBN.con N),((28,[.one]),zAQ.con N),((98,[.one,.one,.one,.one]),zCV.con N),((32,[.one]),zC9.con N)],loops:=[],joins:=[] }
theorem zBW.cons (N:Nat):ConsOk Tryz.prog (zBW.cfg N).con:=(consOk_cons (hb15) (zBN.ok N) (zBN.det N) (consOk_cons (hb28) (zAQ.ok N) (zAQ.det N) (consOk_cons (hb98) (zCV.ok N) (zCV.det N) (consOk_cons (hb32) (zC9.ok N) (zC9.det N) consOk_nil))))
theorem zBW.ls (N:Nat):LoopsOk Tryz.prog (zBW.cfg N) (fnBody Tryz.f82):=loopsL (l:=[]) (by kernel_rfl) trivial
theorem zBW.b (N:Nat) (x0:den s25) (x1:den (.int .i64)) (x2:den (.int .i64)) (x3:den s24):body (zBW.cfg N) N Tryz.f82 [.one,.one,.one,.one] [.v,.v,.v,.v] [(false,(.pr (.pr (.own .imm) .imm) (.pr (.own .imm) .imm)))] [⟨s25,.imm,x0⟩,⟨(.int .i64),.imm,x1⟩,⟨(.int .i64),.imm,x2⟩,⟨s24,.imm,x3⟩] (fun r i=>some (r,i))=bindO (zBW N x0 x1 x2 x3) fun r=>some ([⟨s99,(.pr (.pr (.own .imm) .imm) (.pr (.own .imm) .imm)),r⟩],[]):=by
  show _=bindF _ _
  conv=>rhs;simp only [zBW,bindF_ifB,bindF_bindO,bindF_pure,bindF_none,bindF_onSum]
  kernel_rfl
theorem zBW.ok (N:Nat):ConOk Tryz.prog 82 [.one,.one,.one,.one] (zBW.con N):=ok4 (g:=zBW.cfg N) (N:=N) (res:=[(false,(.pr (.pr (.own .imm) .imm) (.pr (.own .imm) .imm)))]) tys_ok (zBW.cons N) mixed Tryz.func82 (zBW.ls N) rfl (zBW.b N)
theorem zBW.det (N:Nat):ConDet (zBW.con N):=det4
def zCM.con (N:Nat):Con:={ modes:=[.v,.v],ptrs:=[false],fn:=fn2 s25 .imm s24 .imm (zCM N) (fun r=>[⟨s99,(.pr (.pr (.own .imm) .imm) (.pr (.own .imm) .imm)),r⟩]) (fun r=>[]) }
def zCM.cfg (N:Nat):Cfg:={ ty:=tys,keep:=[11],flt:=[],elm:=elm0,live:=[],ord:=[],con:=[((82,[.one,.one,.one,.one]),zBW.con N)],loops:=[],joins:=[] }
theorem zCM.cons (N:Nat):ConsOk Tryz.prog (zCM.cfg N).con:=(consOk_cons (hb82) (zBW.ok N) (zBW.det N) consOk_nil)
theorem zCM.ls (N:Nat):LoopsOk Tryz.prog (zCM.cfg N) (fnBody Tryz.f57):=loopsL (l:=[]) (by kernel_rfl) trivial
theorem zCM.b (N:Nat) (x0:den s25) (x1:den s24):body (zCM.cfg N) N Tryz.f57 [.one,.one] [.v,.v] [(false,(.pr (.pr (.own .imm) .imm) (.pr (.own .imm) .imm)))] [⟨s25,.imm,x0⟩,⟨s24,.imm,x1⟩] (fun r i=>some (r,i))=bindO (zCM N x0 x1) fun r=>some ([⟨s99,(.pr (.pr (.own .imm) .imm) (.pr (.own .imm) .imm)),r⟩],[]):=by
  show _=bindF _ _
  conv=>rhs;simp only [zCM,bindF_ifB,bindF_bindO,bindF_pure,bindF_none,bindF_onSum]
  kernel_rfl
theorem zCM.ok (N:Nat):ConOk Tryz.prog 57 [.one,.one] (zCM.con N):=ok2 (g:=zCM.cfg N) (N:=N) (res:=[(false,(.pr (.pr (.own .imm) .imm) (.pr (.own .imm) .imm)))]) tys_ok (zCM.cons N) mixed Tryz.func57 (zCM.ls N) rfl (zCM.b N)
theorem zCM.det (N:Nat):ConDet (zCM.con N):=det2
end Go.AE.F
end
