/- The printed functions are what the program comes to: contracts. -/
import Derived.Test.YtgljdfgbcfdmbaaGreatDoorLSendAllL3
noncomputable section
namespace Go.AE.F
open Go.AE Go.Proofs
set_option maxRecDepth 100000
def zCH.con (N:Nat):Con:={ modes:=[.v,.v],ptrs:=[false],fn:=fn2 (.int .i64) .imm (.int .i64) .imm (zCH N) (fun r=>[⟨s24,(.pr .imm (.pr .imm (.pr (.own .imm) .imm))),r⟩]) (fun r=>[]) }
def zCH.cfg (N:Nat):Cfg:={ ty:=tys,keep:=[6,10],flt:=[],elm:=elm0,live:=[],ord:=[],con:=[((31,[.one]),zCJ.con N),((32,[.one]),zCK.con N)],loops:=[],joins:=[] }
theorem zCH.cons (N:Nat):ConsOk Tryz.prog TB (zCH.cfg N).con:=(consOk_cons (hb31) (zCJ.ok N) (zCJ.det N) (consOk_cons (hb32) (zCK.ok N) (zCK.det N) consOk_nil))
theorem zCH.ls (N:Nat):LoopsOk Tryz.prog TB (zCH.cfg N) (fnBody Tryz.f11):=loopsL (l:=[]) (by kernel_rfl) trivial
theorem zCH.b (N:Nat) (x0:den (.int .i64)) (x1:den (.int .i64)):body (zCH.cfg N) N Tryz.f11 [.one,.one] [.v,.v] [(false,(.pr .imm (.pr .imm (.pr (.own .imm) .imm))))] [⟨(.int .i64),.imm,x0⟩,⟨(.int .i64),.imm,x1⟩] (fun r i=>some (r,i))=bindO (zCH N x0 x1) fun r=>some ([⟨s24,(.pr .imm (.pr .imm (.pr (.own .imm) .imm))),r⟩],[]):=by
 show _=bindF _ _
 conv=>rhs;simp only [zCH,bindF_ifB,bindF_bindO,bindF_pure,bindF_none,bindF_onSum]
 kernel_rfl
theorem zCH.ok (N:Nat):ConOk Tryz.prog TB 11 [.one,.one] (zCH.con N):=ok2 (g:=zCH.cfg N) (N:=N) (res:=[(false,(.pr .imm (.pr .imm (.pr (.own .imm) .imm))))]) tys_ok (zCH.cons N) mixed Tryz.func11 (zCH.ls N) rfl (zCH.b N)
theorem zCH.det (N:Nat):ConDet (zCH.con N):=det2
def zBE.con (N:Nat):Con:={ modes:=[.v],ptrs:=[false],fn:=fn1 s23 .imm (zBE N) (fun r=>[⟨(.int .i64),.imm,r⟩]) (fun r=>[]) }
def zBE.cfg (N:Nat):Cfg:={ ty:=tys,keep:=[],flt:=[],elm:=elm0,live:=[],ord:=[],con:=[],loops:=[],joins:=[] }
theorem zBE.cons (N:Nat):ConsOk Tryz.prog TB (zBE.cfg N).con:=consOk_nil
theorem zBE.ls (N:Nat):LoopsOk Tryz.prog TB (zBE.cfg N) (fnBody Tryz.f50):=loopsL (l:=[]) (by kernel_rfl) trivial
theorem zBE.b (N:Nat) (x0:den s23):body (zBE.cfg N) N Tryz.f50 [.one] [.v] [(false,.imm)] [⟨s23,.imm,x0⟩] (fun r i=>some (r,i))=bindO (zBE N x0) fun r=>some ([⟨(.int .i64),.imm,r⟩],[]):=by
 show _=bindF _ _
 conv=>rhs;simp only [zBE,bindF_ifB,bindF_bindO,bindF_pure,bindF_none,bindF_onSum]
 kernel_rfl
theorem zBE.ok (N:Nat):ConOk Tryz.prog TB 50 [.one] (zBE.con N):=ok1 (g:=zBE.cfg N) (N:=N) (res:=[(false,.imm)]) tys_ok (zBE.cons N) mixed Tryz.func50 (zBE.ls N) rfl (zBE.b N)
theorem zBE.det (N:Nat):ConDet (zBE.con N):=det1
def zCG.con (N:Nat):Con:={ modes:=[.v],ptrs:=[false],fn:=fn1 (.int .i64) .imm (zCG N) (fun r=>[⟨.bool,.imm,r⟩]) (fun r=>[]) }
def zCG.cfg (N:Nat):Cfg:={ ty:=tys,keep:=[4,7],flt:=[],elm:=elm0,live:=[],ord:=[],con:=[((20,[.one,.one,.one]),zB7.con N)],loops:=[],joins:=[] }
theorem zCG.cons (N:Nat):ConsOk Tryz.prog TB (zCG.cfg N).con:=(consOk_cons (hb20) (zB7.ok N) (zB7.det N) consOk_nil)
theorem zCG.ls (N:Nat):LoopsOk Tryz.prog TB (zCG.cfg N) (fnBody Tryz.f82):=loopsL (l:=[]) (by kernel_rfl) trivial
theorem zCG.b (N:Nat) (x0:den (.int .i64)):body (zCG.cfg N) N Tryz.f82 [.one] [.v] [(false,.imm)] [⟨(.int .i64),.imm,x0⟩] (fun r i=>some (r,i))=bindO (zCG N x0) fun r=>some ([⟨.bool,.imm,r⟩],[]):=by
 show _=bindF _ _
 conv=>rhs;simp only [zCG,bindF_ifB,bindF_bindO,bindF_pure,bindF_none,bindF_onSum]
 kernel_rfl
theorem zCG.ok (N:Nat):ConOk Tryz.prog TB 82 [.one] (zCG.con N):=ok1 (g:=zCG.cfg N) (N:=N) (res:=[(false,.imm)]) tys_ok (zCG.cons N) mixed Tryz.func82 (zCG.ls N) rfl (zCG.b N)
theorem zCG.det (N:Nat):ConDet (zCG.con N):=det1
def zBS.con (N:Nat):Con:={ modes:=[.v],ptrs:=[false],fn:=fn1 (.int .i64) .imm (zBS N) (fun r=>[⟨.bool,.imm,r⟩]) (fun r=>[]) }
def zBS.cfg (N:Nat):Cfg:={ ty:=tys,keep:=[],flt:=[],elm:=elm0,live:=[],ord:=[],con:=[],loops:=[],joins:=[] }
theorem zBS.cons (N:Nat):ConsOk Tryz.prog TB (zBS.cfg N).con:=consOk_nil
theorem zBS.ls (N:Nat):LoopsOk Tryz.prog TB (zBS.cfg N) (fnBody Tryz.f29):=loopsL (l:=[]) (by kernel_rfl) trivial
theorem zBS.b (N:Nat) (x0:den (.int .i64)):body (zBS.cfg N) N Tryz.f29 [.one] [.v] [(false,.imm)] [⟨(.int .i64),.imm,x0⟩] (fun r i=>some (r,i))=bindO (zBS N x0) fun r=>some ([⟨.bool,.imm,r⟩],[]):=by
 show _=bindF _ _
 conv=>rhs;simp only [zBS,bindF_ifB,bindF_bindO,bindF_pure,bindF_none,bindF_onSum]
 kernel_rfl
theorem zBS.ok (N:Nat):ConOk Tryz.prog TB 29 [.one] (zBS.con N):=ok1 (g:=zBS.cfg N) (N:=N) (res:=[(false,.imm)]) tys_ok (zBS.cons N) mixed Tryz.func29 (zBS.ls N) rfl (zBS.b N)
theorem zBS.det (N:Nat):ConDet (zBS.con N):=det1
def zAX.sk6:Skel:=⟨.pv (.int .i64)::(dd 19 (.ov 50 []::(.pv (.int .i64)::(.pv (.int .i64)::(dd 10 []))))),[⟨50,s112,(.own .imm),false,false⟩]⟩
def zAX.xs6:List XS:=[⟨.exit 0,[],⟨dd 33 [],[]⟩⟩,⟨.ret,[2],⟨dd 2 (.pv (.int .i64)::(dd 30 [])),[]⟩⟩]
def zAX.con (N:Nat):Con:={ modes:=[.v],ptrs:=[false],fn:=fn1 (.int .i64) .imm (zAX N) (fun r=>[⟨(.int .i64),.imm,r⟩]) (fun r=>[]) }
def zAX.cfg (N:Nat):Cfg:={ ty:=tys,keep:=[6,10,13,31],flt:=[],elm:=elm0,live:=[(6,[0,20,21,22])],ord:=[],con:=[((82,[.one]),zCG.con N),((20,[.one,.one,.one]),zB7.con N),((29,[.one]),zBS.con N)],loops:=[(6,loopCon N zAX.sk6 zAX.xs6 (fun {R}=>zAX.l6 (R:=R) N))],joins:=[] }
theorem zAX.cons (N:Nat):ConsOk Tryz.prog TB (zAX.cfg N).con:=(consOk_cons (hb82) (zCG.ok N) (zCG.det N) (consOk_cons (hb20) (zB7.ok N) (zB7.det N) (consOk_cons (hb29) (zBS.ok N) (zBS.det N) consOk_nil)))
theorem zAX.h6 {R:Type} (N:Nat) (d:zAX.sk6.D) (kn:zAX.sk6.D->Option R) (kx:XD zAX.xs6->Option R):roundK (zAX.cfg N) N (nthLoop (fnBody Tryz.f65) 0) zAX.sk6 zAX.xs6 d kn kx=zAX.l6 N d kn kx:=by kernel_rfl
theorem zAX.i6 (N:Nat):LoopsOk Tryz.prog TB (zAX.cfg N) (nthLoop (fnBody Tryz.f65) 0):=loopsL (l:=[]) (by kernel_rfl) trivial
theorem zAX.o6 (N:Nat):LoopOk Tryz.prog TB (nthLoop (fnBody Tryz.f65) 0) (loopCon N zAX.sk6 zAX.xs6 (fun {R}=>zAX.l6 (R:=R) N)):=loop_ok (g:=zAX.cfg N) tys_ok (zAX.cons N) mixed (zAX.i6 N) (fun d kn kx=>zAX.h6 N d kn kx)
theorem zAX.ls (N:Nat):LoopsOk Tryz.prog TB (zAX.cfg N) (fnBody Tryz.f65):=loopsL (l:=[nthLoop (fnBody Tryz.f65) 0]) (by kernel_rfl) ⟨loopOne (L0:=loopCon N zAX.sk6 zAX.xs6 (fun {R}=>zAX.l6 (R:=R) N)) (id:=6) (by kernel_rfl) (by kernel_rfl) (zAX.o6 N),trivial⟩
theorem zAX.q6 {R R':Type} {N n:Nat} {d} {k} {g:R->Option R'}:bindF (loopP (zAX.l6 N) n d k) g=loopP (zAX.l6 N) n d fun e=>bindF (k e) g:=bindF_loopP (fun d kn kx=>by simp only [zAX.l6,bindF_ifB,bindF_bindO,bindF_pure,bindF_none,bindF_onSum]) n d k
theorem zAX.b (N:Nat) (x0:den (.int .i64)):body (zAX.cfg N) N Tryz.f65 [.one] [.v] [(false,.imm)] [⟨(.int .i64),.imm,x0⟩] (fun r i=>some (r,i))=bindO (zAX N x0) fun r=>some ([⟨(.int .i64),.imm,r⟩],[]):=by
 show _=bindF _ _
 conv=>rhs;simp only [zAX,bindF_ifB,bindF_bindO,bindF_pure,bindF_none,bindF_onSum,zAX.q6]
 kernel_rfl
theorem zAX.ok (N:Nat):ConOk Tryz.prog TB 65 [.one] (zAX.con N):=ok1 (g:=zAX.cfg N) (N:=N) (res:=[(false,.imm)]) tys_ok (zAX.cons N) mixed Tryz.func65 (zAX.ls N) rfl (zAX.b N)
theorem zAX.det (N:Nat):ConDet (zAX.con N):=det1
def zAS.sk2:Skel:=⟨dd 1 (.ptr 50 []::(dd 4 (.pv s40::(.pv (.int .i64)::(.pv (.int .i64)::(dd 29 [])))))),[⟨50,s41,.imm,true,false⟩]⟩
def zAS.xs2:List XS:=[⟨.exit 0,[1],⟨dd 1 (.ptr 50 []::(dd 36 [])),[⟨50,s41,.imm,true,false⟩]⟩⟩,⟨.ret,[2],⟨dd 2 (.pv .bool::(dd 35 [])),[]⟩⟩]
def zAS.con (N:Nat):Con:={ modes:=[.v],ptrs:=[false],fn:=fn1 s41 .imm (zAS N) (fun r=>[⟨.bool,.imm,r⟩]) (fun r=>[]) }
def zAS.cfg (N:Nat):Cfg:={ ty:=tys,keep:=[14,18,24,36],flt:=[],elm:=elm0,live:=[(2,[1,6,7,8])],ord:=[],con:=[((82,[.one]),zCG.con N),((29,[.one]),zBS.con N),((65,[.one]),zAX.con N),((20,[.one,.one,.one]),zB7.con N)],loops:=[(2,loopCon N zAS.sk2 zAS.xs2 (fun {R}=>zAS.l2 (R:=R) N))],joins:=[] }
theorem zAS.cons (N:Nat):ConsOk Tryz.prog TB (zAS.cfg N).con:=(consOk_cons (hb82) (zCG.ok N) (zCG.det N) (consOk_cons (hb29) (zBS.ok N) (zBS.det N) (consOk_cons (hb65) (zAX.ok N) (zAX.det N) (consOk_cons (hb20) (zB7.ok N) (zB7.det N) consOk_nil))))
theorem zAS.h2 {R:Type} (N:Nat) (d:zAS.sk2.D) (kn:zAS.sk2.D->Option R) (kx:XD zAS.xs2->Option R):roundK (zAS.cfg N) N (nthLoop (fnBody Tryz.f60) 0) zAS.sk2 zAS.xs2 d kn kx=zAS.l2 N d kn kx:=by kernel_rfl
theorem zAS.i2 (N:Nat):LoopsOk Tryz.prog TB (zAS.cfg N) (nthLoop (fnBody Tryz.f60) 0):=loopsL (l:=[]) (by kernel_rfl) trivial
theorem zAS.o2 (N:Nat):LoopOk Tryz.prog TB (nthLoop (fnBody Tryz.f60) 0) (loopCon N zAS.sk2 zAS.xs2 (fun {R}=>zAS.l2 (R:=R) N)):=loop_ok (g:=zAS.cfg N) tys_ok (zAS.cons N) mixed (zAS.i2 N) (fun d kn kx=>zAS.h2 N d kn kx)
theorem zAS.ls (N:Nat):LoopsOk Tryz.prog TB (zAS.cfg N) (fnBody Tryz.f60):=loopsL (l:=[nthLoop (fnBody Tryz.f60) 0]) (by kernel_rfl) ⟨loopOne (L0:=loopCon N zAS.sk2 zAS.xs2 (fun {R}=>zAS.l2 (R:=R) N)) (id:=2) (by kernel_rfl) (by kernel_rfl) (zAS.o2 N),trivial⟩
theorem zAS.q2 {R R':Type} {N n:Nat} {d} {k} {g:R->Option R'}:bindF (loopP (zAS.l2 N) n d k) g=loopP (zAS.l2 N) n d fun e=>bindF (k e) g:=bindF_loopP (fun d kn kx=>by simp only [zAS.l2,bindF_ifB,bindF_bindO,bindF_pure,bindF_none,bindF_onSum]) n d k
theorem zAS.b (N:Nat) (x0:den s41):body (zAS.cfg N) N Tryz.f60 [.one] [.v] [(false,.imm)] [⟨s41,.imm,x0⟩] (fun r i=>some (r,i))=bindO (zAS N x0) fun r=>some ([⟨.bool,.imm,r⟩],[]):=by
 show _=bindF _ _
 conv=>rhs;simp only [zAS,bindF_ifB,bindF_bindO,bindF_pure,bindF_none,bindF_onSum,zAS.q2]
 kernel_rfl
theorem zAS.ok (N:Nat):ConOk Tryz.prog TB 60 [.one] (zAS.con N):=ok1 (g:=zAS.cfg N) (N:=N) (res:=[(false,.imm)]) tys_ok (zAS.cons N) mixed Tryz.func60 (zAS.ls N) rfl (zAS.b N)
theorem zAS.det (N:Nat):ConDet (zAS.con N):=det1
def zBO.con (N:Nat):Con:={ modes:=[.rd],ptrs:=[false],fn:=fn1 s41 .imm (zBO N) (fun r=>[⟨.bool,.imm,r⟩]) (fun r=>[]) }
def zBO.cfg (N:Nat):Cfg:={ ty:=tys,keep:=[16],flt:=[],elm:=elm0,live:=[],ord:=[],con:=[((65,[.one]),zAX.con N)],loops:=[],joins:=[] }
theorem zBO.cons (N:Nat):ConsOk Tryz.prog TB (zBO.cfg N).con:=(consOk_cons (hb65) (zAX.ok N) (zAX.det N) consOk_nil)
theorem zBO.ls (N:Nat):LoopsOk Tryz.prog TB (zBO.cfg N) (fnBody Tryz.f61):=loopsL (l:=[]) (by kernel_rfl) trivial
theorem zBO.b (N:Nat) (x0:den s41):body (zBO.cfg N) N Tryz.f61 [.one] [.rd] [(false,.imm)] [⟨s41,.imm,x0⟩] (fun r i=>some (r,i))=bindO (zBO N x0) fun r=>some ([⟨.bool,.imm,r⟩],[]):=by
 show _=bindF _ _
 conv=>rhs;simp only [zBO,bindF_ifB,bindF_bindO,bindF_pure,bindF_none,bindF_onSum]
 kernel_rfl
theorem zBO.ok (N:Nat):ConOk Tryz.prog TB 61 [.one] (zBO.con N):=ok1 (g:=zBO.cfg N) (N:=N) (res:=[(false,.imm)]) tys_ok (zBO.cons N) mixed Tryz.func61 (zBO.ls N) rfl (zBO.b N)
theorem zBO.det (N:Nat):ConDet (zBO.con N):=det1
def zB0.con (N:Nat):Con:={ modes:=[.rd],ptrs:=[false],fn:=fn1 s41 .imm (zB0 N) (fun r=>[⟨.bool,.imm,r⟩]) (fun r=>[]) }
def zB0.cfg (N:Nat):Cfg:={ ty:=tys,keep:=[],flt:=[],elm:=elm0,live:=[],ord:=[],con:=[],loops:=[],joins:=[] }
theorem zB0.cons (N:Nat):ConsOk Tryz.prog TB (zB0.cfg N).con:=consOk_nil
theorem zB0.ls (N:Nat):LoopsOk Tryz.prog TB (zB0.cfg N) (fnBody Tryz.f52):=loopsL (l:=[]) (by kernel_rfl) trivial
theorem zB0.b (N:Nat) (x0:den s41):body (zB0.cfg N) N Tryz.f52 [.one] [.rd] [(false,.imm)] [⟨s41,.imm,x0⟩] (fun r i=>some (r,i))=bindO (zB0 N x0) fun r=>some ([⟨.bool,.imm,r⟩],[]):=by
 show _=bindF _ _
 conv=>rhs;simp only [zB0,bindF_ifB,bindF_bindO,bindF_pure,bindF_none,bindF_onSum]
 kernel_rfl
theorem zB0.ok (N:Nat):ConOk Tryz.prog TB 52 [.one] (zB0.con N):=ok1 (g:=zB0.cfg N) (N:=N) (res:=[(false,.imm)]) tys_ok (zB0.cons N) mixed Tryz.func52 (zB0.ls N) rfl (zB0.b N)
theorem zB0.det (N:Nat):ConDet (zB0.con N):=det1
def zAL.sk4:Skel:=⟨dd 1 (.ptr 50 []::(dd 61 (.pv s23::(.pv (.int .i64)::(.pv (.int .i64)::(dd 37 [])))))),[⟨50,s24,.imm,true,false⟩]⟩
def zAL.xs4:List XS:=[⟨.exit 0,[],⟨dd 103 [],[]⟩⟩,⟨.ret,[2],⟨dd 2 (.pv .bool::(dd 100 [])),[]⟩⟩]
def zAL.con (N:Nat):Con:={ modes:=[.v],ptrs:=[false],fn:=fn1 s24 .imm (zAL N) (fun r=>[⟨.bool,.imm,r⟩]) (fun r=>[]) }
def zAL.cfg (N:Nat):Cfg:={ ty:=tys,keep:=[7,12,18,32,41,59,71,73,87],flt:=[],elm:=elm0,live:=[(4,[1,63,64,65])],ord:=[(1,[0,1,2,3,4,5,6,7,8,9,10,11,12,14,15,16,17,18,13,19,20,21,22,23,24,25,26,27,28,29,30,31,32,33,34,35,36,37,38,39,40,41,42,43,44,45,46,47,48,49,50,51,52,53,54,55,56]),(9,[0,1,2,3,4,5,6,7,8,9,10,11,12,13,14,15,16,17,18,19,20,21,22,23,24,25,26])],con:=[((31,[.one]),zCJ.con N),((32,[.one]),zCK.con N),((50,[.one]),zBE.con N),((20,[.one,.one,.one]),zB7.con N),((60,[.one]),zAS.con N),((61,[.one]),zBO.con N),((52,[.one]),zB0.con N)],loops:=[(4,loopCon N zAL.sk4 zAL.xs4 (fun {R}=>zAL.l4 (R:=R) N))],joins:=[(11,[⟨.normal,[1,63,64,65],⟨dd 1 (.ptr 50 []::(dd 61 (.pv s23::(.pv (.int .i64)::(.pv (.int .i64)::(dd 37 [])))))),[⟨50,s24,.imm,true,false⟩]⟩⟩,⟨.ret,[2],⟨dd 2 (.pv .bool::(dd 100 [])),[]⟩⟩])] }
theorem zAL.cons (N:Nat):ConsOk Tryz.prog TB (zAL.cfg N).con:=(consOk_cons (hb31) (zCJ.ok N) (zCJ.det N) (consOk_cons (hb32) (zCK.ok N) (zCK.det N) (consOk_cons (hb50) (zBE.ok N) (zBE.det N) (consOk_cons (hb20) (zB7.ok N) (zB7.det N) (consOk_cons (hb60) (zAS.ok N) (zAS.det N) (consOk_cons (hb61) (zBO.ok N) (zBO.det N) (consOk_cons (hb52) (zB0.ok N) (zB0.det N) consOk_nil)))))))
theorem zAL.h4 {R:Type} (N:Nat) (d:zAL.sk4.D) (kn:zAL.sk4.D->Option R) (kx:XD zAL.xs4->Option R):roundK (zAL.cfg N) N (nthLoop (fnBody Tryz.f24) 0) zAL.sk4 zAL.xs4 d kn kx=zAL.l4 N d kn kx:=by kernel_rfl
theorem zAL.i4 (N:Nat):LoopsOk Tryz.prog TB (zAL.cfg N) (nthLoop (fnBody Tryz.f24) 0):=loopsL (l:=[]) (by kernel_rfl) trivial
theorem zAL.o4 (N:Nat):LoopOk Tryz.prog TB (nthLoop (fnBody Tryz.f24) 0) (loopCon N zAL.sk4 zAL.xs4 (fun {R}=>zAL.l4 (R:=R) N)):=loop_ok (g:=zAL.cfg N) tys_ok (zAL.cons N) mixed (zAL.i4 N) (fun d kn kx=>zAL.h4 N d kn kx)
theorem zAL.ls (N:Nat):LoopsOk Tryz.prog TB (zAL.cfg N) (fnBody Tryz.f24):=loopsL (l:=[nthLoop (fnBody Tryz.f24) 0]) (by kernel_rfl) ⟨loopOne (L0:=loopCon N zAL.sk4 zAL.xs4 (fun {R}=>zAL.l4 (R:=R) N)) (id:=4) (by kernel_rfl) (by kernel_rfl) (zAL.o4 N),trivial⟩
theorem zAL.q4 {R R':Type} {N n:Nat} {d} {k} {g:R->Option R'}:bindF (loopP (zAL.l4 N) n d k) g=loopP (zAL.l4 N) n d fun e=>bindF (k e) g:=bindF_loopP (fun d kn kx=>by simp only [zAL.l4,bindF_ifB,bindF_bindO,bindF_pure,bindF_none,bindF_onSum]) n d k
theorem zAL.b (N:Nat) (x0:den s24):body (zAL.cfg N) N Tryz.f24 [.one] [.v] [(false,.imm)] [⟨s24,.imm,x0⟩] (fun r i=>some (r,i))=bindO (zAL N x0) fun r=>some ([⟨.bool,.imm,r⟩],[]):=by
 show _=bindF _ _
 conv=>rhs;simp only [zAL,bindF_ifB,bindF_bindO,bindF_pure,bindF_none,bindF_onSum,zAL.q4]
 kernel_rfl
theorem zAL.ok (N:Nat):ConOk Tryz.prog TB 24 [.one] (zAL.con N):=ok1 (g:=zAL.cfg N) (N:=N) (res:=[(false,.imm)]) tys_ok (zAL.cons N) mixed Tryz.func24 (zAL.ls N) rfl (zAL.b N)
theorem zAL.det (N:Nat):ConDet (zAL.con N):=det1
def zAV.con (N:Nat):Con:={ modes:=[.rd,.v],ptrs:=[false],fn:=fn2 s24 .imm (.int .i64) .imm (zAV N) (fun r=>[⟨.bool,.imm,r⟩]) (fun r=>[]) }
def zAV.cfg (N:Nat):Cfg:={ ty:=tys,keep:=[20],flt:=[],elm:=elm0,live:=[],ord:=[],con:=[((61,[.one]),zBO.con N)],loops:=[],joins:=[] }
theorem zAV.cons (N:Nat):ConsOk Tryz.prog TB (zAV.cfg N).con:=(consOk_cons (hb61) (zBO.ok N) (zBO.det N) consOk_nil)
theorem zAV.ls (N:Nat):LoopsOk Tryz.prog TB (zAV.cfg N) (fnBody Tryz.f51):=loopsL (l:=[]) (by kernel_rfl) trivial
theorem zAV.b (N:Nat) (x0:den s24) (x1:den (.int .i64)):body (zAV.cfg N) N Tryz.f51 [.one,.one] [.rd,.v] [(false,.imm)] [⟨s24,.imm,x0⟩,⟨(.int .i64),.imm,x1⟩] (fun r i=>some (r,i))=bindO (zAV N x0 x1) fun r=>some ([⟨.bool,.imm,r⟩],[]):=by
 show _=bindF _ _
 conv=>rhs;simp only [zAV,bindF_ifB,bindF_bindO,bindF_pure,bindF_none,bindF_onSum]
 kernel_rfl
theorem zAV.ok (N:Nat):ConOk Tryz.prog TB 51 [.one,.one] (zAV.con N):=ok2 (g:=zAV.cfg N) (N:=N) (res:=[(false,.imm)]) tys_ok (zAV.cons N) mixed Tryz.func51 (zAV.ls N) rfl (zAV.b N)
theorem zAV.det (N:Nat):ConDet (zAV.con N):=det2
def zAM.sk5:Skel:=⟨dd 1 (.ptr 50 []::(dd 1 (.pv .bool::(dd 16 (.pv (.int .i64)::(.pv (.int .i64)::(dd 26 []))))))),[⟨50,s24,.imm,true,false⟩]⟩
def zAM.xs5:List XS:=[⟨.exit 0,[],⟨dd 48 [],[]⟩⟩,⟨.ret,[2],⟨dd 2 (.pv .bool::(dd 45 [])),[]⟩⟩]
def zAM.con (N:Nat):Con:={ modes:=[.v],ptrs:=[false],fn:=fn1 s24 .imm (zAM N) (fun r=>[⟨.bool,.imm,r⟩]) (fun r=>[]) }
def zAM.cfg (N:Nat):Cfg:={ ty:=tys,keep:=[7,20,35,38],flt:=[],elm:=elm0,live:=[(5,[1,3,20,21])],ord:=[],con:=[((24,[.one]),zAL.con N),((50,[.one]),zBE.con N),((51,[.one,.one]),zAV.con N),((52,[.one]),zB0.con N)],loops:=[(5,loopCon N zAM.sk5 zAM.xs5 (fun {R}=>zAM.l5 (R:=R) N))],joins:=[(17,[⟨.normal,[1,3,20,21],⟨dd 1 (.ptr 50 []::(dd 1 (.pv .bool::(dd 16 (.pv (.int .i64)::(.pv (.int .i64)::(dd 26 []))))))),[⟨50,s24,.imm,true,false⟩]⟩⟩,⟨.ret,[2],⟨dd 2 (.pv .bool::(dd 45 [])),[]⟩⟩])] }
theorem zAM.cons (N:Nat):ConsOk Tryz.prog TB (zAM.cfg N).con:=(consOk_cons (hb24) (zAL.ok N) (zAL.det N) (consOk_cons (hb50) (zBE.ok N) (zBE.det N) (consOk_cons (hb51) (zAV.ok N) (zAV.det N) (consOk_cons (hb52) (zB0.ok N) (zB0.det N) consOk_nil))))
theorem zAM.h5 {R:Type} (N:Nat) (d:zAM.sk5.D) (kn:zAM.sk5.D->Option R) (kx:XD zAM.xs5->Option R):roundK (zAM.cfg N) N (nthLoop (fnBody Tryz.f19) 0) zAM.sk5 zAM.xs5 d kn kx=zAM.l5 N d kn kx:=by kernel_rfl
theorem zAM.i5 (N:Nat):LoopsOk Tryz.prog TB (zAM.cfg N) (nthLoop (fnBody Tryz.f19) 0):=loopsL (l:=[]) (by kernel_rfl) trivial
theorem zAM.o5 (N:Nat):LoopOk Tryz.prog TB (nthLoop (fnBody Tryz.f19) 0) (loopCon N zAM.sk5 zAM.xs5 (fun {R}=>zAM.l5 (R:=R) N)):=loop_ok (g:=zAM.cfg N) tys_ok (zAM.cons N) mixed (zAM.i5 N) (fun d kn kx=>zAM.h5 N d kn kx)
theorem zAM.ls (N:Nat):LoopsOk Tryz.prog TB (zAM.cfg N) (fnBody Tryz.f19):=loopsL (l:=[nthLoop (fnBody Tryz.f19) 0]) (by kernel_rfl) ⟨loopOne (L0:=loopCon N zAM.sk5 zAM.xs5 (fun {R}=>zAM.l5 (R:=R) N)) (id:=5) (by kernel_rfl) (by kernel_rfl) (zAM.o5 N),trivial⟩
theorem zAM.q5 {R R':Type} {N n:Nat} {d} {k} {g:R->Option R'}:bindF (loopP (zAM.l5 N) n d k) g=loopP (zAM.l5 N) n d fun e=>bindF (k e) g:=bindF_loopP (fun d kn kx=>by simp only [zAM.l5,bindF_ifB,bindF_bindO,bindF_pure,bindF_none,bindF_onSum]) n d k
theorem zAM.b (N:Nat) (x0:den s24):body (zAM.cfg N) N Tryz.f19 [.one] [.v] [(false,.imm)] [⟨s24,.imm,x0⟩] (fun r i=>some (r,i))=bindO (zAM N x0) fun r=>some ([⟨.bool,.imm,r⟩],[]):=by
 show _=bindF _ _
 conv=>rhs;simp only [zAM,bindF_ifB,bindF_bindO,bindF_pure,bindF_none,bindF_onSum,zAM.q5]
 kernel_rfl
theorem zAM.ok (N:Nat):ConOk Tryz.prog TB 19 [.one] (zAM.con N):=ok1 (g:=zAM.cfg N) (N:=N) (res:=[(false,.imm)]) tys_ok (zAM.cons N) mixed Tryz.func19 (zAM.ls N) rfl (zAM.b N)
theorem zAM.det (N:Nat):ConDet (zAM.con N):=det1
def zA3.sk4:Skel:=⟨.pv s40::(.pv s40::(dd 10 (.pv (.int .i64)::(.pv (.int .i64)::(dd 12 []))))),[]⟩
def zA3.xs4:List XS:=[⟨.exit 0,[],⟨dd 26 [],[]⟩⟩,⟨.ret,[4],⟨dd 4 (.pv .bool::(dd 21 [])),[]⟩⟩]
def zA3.con (N:Nat):Con:={ modes:=[.v,.v],ptrs:=[false],fn:=fn2 s40 .imm s40 .imm (zA3 N) (fun r=>[⟨.bool,.imm,r⟩]) (fun r=>[]) }
def zA3.cfg (N:Nat):Cfg:={ ty:=tys,keep:=[],flt:=[],elm:=elm0,live:=[(4,[0,1,12,13])],ord:=[(6,[0,1,2,3,4,5,6,7,8])],con:=[],loops:=[(4,loopCon N zA3.sk4 zA3.xs4 (fun {R}=>zA3.l4 (R:=R) N))],joins:=[] }
theorem zA3.cons (N:Nat):ConsOk Tryz.prog TB (zA3.cfg N).con:=consOk_nil
theorem zA3.h4 {R:Type} (N:Nat) (d:zA3.sk4.D) (kn:zA3.sk4.D->Option R) (kx:XD zA3.xs4->Option R):roundK (zA3.cfg N) N (nthLoop (fnBody Tryz.f57) 0) zA3.sk4 zA3.xs4 d kn kx=zA3.l4 N d kn kx:=by kernel_rfl
theorem zA3.i4 (N:Nat):LoopsOk Tryz.prog TB (zA3.cfg N) (nthLoop (fnBody Tryz.f57) 0):=loopsL (l:=[]) (by kernel_rfl) trivial
theorem zA3.o4 (N:Nat):LoopOk Tryz.prog TB (nthLoop (fnBody Tryz.f57) 0) (loopCon N zA3.sk4 zA3.xs4 (fun {R}=>zA3.l4 (R:=R) N)):=loop_ok (g:=zA3.cfg N) tys_ok (zA3.cons N) mixed (zA3.i4 N) (fun d kn kx=>zA3.h4 N d kn kx)
theorem zA3.ls (N:Nat):LoopsOk Tryz.prog TB (zA3.cfg N) (fnBody Tryz.f57):=loopsL (l:=[nthLoop (fnBody Tryz.f57) 0]) (by kernel_rfl) ⟨loopOne (L0:=loopCon N zA3.sk4 zA3.xs4 (fun {R}=>zA3.l4 (R:=R) N)) (id:=4) (by kernel_rfl) (by kernel_rfl) (zA3.o4 N),trivial⟩
theorem zA3.q4 {R R':Type} {N n:Nat} {d} {k} {g:R->Option R'}:bindF (loopP (zA3.l4 N) n d k) g=loopP (zA3.l4 N) n d fun e=>bindF (k e) g:=bindF_loopP (fun d kn kx=>by simp only [zA3.l4,bindF_ifB,bindF_bindO,bindF_pure,bindF_none,bindF_onSum]) n d k
theorem zA3.b (N:Nat) (x0:den s40) (x1:den s40):body (zA3.cfg N) N Tryz.f57 [.one,.one] [.v,.v] [(false,.imm)] [⟨s40,.imm,x0⟩,⟨s40,.imm,x1⟩] (fun r i=>some (r,i))=bindO (zA3 N x0 x1) fun r=>some ([⟨.bool,.imm,r⟩],[]):=by
 show _=bindF _ _
 conv=>rhs;simp only [zA3,bindF_ifB,bindF_bindO,bindF_pure,bindF_none,bindF_onSum,zA3.q4]
 kernel_rfl
theorem zA3.ok (N:Nat):ConOk Tryz.prog TB 57 [.one,.one] (zA3.con N):=ok2 (g:=zA3.cfg N) (N:=N) (res:=[(false,.imm)]) tys_ok (zA3.cons N) mixed Tryz.func57 (zA3.ls N) rfl (zA3.b N)
theorem zA3.det (N:Nat):ConDet (zA3.con N):=det2
end Go.AE.F
end
