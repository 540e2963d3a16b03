/- The printed functions are what the program comes to: contracts. -/
import Derived.Test.YthcbmbakpjelgaaGreatDoorLSendL3
noncomputable section
namespace Go.AE.F
open Go.AE Go.Proofs
set_option maxRecDepth 100000
def zBE.con (N:Nat):Con:={ modes:=[.v],ptrs:=[false],fn:=fn1 s23 .imm (zBE N) (fun r=>[⟨(.int .i64),.imm,r⟩]) (fun r=>[]) }
def zBE.cfg (N:Nat):Cfg:={ ty:=tys,keep:=[],flt:=[],elm:=elm0,live:=[],ord:=[],con:=[],loops:=[],joins:=[] }
theorem zBE.cons (N:Nat):ConsOk Tryz.prog TB (zBE.cfg N).con:=consOk_nil
theorem zBE.ls (N:Nat):LoopsOk Tryz.prog TB (zBE.cfg N) (fnBody Tryz.f41):=loopsL (l:=[]) (by kernel_rfl) trivial
theorem zBE.b (N:Nat) (x0:den s23):body (zBE.cfg N) N Tryz.f41 [.one] [.v] [(false,.imm)] [⟨s23,.imm,x0⟩] (fun r i=>some (r,i))=bindO (zBE N x0) fun r=>some ([⟨(.int .i64),.imm,r⟩],[]):=by
 show _=bindF _ _
 conv=>rhs;simp only [zBE,bindF_ifB,bindF_bindO,bindF_pure,bindF_none,bindF_onSum]
 kernel_rfl
theorem zBE.ok (N:Nat):ConOk Tryz.prog TB 41 [.one] (zBE.con N):=ok1 (g:=zBE.cfg N) (N:=N) (res:=[(false,.imm)]) tys_ok (zBE.cons N) mixed Tryz.func41 (zBE.ls N) rfl (zBE.b N)
theorem zBE.det (N:Nat):ConDet (zBE.con N):=det1
def zCE.con (N:Nat):Con:={ modes:=[.v],ptrs:=[false],fn:=fn1 (.int .i64) .imm (zCE N) (fun r=>[⟨.bool,.imm,r⟩]) (fun r=>[]) }
def zCE.cfg (N:Nat):Cfg:={ ty:=tys,keep:=[4,7],flt:=[],elm:=elm0,live:=[],ord:=[],con:=[((58,[.one,.one,.one]),zBA.con N)],loops:=[],joins:=[] }
theorem zCE.cons (N:Nat):ConsOk Tryz.prog TB (zCE.cfg N).con:=(consOk_cons (hb58) (zBA.ok N) (zBA.det N) consOk_nil)
theorem zCE.ls (N:Nat):LoopsOk Tryz.prog TB (zCE.cfg N) (fnBody Tryz.f82):=loopsL (l:=[]) (by kernel_rfl) trivial
theorem zCE.b (N:Nat) (x0:den (.int .i64)):body (zCE.cfg N) N Tryz.f82 [.one] [.v] [(false,.imm)] [⟨(.int .i64),.imm,x0⟩] (fun r i=>some (r,i))=bindO (zCE N x0) fun r=>some ([⟨.bool,.imm,r⟩],[]):=by
 show _=bindF _ _
 conv=>rhs;simp only [zCE,bindF_ifB,bindF_bindO,bindF_pure,bindF_none,bindF_onSum]
 kernel_rfl
theorem zCE.ok (N:Nat):ConOk Tryz.prog TB 82 [.one] (zCE.con N):=ok1 (g:=zCE.cfg N) (N:=N) (res:=[(false,.imm)]) tys_ok (zCE.cons N) mixed Tryz.func82 (zCE.ls N) rfl (zCE.b N)
theorem zCE.det (N:Nat):ConDet (zCE.con N):=det1
def zBT.con (N:Nat):Con:={ modes:=[.v],ptrs:=[false],fn:=fn1 (.int .i64) .imm (zBT N) (fun r=>[⟨.bool,.imm,r⟩]) (fun r=>[]) }
def zBT.cfg (N:Nat):Cfg:={ ty:=tys,keep:=[],flt:=[],elm:=elm0,live:=[],ord:=[],con:=[],loops:=[],joins:=[] }
theorem zBT.cons (N:Nat):ConsOk Tryz.prog TB (zBT.cfg N).con:=consOk_nil
theorem zBT.ls (N:Nat):LoopsOk Tryz.prog TB (zBT.cfg N) (fnBody Tryz.f32):=loopsL (l:=[]) (by kernel_rfl) trivial
theorem zBT.b (N:Nat) (x0:den (.int .i64)):body (zBT.cfg N) N Tryz.f32 [.one] [.v] [(false,.imm)] [⟨(.int .i64),.imm,x0⟩] (fun r i=>some (r,i))=bindO (zBT N x0) fun r=>some ([⟨.bool,.imm,r⟩],[]):=by
 show _=bindF _ _
 conv=>rhs;simp only [zBT,bindF_ifB,bindF_bindO,bindF_pure,bindF_none,bindF_onSum]
 kernel_rfl
theorem zBT.ok (N:Nat):ConOk Tryz.prog TB 32 [.one] (zBT.con N):=ok1 (g:=zBT.cfg N) (N:=N) (res:=[(false,.imm)]) tys_ok (zBT.cons N) mixed Tryz.func32 (zBT.ls N) rfl (zBT.b N)
theorem zBT.det (N:Nat):ConDet (zBT.con N):=det1
def zAW.sk6:Skel:=⟨.pv (.int .i64)::(dd 19 (.ov 50 []::(.pv (.int .i64)::(.pv (.int .i64)::(dd 10 []))))),[⟨50,s114,(.own .imm),false,false⟩]⟩
def zAW.xs6:List XS:=[⟨.exit 0,[],⟨dd 33 [],[]⟩⟩,⟨.ret,[2],⟨dd 2 (.pv (.int .i64)::(dd 30 [])),[]⟩⟩]
def zAW.con (N:Nat):Con:={ modes:=[.v],ptrs:=[false],fn:=fn1 (.int .i64) .imm (zAW N) (fun r=>[⟨(.int .i64),.imm,r⟩]) (fun r=>[]) }
def zAW.cfg (N:Nat):Cfg:={ ty:=tys,keep:=[6,10,13,31],flt:=[],elm:=elm0,live:=[(6,[0,20,21,22])],ord:=[],con:=[((82,[.one]),zCE.con N),((58,[.one,.one,.one]),zBA.con N),((32,[.one]),zBT.con N)],loops:=[(6,loopCon N zAW.sk6 zAW.xs6 (fun {R}=>zAW.l6 (R:=R) N))],joins:=[] }
theorem zAW.cons (N:Nat):ConsOk Tryz.prog TB (zAW.cfg N).con:=(consOk_cons (hb82) (zCE.ok N) (zCE.det N) (consOk_cons (hb58) (zBA.ok N) (zBA.det N) (consOk_cons (hb32) (zBT.ok N) (zBT.det N) consOk_nil)))
theorem zAW.h6 {R:Type} (N:Nat) (d:zAW.sk6.D) (kn:zAW.sk6.D->Option R) (kx:XD zAW.xs6->Option R):roundK (zAW.cfg N) N (nthLoop (fnBody Tryz.f64) 0) zAW.sk6 zAW.xs6 d kn kx=zAW.l6 N d kn kx:=by kernel_rfl
theorem zAW.i6 (N:Nat):LoopsOk Tryz.prog TB (zAW.cfg N) (nthLoop (fnBody Tryz.f64) 0):=loopsL (l:=[]) (by kernel_rfl) trivial
theorem zAW.o6 (N:Nat):LoopOk Tryz.prog TB (nthLoop (fnBody Tryz.f64) 0) (loopCon N zAW.sk6 zAW.xs6 (fun {R}=>zAW.l6 (R:=R) N)):=loop_ok (g:=zAW.cfg N) tys_ok (zAW.cons N) mixed (zAW.i6 N) (fun d kn kx=>zAW.h6 N d kn kx)
theorem zAW.ls (N:Nat):LoopsOk Tryz.prog TB (zAW.cfg N) (fnBody Tryz.f64):=loopsL (l:=[nthLoop (fnBody Tryz.f64) 0]) (by kernel_rfl) ⟨loopOne (L0:=loopCon N zAW.sk6 zAW.xs6 (fun {R}=>zAW.l6 (R:=R) N)) (id:=6) (by kernel_rfl) (by kernel_rfl) (zAW.o6 N),trivial⟩
theorem zAW.q6 {R R':Type} {N n:Nat} {d} {k} {g:R->Option R'}:bindF (loopP (zAW.l6 N) n d k) g=loopP (zAW.l6 N) n d fun e=>bindF (k e) g:=bindF_loopP (fun d kn kx=>by simp only [zAW.l6,bindF_ifB,bindF_bindO,bindF_pure,bindF_none,bindF_onSum]) n d k
theorem zAW.b (N:Nat) (x0:den (.int .i64)):body (zAW.cfg N) N Tryz.f64 [.one] [.v] [(false,.imm)] [⟨(.int .i64),.imm,x0⟩] (fun r i=>some (r,i))=bindO (zAW N x0) fun r=>some ([⟨(.int .i64),.imm,r⟩],[]):=by
 show _=bindF _ _
 conv=>rhs;simp only [zAW,bindF_ifB,bindF_bindO,bindF_pure,bindF_none,bindF_onSum,zAW.q6]
 kernel_rfl
theorem zAW.ok (N:Nat):ConOk Tryz.prog TB 64 [.one] (zAW.con N):=ok1 (g:=zAW.cfg N) (N:=N) (res:=[(false,.imm)]) tys_ok (zAW.cons N) mixed Tryz.func64 (zAW.ls N) rfl (zAW.b N)
theorem zAW.det (N:Nat):ConDet (zAW.con N):=det1
def zAR.sk2:Skel:=⟨dd 1 (.ptr 50 []::(dd 4 (.pv s49::(.pv (.int .i64)::(.pv (.int .i64)::(dd 29 [])))))),[⟨50,s50,.imm,true,false⟩]⟩
def zAR.xs2:List XS:=[⟨.exit 0,[1],⟨dd 1 (.ptr 50 []::(dd 36 [])),[⟨50,s50,.imm,true,false⟩]⟩⟩,⟨.ret,[2],⟨dd 2 (.pv .bool::(dd 35 [])),[]⟩⟩]
def zAR.con (N:Nat):Con:={ modes:=[.v],ptrs:=[false],fn:=fn1 s50 .imm (zAR N) (fun r=>[⟨.bool,.imm,r⟩]) (fun r=>[]) }
def zAR.cfg (N:Nat):Cfg:={ ty:=tys,keep:=[14,18,24,36],flt:=[],elm:=elm0,live:=[(2,[1,6,7,8])],ord:=[],con:=[((82,[.one]),zCE.con N),((32,[.one]),zBT.con N),((64,[.one]),zAW.con N),((58,[.one,.one,.one]),zBA.con N)],loops:=[(2,loopCon N zAR.sk2 zAR.xs2 (fun {R}=>zAR.l2 (R:=R) N))],joins:=[] }
theorem zAR.cons (N:Nat):ConsOk Tryz.prog TB (zAR.cfg N).con:=(consOk_cons (hb82) (zCE.ok N) (zCE.det N) (consOk_cons (hb32) (zBT.ok N) (zBT.det N) (consOk_cons (hb64) (zAW.ok N) (zAW.det N) (consOk_cons (hb58) (zBA.ok N) (zBA.det N) consOk_nil))))
theorem zAR.h2 {R:Type} (N:Nat) (d:zAR.sk2.D) (kn:zAR.sk2.D->Option R) (kx:XD zAR.xs2->Option R):roundK (zAR.cfg N) N (nthLoop (fnBody Tryz.f59) 0) zAR.sk2 zAR.xs2 d kn kx=zAR.l2 N d kn kx:=by kernel_rfl
theorem zAR.i2 (N:Nat):LoopsOk Tryz.prog TB (zAR.cfg N) (nthLoop (fnBody Tryz.f59) 0):=loopsL (l:=[]) (by kernel_rfl) trivial
theorem zAR.o2 (N:Nat):LoopOk Tryz.prog TB (nthLoop (fnBody Tryz.f59) 0) (loopCon N zAR.sk2 zAR.xs2 (fun {R}=>zAR.l2 (R:=R) N)):=loop_ok (g:=zAR.cfg N) tys_ok (zAR.cons N) mixed (zAR.i2 N) (fun d kn kx=>zAR.h2 N d kn kx)
theorem zAR.ls (N:Nat):LoopsOk Tryz.prog TB (zAR.cfg N) (fnBody Tryz.f59):=loopsL (l:=[nthLoop (fnBody Tryz.f59) 0]) (by kernel_rfl) ⟨loopOne (L0:=loopCon N zAR.sk2 zAR.xs2 (fun {R}=>zAR.l2 (R:=R) N)) (id:=2) (by kernel_rfl) (by kernel_rfl) (zAR.o2 N),trivial⟩
theorem zAR.q2 {R R':Type} {N n:Nat} {d} {k} {g:R->Option R'}:bindF (loopP (zAR.l2 N) n d k) g=loopP (zAR.l2 N) n d fun e=>bindF (k e) g:=bindF_loopP (fun d kn kx=>by simp only [zAR.l2,bindF_ifB,bindF_bindO,bindF_pure,bindF_none,bindF_onSum]) n d k
theorem zAR.b (N:Nat) (x0:den s50):body (zAR.cfg N) N Tryz.f59 [.one] [.v] [(false,.imm)] [⟨s50,.imm,x0⟩] (fun r i=>some (r,i))=bindO (zAR N x0) fun r=>some ([⟨.bool,.imm,r⟩],[]):=by
 show _=bindF _ _
 conv=>rhs;simp only [zAR,bindF_ifB,bindF_bindO,bindF_pure,bindF_none,bindF_onSum,zAR.q2]
 kernel_rfl
theorem zAR.ok (N:Nat):ConOk Tryz.prog TB 59 [.one] (zAR.con N):=ok1 (g:=zAR.cfg N) (N:=N) (res:=[(false,.imm)]) tys_ok (zAR.cons N) mixed Tryz.func59 (zAR.ls N) rfl (zAR.b N)
theorem zAR.det (N:Nat):ConDet (zAR.con N):=det1
def zBP.con (N:Nat):Con:={ modes:=[.rd],ptrs:=[false],fn:=fn1 s50 .imm (zBP N) (fun r=>[⟨.bool,.imm,r⟩]) (fun r=>[]) }
def zBP.cfg (N:Nat):Cfg:={ ty:=tys,keep:=[16],flt:=[],elm:=elm0,live:=[],ord:=[],con:=[((64,[.one]),zAW.con N)],loops:=[],joins:=[] }
theorem zBP.cons (N:Nat):ConsOk Tryz.prog TB (zBP.cfg N).con:=(consOk_cons (hb64) (zAW.ok N) (zAW.det N) consOk_nil)
theorem zBP.ls (N:Nat):LoopsOk Tryz.prog TB (zBP.cfg N) (fnBody Tryz.f60):=loopsL (l:=[]) (by kernel_rfl) trivial
theorem zBP.b (N:Nat) (x0:den s50):body (zBP.cfg N) N Tryz.f60 [.one] [.rd] [(false,.imm)] [⟨s50,.imm,x0⟩] (fun r i=>some (r,i))=bindO (zBP N x0) fun r=>some ([⟨.bool,.imm,r⟩],[]):=by
 show _=bindF _ _
 conv=>rhs;simp only [zBP,bindF_ifB,bindF_bindO,bindF_pure,bindF_none,bindF_onSum]
 kernel_rfl
theorem zBP.ok (N:Nat):ConOk Tryz.prog TB 60 [.one] (zBP.con N):=ok1 (g:=zBP.cfg N) (N:=N) (res:=[(false,.imm)]) tys_ok (zBP.cons N) mixed Tryz.func60 (zBP.ls N) rfl (zBP.b N)
theorem zBP.det (N:Nat):ConDet (zBP.con N):=det1
def zB0.con (N:Nat):Con:={ modes:=[.rd],ptrs:=[false],fn:=fn1 s50 .imm (zB0 N) (fun r=>[⟨.bool,.imm,r⟩]) (fun r=>[]) }
def zB0.cfg (N:Nat):Cfg:={ ty:=tys,keep:=[],flt:=[],elm:=elm0,live:=[],ord:=[],con:=[],loops:=[],joins:=[] }
theorem zB0.cons (N:Nat):ConsOk Tryz.prog TB (zB0.cfg N).con:=consOk_nil
theorem zB0.ls (N:Nat):LoopsOk Tryz.prog TB (zB0.cfg N) (fnBody Tryz.f43):=loopsL (l:=[]) (by kernel_rfl) trivial
theorem zB0.b (N:Nat) (x0:den s50):body (zB0.cfg N) N Tryz.f43 [.one] [.rd] [(false,.imm)] [⟨s50,.imm,x0⟩] (fun r i=>some (r,i))=bindO (zB0 N x0) fun r=>some ([⟨.bool,.imm,r⟩],[]):=by
 show _=bindF _ _
 conv=>rhs;simp only [zB0,bindF_ifB,bindF_bindO,bindF_pure,bindF_none,bindF_onSum]
 kernel_rfl
theorem zB0.ok (N:Nat):ConOk Tryz.prog TB 43 [.one] (zB0.con N):=ok1 (g:=zB0.cfg N) (N:=N) (res:=[(false,.imm)]) tys_ok (zB0.cons N) mixed Tryz.func43 (zB0.ls N) rfl (zB0.b N)
theorem zB0.det (N:Nat):ConDet (zB0.con N):=det1
def zAL.sk4:Skel:=⟨dd 1 (.ptr 50 []::(dd 61 (.pv s23::(.pv (.int .i64)::(.pv (.int .i64)::(dd 37 [])))))),[⟨50,s24,.imm,true,false⟩]⟩
def zAL.xs4:List XS:=[⟨.exit 0,[],⟨dd 103 [],[]⟩⟩,⟨.ret,[2],⟨dd 2 (.pv .bool::(dd 100 [])),[]⟩⟩]
def zAL.con (N:Nat):Con:={ modes:=[.v],ptrs:=[false],fn:=fn1 s24 .imm (zAL N) (fun r=>[⟨.bool,.imm,r⟩]) (fun r=>[]) }
def zAL.cfg (N:Nat):Cfg:={ ty:=tys,keep:=[7,12,18,32,41,59,71,73,87],flt:=[],elm:=elm0,live:=[(4,[1,63,64,65])],ord:=[(1,[0,1,2,3,4,5,6,7,8,9,10,11,12,14,15,16,17,18,13,19,20,21,22,23,24,25,26,27,28,29,30,31,32,33,34,35,36,37,38,39,40,41,42,43,44,45,46,47,48,49,50,51,52,53,54,55,56]),(9,[0,1,2,3,4,5,6,7,8,9,10,11,12,13,14,15,16,17,18,19,20,21,22,23,24,25,26])],con:=[((56,[.one]),zCM.con N),((57,[.one]),zCN.con N),((41,[.one]),zBE.con N),((58,[.one,.one,.one]),zBA.con N),((59,[.one]),zAR.con N),((60,[.one]),zBP.con N),((43,[.one]),zB0.con N)],loops:=[(4,loopCon N zAL.sk4 zAL.xs4 (fun {R}=>zAL.l4 (R:=R) N))],joins:=[(11,[⟨.normal,[1,63,64,65],⟨dd 1 (.ptr 50 []::(dd 61 (.pv s23::(.pv (.int .i64)::(.pv (.int .i64)::(dd 37 [])))))),[⟨50,s24,.imm,true,false⟩]⟩⟩,⟨.ret,[2],⟨dd 2 (.pv .bool::(dd 100 [])),[]⟩⟩])] }
theorem zAL.cons (N:Nat):ConsOk Tryz.prog TB (zAL.cfg N).con:=(consOk_cons (hb56) (zCM.ok N) (zCM.det N) (consOk_cons (hb57) (zCN.ok N) (zCN.det N) (consOk_cons (hb41) (zBE.ok N) (zBE.det N) (consOk_cons (hb58) (zBA.ok N) (zBA.det N) (consOk_cons (hb59) (zAR.ok N) (zAR.det N) (consOk_cons (hb60) (zBP.ok N) (zBP.det N) (consOk_cons (hb43) (zB0.ok N) (zB0.det N) consOk_nil)))))))
theorem zAL.h4 {R:Type} (N:Nat) (d:zAL.sk4.D) (kn:zAL.sk4.D->Option R) (kx:XD zAL.xs4->Option R):roundK (zAL.cfg N) N (nthLoop (fnBody Tryz.f27) 0) zAL.sk4 zAL.xs4 d kn kx=zAL.l4 N d kn kx:=by kernel_rfl
theorem zAL.i4 (N:Nat):LoopsOk Tryz.prog TB (zAL.cfg N) (nthLoop (fnBody Tryz.f27) 0):=loopsL (l:=[]) (by kernel_rfl) trivial
theorem zAL.o4 (N:Nat):LoopOk Tryz.prog TB (nthLoop (fnBody Tryz.f27) 0) (loopCon N zAL.sk4 zAL.xs4 (fun {R}=>zAL.l4 (R:=R) N)):=loop_ok (g:=zAL.cfg N) tys_ok (zAL.cons N) mixed (zAL.i4 N) (fun d kn kx=>zAL.h4 N d kn kx)
theorem zAL.ls (N:Nat):LoopsOk Tryz.prog TB (zAL.cfg N) (fnBody Tryz.f27):=loopsL (l:=[nthLoop (fnBody Tryz.f27) 0]) (by kernel_rfl) ⟨loopOne (L0:=loopCon N zAL.sk4 zAL.xs4 (fun {R}=>zAL.l4 (R:=R) N)) (id:=4) (by kernel_rfl) (by kernel_rfl) (zAL.o4 N),trivial⟩
theorem zAL.q4 {R R':Type} {N n:Nat} {d} {k} {g:R->Option R'}:bindF (loopP (zAL.l4 N) n d k) g=loopP (zAL.l4 N) n d fun e=>bindF (k e) g:=bindF_loopP (fun d kn kx=>by simp only [zAL.l4,bindF_ifB,bindF_bindO,bindF_pure,bindF_none,bindF_onSum]) n d k
theorem zAL.b (N:Nat) (x0:den s24):body (zAL.cfg N) N Tryz.f27 [.one] [.v] [(false,.imm)] [⟨s24,.imm,x0⟩] (fun r i=>some (r,i))=bindO (zAL N x0) fun r=>some ([⟨.bool,.imm,r⟩],[]):=by
 show _=bindF _ _
 conv=>rhs;simp only [zAL,bindF_ifB,bindF_bindO,bindF_pure,bindF_none,bindF_onSum,zAL.q4]
 kernel_rfl
theorem zAL.ok (N:Nat):ConOk Tryz.prog TB 27 [.one] (zAL.con N):=ok1 (g:=zAL.cfg N) (N:=N) (res:=[(false,.imm)]) tys_ok (zAL.cons N) mixed Tryz.func27 (zAL.ls N) rfl (zAL.b N)
theorem zAL.det (N:Nat):ConDet (zAL.con N):=det1
def zAV.con (N:Nat):Con:={ modes:=[.rd,.v],ptrs:=[false],fn:=fn2 s24 .imm (.int .i64) .imm (zAV N) (fun r=>[⟨.bool,.imm,r⟩]) (fun r=>[]) }
def zAV.cfg (N:Nat):Cfg:={ ty:=tys,keep:=[20],flt:=[],elm:=elm0,live:=[],ord:=[],con:=[((60,[.one]),zBP.con N)],loops:=[],joins:=[] }
theorem zAV.cons (N:Nat):ConsOk Tryz.prog TB (zAV.cfg N).con:=(consOk_cons (hb60) (zBP.ok N) (zBP.det N) consOk_nil)
theorem zAV.ls (N:Nat):LoopsOk Tryz.prog TB (zAV.cfg N) (fnBody Tryz.f42):=loopsL (l:=[]) (by kernel_rfl) trivial
theorem zAV.b (N:Nat) (x0:den s24) (x1:den (.int .i64)):body (zAV.cfg N) N Tryz.f42 [.one,.one] [.rd,.v] [(false,.imm)] [⟨s24,.imm,x0⟩,⟨(.int .i64),.imm,x1⟩] (fun r i=>some (r,i))=bindO (zAV N x0 x1) fun r=>some ([⟨.bool,.imm,r⟩],[]):=by
 show _=bindF _ _
 conv=>rhs;simp only [zAV,bindF_ifB,bindF_bindO,bindF_pure,bindF_none,bindF_onSum]
 kernel_rfl
theorem zAV.ok (N:Nat):ConOk Tryz.prog TB 42 [.one,.one] (zAV.con N):=ok2 (g:=zAV.cfg N) (N:=N) (res:=[(false,.imm)]) tys_ok (zAV.cons N) mixed Tryz.func42 (zAV.ls N) rfl (zAV.b N)
theorem zAV.det (N:Nat):ConDet (zAV.con N):=det2
def zAO.sk5:Skel:=⟨dd 1 (.ptr 50 []::(dd 1 (.pv .bool::(dd 16 (.pv (.int .i64)::(.pv (.int .i64)::(dd 26 []))))))),[⟨50,s24,.imm,true,false⟩]⟩
def zAO.xs5:List XS:=[⟨.exit 0,[],⟨dd 48 [],[]⟩⟩,⟨.ret,[2],⟨dd 2 (.pv .bool::(dd 45 [])),[]⟩⟩]
def zAO.con (N:Nat):Con:={ modes:=[.v],ptrs:=[false],fn:=fn1 s24 .imm (zAO N) (fun r=>[⟨.bool,.imm,r⟩]) (fun r=>[]) }
def zAO.cfg (N:Nat):Cfg:={ ty:=tys,keep:=[7,20,35,38],flt:=[],elm:=elm0,live:=[(5,[1,3,20,21])],ord:=[],con:=[((27,[.one]),zAL.con N),((41,[.one]),zBE.con N),((42,[.one,.one]),zAV.con N),((43,[.one]),zB0.con N)],loops:=[(5,loopCon N zAO.sk5 zAO.xs5 (fun {R}=>zAO.l5 (R:=R) N))],joins:=[(17,[⟨.normal,[1,3,20,21],⟨dd 1 (.ptr 50 []::(dd 1 (.pv .bool::(dd 16 (.pv (.int .i64)::(.pv (.int .i64)::(dd 26 []))))))),[⟨50,s24,.imm,true,false⟩]⟩⟩,⟨.ret,[2],⟨dd 2 (.pv .bool::(dd 45 [])),[]⟩⟩])] }
theorem zAO.cons (N:Nat):ConsOk Tryz.prog TB (zAO.cfg N).con:=(consOk_cons (hb27) (zAL.ok N) (zAL.det N) (consOk_cons (hb41) (zBE.ok N) (zBE.det N) (consOk_cons (hb42) (zAV.ok N) (zAV.det N) (consOk_cons (hb43) (zB0.ok N) (zB0.det N) consOk_nil))))
theorem zAO.h5 {R:Type} (N:Nat) (d:zAO.sk5.D) (kn:zAO.sk5.D->Option R) (kx:XD zAO.xs5->Option R):roundK (zAO.cfg N) N (nthLoop (fnBody Tryz.f14) 0) zAO.sk5 zAO.xs5 d kn kx=zAO.l5 N d kn kx:=by kernel_rfl
theorem zAO.i5 (N:Nat):LoopsOk Tryz.prog TB (zAO.cfg N) (nthLoop (fnBody Tryz.f14) 0):=loopsL (l:=[]) (by kernel_rfl) trivial
theorem zAO.o5 (N:Nat):LoopOk Tryz.prog TB (nthLoop (fnBody Tryz.f14) 0) (loopCon N zAO.sk5 zAO.xs5 (fun {R}=>zAO.l5 (R:=R) N)):=loop_ok (g:=zAO.cfg N) tys_ok (zAO.cons N) mixed (zAO.i5 N) (fun d kn kx=>zAO.h5 N d kn kx)
theorem zAO.ls (N:Nat):LoopsOk Tryz.prog TB (zAO.cfg N) (fnBody Tryz.f14):=loopsL (l:=[nthLoop (fnBody Tryz.f14) 0]) (by kernel_rfl) ⟨loopOne (L0:=loopCon N zAO.sk5 zAO.xs5 (fun {R}=>zAO.l5 (R:=R) N)) (id:=5) (by kernel_rfl) (by kernel_rfl) (zAO.o5 N),trivial⟩
theorem zAO.q5 {R R':Type} {N n:Nat} {d} {k} {g:R->Option R'}:bindF (loopP (zAO.l5 N) n d k) g=loopP (zAO.l5 N) n d fun e=>bindF (k e) g:=bindF_loopP (fun d kn kx=>by simp only [zAO.l5,bindF_ifB,bindF_bindO,bindF_pure,bindF_none,bindF_onSum]) n d k
theorem zAO.b (N:Nat) (x0:den s24):body (zAO.cfg N) N Tryz.f14 [.one] [.v] [(false,.imm)] [⟨s24,.imm,x0⟩] (fun r i=>some (r,i))=bindO (zAO N x0) fun r=>some ([⟨.bool,.imm,r⟩],[]):=by
 show _=bindF _ _
 conv=>rhs;simp only [zAO,bindF_ifB,bindF_bindO,bindF_pure,bindF_none,bindF_onSum,zAO.q5]
 kernel_rfl
theorem zAO.ok (N:Nat):ConOk Tryz.prog TB 14 [.one] (zAO.con N):=ok1 (g:=zAO.cfg N) (N:=N) (res:=[(false,.imm)]) tys_ok (zAO.cons N) mixed Tryz.func14 (zAO.ls N) rfl (zAO.b N)
theorem zAO.det (N:Nat):ConDet (zAO.con N):=det1
def zA3.sk4:Skel:=⟨.pv s49::(.pv s49::(dd 10 (.pv (.int .i64)::(.pv (.int .i64)::(dd 12 []))))),[]⟩
def zA3.xs4:List XS:=[⟨.exit 0,[],⟨dd 26 [],[]⟩⟩,⟨.ret,[4],⟨dd 4 (.pv .bool::(dd 21 [])),[]⟩⟩]
def zA3.con (N:Nat):Con:={ modes:=[.v,.v],ptrs:=[false],fn:=fn2 s49 .imm s49 .imm (zA3 N) (fun r=>[⟨.bool,.imm,r⟩]) (fun r=>[]) }
def zA3.cfg (N:Nat):Cfg:={ ty:=tys,keep:=[],flt:=[],elm:=elm0,live:=[(4,[0,1,12,13])],ord:=[(6,[0,1,2,3,4,5,6,7,8])],con:=[],loops:=[(4,loopCon N zA3.sk4 zA3.xs4 (fun {R}=>zA3.l4 (R:=R) N))],joins:=[] }
theorem zA3.cons (N:Nat):ConsOk Tryz.prog TB (zA3.cfg N).con:=consOk_nil
theorem zA3.h4 {R:Type} (N:Nat) (d:zA3.sk4.D) (kn:zA3.sk4.D->Option R) (kx:XD zA3.xs4->Option R):roundK (zA3.cfg N) N (nthLoop (fnBody Tryz.f46) 0) zA3.sk4 zA3.xs4 d kn kx=zA3.l4 N d kn kx:=by kernel_rfl
theorem zA3.i4 (N:Nat):LoopsOk Tryz.prog TB (zA3.cfg N) (nthLoop (fnBody Tryz.f46) 0):=loopsL (l:=[]) (by kernel_rfl) trivial
theorem zA3.o4 (N:Nat):LoopOk Tryz.prog TB (nthLoop (fnBody Tryz.f46) 0) (loopCon N zA3.sk4 zA3.xs4 (fun {R}=>zA3.l4 (R:=R) N)):=loop_ok (g:=zA3.cfg N) tys_ok (zA3.cons N) mixed (zA3.i4 N) (fun d kn kx=>zA3.h4 N d kn kx)
theorem zA3.ls (N:Nat):LoopsOk Tryz.prog TB (zA3.cfg N) (fnBody Tryz.f46):=loopsL (l:=[nthLoop (fnBody Tryz.f46) 0]) (by kernel_rfl) ⟨loopOne (L0:=loopCon N zA3.sk4 zA3.xs4 (fun {R}=>zA3.l4 (R:=R) N)) (id:=4) (by kernel_rfl) (by kernel_rfl) (zA3.o4 N),trivial⟩
theorem zA3.q4 {R R':Type} {N n:Nat} {d} {k} {g:R->Option R'}:bindF (loopP (zA3.l4 N) n d k) g=loopP (zA3.l4 N) n d fun e=>bindF (k e) g:=bindF_loopP (fun d kn kx=>by simp only [zA3.l4,bindF_ifB,bindF_bindO,bindF_pure,bindF_none,bindF_onSum]) n d k
theorem zA3.b (N:Nat) (x0:den s49) (x1:den s49):body (zA3.cfg N) N Tryz.f46 [.one,.one] [.v,.v] [(false,.imm)] [⟨s49,.imm,x0⟩,⟨s49,.imm,x1⟩] (fun r i=>some (r,i))=bindO (zA3 N x0 x1) fun r=>some ([⟨.bool,.imm,r⟩],[]):=by
 show _=bindF _ _
 conv=>rhs;simp only [zA3,bindF_ifB,bindF_bindO,bindF_pure,bindF_none,bindF_onSum,zA3.q4]
 kernel_rfl
theorem zA3.ok (N:Nat):ConOk Tryz.prog TB 46 [.one,.one] (zA3.con N):=ok2 (g:=zA3.cfg N) (N:=N) (res:=[(false,.imm)]) tys_ok (zA3.cons N) mixed Tryz.func46 (zA3.ls N) rfl (zA3.b N)
theorem zA3.det (N:Nat):ConDet (zA3.con N):=det2
def zBY.con (N:Nat):Con:={ modes:=[.v,.v],ptrs:=[false],fn:=fn2 s50 .imm s50 .imm (zBY N) (fun r=>[⟨.bool,.imm,r⟩]) (fun r=>[]) }
def zBY.cfg (N:Nat):Cfg:={ ty:=tys,keep:=[15],flt:=[],elm:=elm0,live:=[],ord:=[],con:=[((46,[.one,.one]),zA3.con N)],loops:=[],joins:=[] }
theorem zBY.cons (N:Nat):ConsOk Tryz.prog TB (zBY.cfg N).con:=(consOk_cons (hb46) (zA3.ok N) (zA3.det N) consOk_nil)
theorem zBY.ls (N:Nat):LoopsOk Tryz.prog TB (zBY.cfg N) (fnBody Tryz.f45):=loopsL (l:=[]) (by kernel_rfl) trivial
theorem zBY.b (N:Nat) (x0:den s50) (x1:den s50):body (zBY.cfg N) N Tryz.f45 [.one,.one] [.v,.v] [(false,.imm)] [⟨s50,.imm,x0⟩,⟨s50,.imm,x1⟩] (fun r i=>some (r,i))=bindO (zBY N x0 x1) fun r=>some ([⟨.bool,.imm,r⟩],[]):=by
 show _=bindF _ _
 conv=>rhs;simp only [zBY,bindF_ifB,bindF_bindO,bindF_pure,bindF_none,bindF_onSum]
 kernel_rfl
theorem zBY.ok (N:Nat):ConOk Tryz.prog TB 45 [.one,.one] (zBY.con N):=ok2 (g:=zBY.cfg N) (N:=N) (res:=[(false,.imm)]) tys_ok (zBY.cons N) mixed Tryz.func45 (zBY.ls N) rfl (zBY.b N)
theorem zBY.det (N:Nat):ConDet (zBY.con N):=det2
end Go.AE.F
end
