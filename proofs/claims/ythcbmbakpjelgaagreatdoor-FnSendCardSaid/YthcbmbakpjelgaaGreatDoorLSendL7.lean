/- The printed functions are what the program comes to: contracts. -/
import Derived.Test.YthcbmbakpjelgaaGreatDoorLSendL6
noncomputable section
namespace Go.AE.F
open Go.AE Go.Proofs Go.Lib
set_option maxRecDepth 100000
def zAA.con (N:Nat):Con:={ modes:=[.v],ptrs:=[false],fn:=fun ds k=>match ds with | [d0]=>castDm s49 .imm d0 fun x0=>bindO (zAA N x0) fun r=>k [⟨s49,(.own .imm),r⟩] [] | _=>none }
def zAA.cfg (N:Nat):Cfg:={ ty:=tys,keep:=[],flt:=[],elm:=elm0,live:=[],ord:=[],con:=[],loops:=[],joins:=[] }
theorem zAA.cons (N:Nat):ConsOk Tryz.prog TB (zAA.cfg N).con:=consOk_nil
theorem zAA.ls (N:Nat):LoopsOk Tryz.prog TB (zAA.cfg N) (fnBody Tryz.f61):=loopsL (l:=[]) (by kernel_rfl) trivial
theorem zAA.pu {R:Type} (N:Nat) (x0:den s49) (f:_->Option R):Psh (zAA N x0) (zAA.g N x0 f) f:=by
 unfold zAA zAA.g
 repeat' (first | exact psh_pure | exact psh_none | refine psh_ifB ?_ ?_ | refine psh_same ?_ ?_ | refine psh_bindO fun _=>?_)
theorem zAA.b (N:Nat) (x0:den s49):body (zAA.cfg N) N Tryz.f61 [.one] [.v] [(false,(.own .imm))] [⟨s49,.imm,x0⟩] (fun r i=>some (r,i))=zAA.g N x0 fun r=>some ([⟨s49,(.own .imm),r⟩],[]):=by kernel_rfl
theorem zAA.ok (N:Nat):ConOk Tryz.prog TB 61 [.one] (zAA.con N):=by
 refine conOk_mk (g:=zAA.cfg N) (N:=N) (res:=[(false,(.own .imm))]) tys_ok (zAA.cons N) mixed Tryz.func61 (zAA.ls N) rfl rfl rfl ?_
 intro ds R k y h
 cases ds with
 | nil=>exact none_some h
 | cons d0 ds =>
 cases ds with
 | cons _ _=>exact none_some h
 | nil =>
 have h0:(castDm s49 .imm d0 fun x0=>bindO (zAA N x0) fun r=>k [⟨s49,(.own .imm),r⟩] [])=some y:=h
 clear h
 obtain ⟨x0,rfl,h1⟩:=castDm_eq h0
 exact con_fin' (zAA.b N x0) (zAA.pu N x0 _) h1
theorem zAA.det (N:Nat):ConDet (zAA.con N):=by
 intro ds R k y h
 cases ds with
 | nil=>exact none_some h
 | cons d0 ds =>
 cases ds with
 | cons _ _=>exact none_some h
 | nil =>
 have h0:(castDm s49 .imm d0 fun x0=>bindO (zAA N x0) fun r=>k [⟨s49,(.own .imm),r⟩] [])=some y:=h
 clear h
 obtain ⟨x0,rfl,h1⟩:=castDm_eq h0
 obtain ⟨r,e,h⟩:=bindO_some h1
 refine ⟨_,_,h,fun k'=>?_⟩
 show (castDm s49 .imm (⟨s49,.imm,x0⟩:Dy) fun x0=>bindO (zAA N x0) fun r=>k' [⟨s49,(.own .imm),r⟩] [])=_
 simp only [castDm_self]
 rw [e]
 rfl
def zB3.sk4:Skel:=⟨dd 2 (.ptr 50 []::(.ptr 51 []::(dd 5 (.pv s23::(.pv (.int .i64)::(.pv (.int .i64)::(dd 16 []))))))),[⟨50,s24,(.pr .imm (.pr .imm (.pr (.own (.pr (.own .imm) .imm)) .imm))),true,false⟩,⟨51,s24,(.pr .imm (.pr .imm (.pr (.own (.pr (.own .imm) .imm)) .imm))),true,false⟩]⟩
def zB3.xs4:List XS:=[⟨.exit 0,[2,3],⟨dd 2 (.ptr 50 []::(.ptr 51 []::(dd 24 []))),[⟨50,s24,(.pr .imm (.pr .imm (.pr (.own (.pr (.own .imm) .imm)) .imm))),true,false⟩,⟨51,s24,(.pr .imm (.pr .imm (.pr (.own (.pr (.own .imm) .imm)) .imm))),true,false⟩]⟩⟩]
def zB3.con (N:Nat):Con:={ modes:=[.v],ptrs:=[false],fn:=fn1 s24 .imm (zB3 N) (fun r=>[⟨s24,(.pr .imm (.pr .imm (.pr (.own .imm) .imm))),r⟩]) (fun r=>[]) }
def zB3.cfg (N:Nat):Cfg:={ ty:=tys,keep:=[19],flt:=[],elm:=elm0,live:=[(4,[2,3,9,10,11])],ord:=[(6,[0,1,2,3,5,6,4,7,8,9,10,11])],con:=[((61,[.one]),zAA.con N)],loops:=[(4,loopCon N zB3.sk4 zB3.xs4 (fun {R}=>zB3.l4 (R:=R) N))],joins:=[] }
theorem zB3.cons (N:Nat):ConsOk Tryz.prog TB (zB3.cfg N).con:=(consOk_cons (hb61) (zAA.ok N) (zAA.det N) consOk_nil)
theorem zB3.h4 {R:Type} (N:Nat) (d:zB3.sk4.D) (kn:zB3.sk4.D->Option R) (kx:XD zB3.xs4->Option R):roundK (zB3.cfg N) N (nthLoop (fnBody Tryz.f28) 0) zB3.sk4 zB3.xs4 d kn kx=zB3.l4 N d kn kx:=by kernel_rfl
theorem zB3.i4 (N:Nat):LoopsOk Tryz.prog TB (zB3.cfg N) (nthLoop (fnBody Tryz.f28) 0):=loopsL (l:=[]) (by kernel_rfl) trivial
theorem zB3.o4 (N:Nat):LoopOk Tryz.prog TB (nthLoop (fnBody Tryz.f28) 0) (loopCon N zB3.sk4 zB3.xs4 (fun {R}=>zB3.l4 (R:=R) N)):=loop_ok (g:=zB3.cfg N) tys_ok (zB3.cons N) mixed (zB3.i4 N) (fun d kn kx=>zB3.h4 N d kn kx)
theorem zB3.ls (N:Nat):LoopsOk Tryz.prog TB (zB3.cfg N) (fnBody Tryz.f28):=loopsL (l:=[nthLoop (fnBody Tryz.f28) 0]) (by kernel_rfl) ⟨loopOne (L0:=loopCon N zB3.sk4 zB3.xs4 (fun {R}=>zB3.l4 (R:=R) N)) (id:=4) (by kernel_rfl) (by kernel_rfl) (zB3.o4 N),trivial⟩
theorem zB3.q4 {R R':Type} {N n:Nat} {d} {k} {g:R->Option R'}:bindF (loopP (zB3.l4 N) n d k) g=loopP (zB3.l4 N) n d fun e=>bindF (k e) g:=bindF_loopP (fun d kn kx=>by simp only [zB3.l4,bindF_ifB,bindF_bindO,bindF_pure,bindF_none,bindF_onSum]) n d k
theorem zB3.b (N:Nat) (x0:den s24):body (zB3.cfg N) N Tryz.f28 [.one] [.v] [(false,(.pr .imm (.pr .imm (.pr (.own .imm) .imm))))] [⟨s24,.imm,x0⟩] (fun r i=>some (r,i))=bindO (zB3 N x0) fun r=>some ([⟨s24,(.pr .imm (.pr .imm (.pr (.own .imm) .imm))),r⟩],[]):=by
 show _=bindF _ _
 conv=>rhs;simp only [zB3,bindF_ifB,bindF_bindO,bindF_pure,bindF_none,bindF_onSum,zB3.q4]
 kernel_rfl
theorem zB3.ok (N:Nat):ConOk Tryz.prog TB 28 [.one] (zB3.con N):=ok1 (g:=zB3.cfg N) (N:=N) (res:=[(false,(.pr .imm (.pr .imm (.pr (.own .imm) .imm))))]) tys_ok (zB3.cons N) mixed Tryz.func28 (zB3.ls N) rfl (zB3.b N)
theorem zB3.det (N:Nat):ConDet (zB3.con N):=det1
def zBW.con (N:Nat):Con:=decCon (zBW N)
theorem zBW.ok (N:Nat):ConOk Tryz.prog TB 62 [.one] (zBW.con N):=dec_conOk (g3:=0) (g4:=1) (by decide) (fun s w h=>Any.utf8_DecodeRuneInString u8lays s w h) (fun s=>by
 show some _=some (pDec s)
 unfold pDec Go.Lib.decodeGo
 split <;> rfl)
theorem zBW.det (N:Nat):ConDet (zBW.con N):=dec_det
def zAQ.sk2:Skel:=⟨.pv .str::(dd 2 (.ov 50 []::(dd 19 []))),[⟨50,s49,(.own .imm),false,false⟩]⟩
def zAQ.xs2:List XS:=[⟨.exit 0,[3],⟨dd 3 (.ov 50 []::(dd 19 [])),[⟨50,s49,(.own .imm),false,false⟩]⟩⟩]
def zAQ.con (N:Nat):Con:={ modes:=[.v],ptrs:=[false],fn:=fn1 .str .imm (zAQ N) (fun r=>[⟨s49,.imm,r⟩]) (fun r=>[]) }
def zAQ.cfg (N:Nat):Cfg:={ ty:=tys,keep:=[11],flt:=[],elm:=elm0,live:=[(2,[0,3])],ord:=[],con:=[((62,[.one]),zBW.con N)],loops:=[(2,loopCon N zAQ.sk2 zAQ.xs2 (fun {R}=>zAQ.l2 (R:=R) N))],joins:=[] }
theorem zAQ.cons (N:Nat):ConsOk Tryz.prog TB (zAQ.cfg N).con:=(consOk_cons (hb62) (zBW.ok N) (zBW.det N) consOk_nil)
theorem zAQ.h2 {R:Type} (N:Nat) (d:zAQ.sk2.D) (kn:zAQ.sk2.D->Option R) (kx:XD zAQ.xs2->Option R):roundK (zAQ.cfg N) N (nthLoop (fnBody Tryz.f29) 0) zAQ.sk2 zAQ.xs2 d kn kx=zAQ.l2 N d kn kx:=by kernel_rfl
theorem zAQ.i2 (N:Nat):LoopsOk Tryz.prog TB (zAQ.cfg N) (nthLoop (fnBody Tryz.f29) 0):=loopsL (l:=[]) (by kernel_rfl) trivial
theorem zAQ.o2 (N:Nat):LoopOk Tryz.prog TB (nthLoop (fnBody Tryz.f29) 0) (loopCon N zAQ.sk2 zAQ.xs2 (fun {R}=>zAQ.l2 (R:=R) N)):=loop_ok (g:=zAQ.cfg N) tys_ok (zAQ.cons N) mixed (zAQ.i2 N) (fun d kn kx=>zAQ.h2 N d kn kx)
theorem zAQ.ls (N:Nat):LoopsOk Tryz.prog TB (zAQ.cfg N) (fnBody Tryz.f29):=loopsL (l:=[nthLoop (fnBody Tryz.f29) 0]) (by kernel_rfl) ⟨loopOne (L0:=loopCon N zAQ.sk2 zAQ.xs2 (fun {R}=>zAQ.l2 (R:=R) N)) (id:=2) (by kernel_rfl) (by kernel_rfl) (zAQ.o2 N),trivial⟩
theorem zAQ.q2 {R R':Type} {N n:Nat} {d} {k} {g:R->Option R'}:bindF (loopP (zAQ.l2 N) n d k) g=loopP (zAQ.l2 N) n d fun e=>bindF (k e) g:=bindF_loopP (fun d kn kx=>by simp only [zAQ.l2,bindF_ifB,bindF_bindO,bindF_pure,bindF_none,bindF_onSum]) n d k
theorem zAQ.b (N:Nat) (x0:den .str):body (zAQ.cfg N) N Tryz.f29 [.one] [.v] [(false,.imm)] [⟨.str,.imm,x0⟩] (fun r i=>some (r,i))=bindO (zAQ N x0) fun r=>some ([⟨s49,.imm,r⟩],[]):=by
 show _=bindF _ _
 conv=>rhs;simp only [zAQ,bindF_ifB,bindF_bindO,bindF_pure,bindF_none,bindF_onSum,zAQ.q2]
 kernel_rfl
theorem zAQ.ok (N:Nat):ConOk Tryz.prog TB 29 [.one] (zAQ.con N):=ok1 (g:=zAQ.cfg N) (N:=N) (res:=[(false,.imm)]) tys_ok (zAQ.cons N) mixed Tryz.func29 (zAQ.ls N) rfl (zAQ.b N)
theorem zAQ.det (N:Nat):ConDet (zAQ.con N):=det1
def zBU.con (N:Nat):Con:={ modes:=[.io,.v,.v],ptrs:=[],fn:=fn3 s24 (.pr .imm (.pr .imm (.pr (.own .imm) .imm))) (.int .i64) .imm (.int .i64) .imm (zBU N) (fun r=>[]) (fun r=>[⟨s24,(.pr .imm (.pr .imm (.pr (.own .imm) .imm))),r⟩]) }
def zBU.cfg (N:Nat):Cfg:={ ty:=tys,keep:=[8],flt:=[],elm:=elm0,live:=[],ord:=[],con:=[((42,[.one,.one]),zAV.con N)],loops:=[],joins:=[] }
theorem zBU.cons (N:Nat):ConsOk Tryz.prog TB (zBU.cfg N).con:=(consOk_cons (hb42) (zAV.ok N) (zAV.det N) consOk_nil)
theorem zBU.ls (N:Nat):LoopsOk Tryz.prog TB (zBU.cfg N) (fnBody Tryz.f66):=loopsL (l:=[]) (by kernel_rfl) trivial
theorem zBU.b (N:Nat) (x0:den s24) (x1:den (.int .i64)) (x2:den (.int .i64)):body (zBU.cfg N) N Tryz.f66 [.one,.one,.one] [.io,.v,.v] [] [⟨s24,(.pr .imm (.pr .imm (.pr (.own .imm) .imm))),x0⟩,⟨(.int .i64),.imm,x1⟩,⟨(.int .i64),.imm,x2⟩] (fun r i=>some (r,i))=bindO (zBU N x0 x1 x2) fun r=>some ([],[⟨s24,(.pr .imm (.pr .imm (.pr (.own .imm) .imm))),r⟩]):=by
 show _=bindF _ _
 conv=>rhs;simp only [zBU,bindF_ifB,bindF_bindO,bindF_pure,bindF_none,bindF_onSum]
 kernel_rfl
theorem zBU.ok (N:Nat):ConOk Tryz.prog TB 66 [.one,.one,.one] (zBU.con N):=ok3 (g:=zBU.cfg N) (N:=N) (res:=[]) tys_ok (zBU.cons N) mixed Tryz.func66 (zBU.ls N) rfl (zBU.b N)
theorem zBU.det (N:Nat):ConDet (zBU.con N):=det3
def zAG.sk1:Skel:=⟨.ptr 0 []::(dd 1 (.pv (.int .i64)::(dd 3 (.pv (.int .i64)::(dd 9 []))))),[⟨0,s24,(.pr .imm (.pr .imm (.pr (.own .imm) .imm))),true,false⟩]⟩
def zAG.xs1:List XS:=[⟨.exit 0,[],⟨dd 16 [],[⟨0,s24,(.pr .imm (.pr .imm (.pr (.own .imm) .imm))),true,false⟩]⟩⟩]
def zAG.con (N:Nat):Con:={ modes:=[.io,.v,.v],ptrs:=[],fn:=fn3 s24 (.pr .imm (.pr .imm (.pr (.own .imm) .imm))) (.int .i64) .imm (.int .i64) .imm (zAG N) (fun r=>[]) (fun r=>[⟨s24,(.pr .imm (.pr .imm (.pr (.own .imm) .imm))),r⟩]) }
def zAG.cfg (N:Nat):Cfg:={ ty:=tys,keep:=[15],flt:=[],elm:=elm0,live:=[(1,[0,2,6])],ord:=[],con:=[((66,[.one,.one,.one]),zBU.con N)],loops:=[(1,loopCon N zAG.sk1 zAG.xs1 (fun {R}=>zAG.l1 (R:=R) N))],joins:=[] }
theorem zAG.cons (N:Nat):ConsOk Tryz.prog TB (zAG.cfg N).con:=(consOk_cons (hb66) (zBU.ok N) (zBU.det N) consOk_nil)
theorem zAG.h1 {R:Type} (N:Nat) (d:zAG.sk1.D) (kn:zAG.sk1.D->Option R) (kx:XD zAG.xs1->Option R):roundK (zAG.cfg N) N (nthLoop (fnBody Tryz.f84) 0) zAG.sk1 zAG.xs1 d kn kx=zAG.l1 N d kn kx:=by kernel_rfl
theorem zAG.i1 (N:Nat):LoopsOk Tryz.prog TB (zAG.cfg N) (nthLoop (fnBody Tryz.f84) 0):=loopsL (l:=[]) (by kernel_rfl) trivial
theorem zAG.o1 (N:Nat):LoopOk Tryz.prog TB (nthLoop (fnBody Tryz.f84) 0) (loopCon N zAG.sk1 zAG.xs1 (fun {R}=>zAG.l1 (R:=R) N)):=loop_ok (g:=zAG.cfg N) tys_ok (zAG.cons N) mixed (zAG.i1 N) (fun d kn kx=>zAG.h1 N d kn kx)
theorem zAG.ls (N:Nat):LoopsOk Tryz.prog TB (zAG.cfg N) (fnBody Tryz.f84):=loopsL (l:=[nthLoop (fnBody Tryz.f84) 0]) (by kernel_rfl) ⟨loopOne (L0:=loopCon N zAG.sk1 zAG.xs1 (fun {R}=>zAG.l1 (R:=R) N)) (id:=1) (by kernel_rfl) (by kernel_rfl) (zAG.o1 N),trivial⟩
theorem zAG.q1 {R R':Type} {N n:Nat} {d} {k} {g:R->Option R'}:bindF (loopP (zAG.l1 N) n d k) g=loopP (zAG.l1 N) n d fun e=>bindF (k e) g:=bindF_loopP (fun d kn kx=>by simp only [zAG.l1,bindF_ifB,bindF_bindO,bindF_pure,bindF_none,bindF_onSum]) n d k
theorem zAG.b (N:Nat) (x0:den s24) (x1:den (.int .i64)) (x2:den (.int .i64)):body (zAG.cfg N) N Tryz.f84 [.one,.one,.one] [.io,.v,.v] [] [⟨s24,(.pr .imm (.pr .imm (.pr (.own .imm) .imm))),x0⟩,⟨(.int .i64),.imm,x1⟩,⟨(.int .i64),.imm,x2⟩] (fun r i=>some (r,i))=bindO (zAG N x0 x1 x2) fun r=>some ([],[⟨s24,(.pr .imm (.pr .imm (.pr (.own .imm) .imm))),r⟩]):=by
 show _=bindF _ _
 conv=>rhs;simp only [zAG,bindF_ifB,bindF_bindO,bindF_pure,bindF_none,bindF_onSum,zAG.q1]
 kernel_rfl
theorem zAG.ok (N:Nat):ConOk Tryz.prog TB 84 [.one,.one,.one] (zAG.con N):=ok3 (g:=zAG.cfg N) (N:=N) (res:=[]) tys_ok (zAG.cons N) mixed Tryz.func84 (zAG.ls N) rfl (zAG.b N)
theorem zAG.det (N:Nat):ConDet (zAG.con N):=det3
def zBF.con (N:Nat):Con:={ modes:=[.io,.v,.tk],ptrs:=[],fn:=fn3 s24 (.pr .imm (.pr .imm (.pr (.own .imm) .imm))) (.int .i64) .imm s49 (.own .imm) (zBF N) (fun r=>[]) (fun r=>[⟨s24,(.pr .imm (.pr .imm (.pr (.own .imm) .imm))),r⟩]) }
def zBF.cfg (N:Nat):Cfg:={ ty:=tys,keep:=[128,143,149],flt:=[],elm:=elm0,live:=[],ord:=[(2,[0,1,2,3,4,5,6,7,8,9,10,11,12,13,14,15,16,17,18,19,20,21,22,23,24]),(7,[0,1,2,3,4,5,6,7,8,9,10,11,12,13,14,15]),(9,[0,1,2,3,4,5,6,7,8,9,10,11,12,13,14,15]),(14,[0,1,2,3,5,6,7,8,4,9,10,11,12,13]),(18,[0,1,2,3,4,5,6,7,8,9,10,11,12])],con:=[((84,[.one,.one,.one]),zAG.con N),((58,[.one,.one,.one]),zBA.con N)],loops:=[],joins:=[] }
theorem zBF.cons (N:Nat):ConsOk Tryz.prog TB (zBF.cfg N).con:=(consOk_cons (hb84) (zAG.ok N) (zAG.det N) (consOk_cons (hb58) (zBA.ok N) (zBA.det N) consOk_nil))
theorem zBF.ls (N:Nat):LoopsOk Tryz.prog TB (zBF.cfg N) (fnBody Tryz.f63):=loopsL (l:=[]) (by kernel_rfl) trivial
theorem zBF.b (N:Nat) (x0:den s24) (x1:den (.int .i64)) (x2:den s49):body (zBF.cfg N) N Tryz.f63 [.one,.one,.one] [.io,.v,.tk] [] [⟨s24,(.pr .imm (.pr .imm (.pr (.own .imm) .imm))),x0⟩,⟨(.int .i64),.imm,x1⟩,⟨s49,(.own .imm),x2⟩] (fun r i=>some (r,i))=bindO (zBF N x0 x1 x2) fun r=>some ([],[⟨s24,(.pr .imm (.pr .imm (.pr (.own .imm) .imm))),r⟩]):=by
 show _=bindF _ _
 conv=>rhs;simp only [zBF,bindF_ifB,bindF_bindO,bindF_pure,bindF_none,bindF_onSum]
 kernel_rfl
theorem zBF.ok (N:Nat):ConOk Tryz.prog TB 63 [.one,.one,.one] (zBF.con N):=ok3 (g:=zBF.cfg N) (N:=N) (res:=[]) tys_ok (zBF.cons N) mixed Tryz.func63 (zBF.ls N) rfl (zBF.b N)
theorem zBF.det (N:Nat):ConDet (zBF.con N):=det3
def zAE.sk3:Skel:=⟨.ptr 0 []::(.pv s49::(dd 3 (.ov 50 []::(.pv (.int .i64)::(dd 4 (.pv s49::(.pv (.int .i64)::(.pv (.int .i64)::(dd 44 []))))))))),[⟨0,s24,(.pr .imm (.pr .imm (.pr (.own .imm) .imm))),true,false⟩,⟨50,s49,(.own .imm),false,false⟩]⟩
def zAE.xs3:List XS:=[⟨.exit 0,[1],⟨dd 1 (.pv s49::(dd 56 [])),[⟨0,s24,(.pr .imm (.pr .imm (.pr (.own .imm) .imm))),true,false⟩]⟩⟩,⟨.ret,[4],⟨dd 4 (.pv (.int .i64)::(dd 53 [])),[⟨0,s24,(.pr .imm (.pr .imm (.pr (.own .imm) .imm))),true,false⟩]⟩⟩]
def zAE.con (N:Nat):Con:={ modes:=[.io,.v],ptrs:=[false],fn:=fn2 s24 (.pr .imm (.pr .imm (.pr (.own .imm) .imm))) s49 .imm (zAE N) (fun r=>[⟨(.int .i64),.imm,r.1⟩]) (fun r=>[⟨s24,(.pr .imm (.pr .imm (.pr (.own .imm) .imm))),r.2⟩]) }
def zAE.cfg (N:Nat):Cfg:={ ty:=tys,keep:=[29,24],flt:=[],elm:=elm0,live:=[(3,[0,1,5,6,11,12,13])],ord:=[],con:=[((58,[.one,.one,.one]),zBA.con N),((63,[.one,.one,.one]),zBF.con N)],loops:=[(3,loopCon N zAE.sk3 zAE.xs3 (fun {R}=>zAE.l3 (R:=R) N))],joins:=[(15,[⟨.normal,[0,1,5,6,11,12,13],⟨.ptr 0 []::(.pv s49::(dd 3 (.ov 50 []::(.pv (.int .i64)::(dd 4 (.pv s49::(.pv (.int .i64)::(.pv (.int .i64)::(dd 44 []))))))))),[⟨0,s24,(.pr .imm (.pr .imm (.pr (.own .imm) .imm))),true,false⟩,⟨50,s49,(.own .imm),false,false⟩]⟩⟩,⟨.ret,[4],⟨dd 4 (.pv (.int .i64)::(dd 53 [])),[⟨0,s24,(.pr .imm (.pr .imm (.pr (.own .imm) .imm))),true,false⟩]⟩⟩])] }
theorem zAE.cons (N:Nat):ConsOk Tryz.prog TB (zAE.cfg N).con:=(consOk_cons (hb58) (zBA.ok N) (zBA.det N) (consOk_cons (hb63) (zBF.ok N) (zBF.det N) consOk_nil))
theorem zAE.h3 {R:Type} (N:Nat) (d:zAE.sk3.D) (kn:zAE.sk3.D->Option R) (kx:XD zAE.xs3->Option R):roundK (zAE.cfg N) N (nthLoop (fnBody Tryz.f30) 0) zAE.sk3 zAE.xs3 d kn kx=zAE.l3 N d kn kx:=by kernel_rfl
theorem zAE.i3 (N:Nat):LoopsOk Tryz.prog TB (zAE.cfg N) (nthLoop (fnBody Tryz.f30) 0):=loopsL (l:=[]) (by kernel_rfl) trivial
theorem zAE.o3 (N:Nat):LoopOk Tryz.prog TB (nthLoop (fnBody Tryz.f30) 0) (loopCon N zAE.sk3 zAE.xs3 (fun {R}=>zAE.l3 (R:=R) N)):=loop_ok (g:=zAE.cfg N) tys_ok (zAE.cons N) mixed (zAE.i3 N) (fun d kn kx=>zAE.h3 N d kn kx)
theorem zAE.ls (N:Nat):LoopsOk Tryz.prog TB (zAE.cfg N) (fnBody Tryz.f30):=loopsL (l:=[nthLoop (fnBody Tryz.f30) 0]) (by kernel_rfl) ⟨loopOne (L0:=loopCon N zAE.sk3 zAE.xs3 (fun {R}=>zAE.l3 (R:=R) N)) (id:=3) (by kernel_rfl) (by kernel_rfl) (zAE.o3 N),trivial⟩
theorem zAE.q3 {R R':Type} {N n:Nat} {d} {k} {g:R->Option R'}:bindF (loopP (zAE.l3 N) n d k) g=loopP (zAE.l3 N) n d fun e=>bindF (k e) g:=bindF_loopP (fun d kn kx=>by simp only [zAE.l3,bindF_ifB,bindF_bindO,bindF_pure,bindF_none,bindF_onSum]) n d k
theorem zAE.b (N:Nat) (x0:den s24) (x1:den s49):body (zAE.cfg N) N Tryz.f30 [.one,.one] [.io,.v] [(false,.imm)] [⟨s24,(.pr .imm (.pr .imm (.pr (.own .imm) .imm))),x0⟩,⟨s49,.imm,x1⟩] (fun r i=>some (r,i))=bindO (zAE N x0 x1) fun r=>some ([⟨(.int .i64),.imm,r.1⟩],[⟨s24,(.pr .imm (.pr .imm (.pr (.own .imm) .imm))),r.2⟩]):=by
 show _=bindF _ _
 conv=>rhs;simp only [zAE,bindF_ifB,bindF_bindO,bindF_pure,bindF_none,bindF_onSum,zAE.q3]
 kernel_rfl
theorem zAE.ok (N:Nat):ConOk Tryz.prog TB 30 [.one,.one] (zAE.con N):=ok2 (g:=zAE.cfg N) (N:=N) (res:=[(false,.imm)]) tys_ok (zAE.cons N) mixed Tryz.func30 (zAE.ls N) rfl (zAE.b N)
theorem zAE.det (N:Nat):ConDet (zAE.con N):=det2
def zBO.con (N:Nat):Con:={ modes:=[.io],ptrs:=[],fn:=fn1 s24 (.pr .imm (.pr .imm (.pr (.own .imm) .imm))) (zBO N) (fun r=>[]) (fun r=>[⟨s24,(.pr .imm (.pr .imm (.pr (.own .imm) .imm))),r⟩]) }
def zBO.cfg (N:Nat):Cfg:={ ty:=tys,keep:=[],flt:=[],elm:=elm0,live:=[],ord:=[(0,[0,1,2,3,4,5,6,7,8,9]),(2,[0,1,2,3,4,5,6,7,8,9,10,11,12,13,14,15,16,17])],con:=[],loops:=[],joins:=[] }
theorem zBO.cons (N:Nat):ConsOk Tryz.prog TB (zBO.cfg N).con:=consOk_nil
theorem zBO.ls (N:Nat):LoopsOk Tryz.prog TB (zBO.cfg N) (fnBody Tryz.f31):=loopsL (l:=[]) (by kernel_rfl) trivial
theorem zBO.b (N:Nat) (x0:den s24):body (zBO.cfg N) N Tryz.f31 [.one] [.io] [] [⟨s24,(.pr .imm (.pr .imm (.pr (.own .imm) .imm))),x0⟩] (fun r i=>some (r,i))=bindO (zBO N x0) fun r=>some ([],[⟨s24,(.pr .imm (.pr .imm (.pr (.own .imm) .imm))),r⟩]):=by
 show _=bindF _ _
 conv=>rhs;simp only [zBO,bindF_ifB,bindF_bindO,bindF_pure,bindF_none,bindF_onSum]
 kernel_rfl
theorem zBO.ok (N:Nat):ConOk Tryz.prog TB 31 [.one] (zBO.con N):=ok1 (g:=zBO.cfg N) (N:=N) (res:=[]) tys_ok (zBO.cons N) mixed Tryz.func31 (zBO.ls N) rfl (zBO.b N)
theorem zBO.det (N:Nat):ConDet (zBO.con N):=det1
def zCB.con (N:Nat):Con:={ modes:=[.io,.v],ptrs:=[],fn:=fn2 s24 (.pr .imm (.pr .imm (.pr (.own .imm) .imm))) (.int .i64) .imm (zCB N) (fun r=>[]) (fun r=>[⟨s24,(.pr .imm (.pr .imm (.pr (.own .imm) .imm))),r⟩]) }
def zCB.cfg (N:Nat):Cfg:={ ty:=tys,keep:=[34,44,59],flt:=[],elm:=elm0,live:=[],ord:=[(0,[0,1,2,3,4,5,6,7,8,9,10,11,12,13,14])],con:=[((42,[.one,.one]),zAV.con N),((43,[.one]),zB0.con N),((61,[.one]),zAA.con N)],loops:=[],joins:=[] }
theorem zCB.cons (N:Nat):ConsOk Tryz.prog TB (zCB.cfg N).con:=(consOk_cons (hb42) (zAV.ok N) (zAV.det N) (consOk_cons (hb43) (zB0.ok N) (zB0.det N) (consOk_cons (hb61) (zAA.ok N) (zAA.det N) consOk_nil)))
theorem zCB.ls (N:Nat):LoopsOk Tryz.prog TB (zCB.cfg N) (fnBody Tryz.f65):=loopsL (l:=[]) (by kernel_rfl) trivial
theorem zCB.b (N:Nat) (x0:den s24) (x1:den (.int .i64)):body (zCB.cfg N) N Tryz.f65 [.one,.one] [.io,.v] [] [⟨s24,(.pr .imm (.pr .imm (.pr (.own .imm) .imm))),x0⟩,⟨(.int .i64),.imm,x1⟩] (fun r i=>some (r,i))=bindO (zCB N x0 x1) fun r=>some ([],[⟨s24,(.pr .imm (.pr .imm (.pr (.own .imm) .imm))),r⟩]):=by
 show _=bindF _ _
 conv=>rhs;simp only [zCB,bindF_ifB,bindF_bindO,bindF_pure,bindF_none,bindF_onSum]
 kernel_rfl
theorem zCB.ok (N:Nat):ConOk Tryz.prog TB 65 [.one,.one] (zCB.con N):=ok2 (g:=zCB.cfg N) (N:=N) (res:=[]) tys_ok (zCB.cons N) mixed Tryz.func65 (zCB.ls N) rfl (zCB.b N)
theorem zCB.det (N:Nat):ConDet (zCB.con N):=det2
def zAN.sk8:Skel:=⟨.ptr 0 []::(.pv (.int .i64)::(dd 2 (.pv (.int .i64)::(.pv (.int .i64)::(dd 50 (.pv (.int .i64)::(.pv (.int .i64)::(dd 49 [])))))))),[⟨0,s24,(.pr .imm (.pr .imm (.pr (.own .imm) .imm))),true,false⟩]⟩
def zAN.xs8:List XS:=[⟨.exit 0,[0,1,4,5],⟨.ptr 0 []::(.pv (.int .i64)::(dd 2 (.pv (.int .i64)::(.pv (.int .i64)::(dd 101 []))))),[⟨0,s24,(.pr .imm (.pr .imm (.pr (.own .imm) .imm))),true,false⟩]⟩⟩]
def zAN.con (N:Nat):Con:={ modes:=[.io,.v],ptrs:=[],fn:=fn2 s24 (.pr .imm (.pr .imm (.pr (.own .imm) .imm))) (.int .i64) .imm (zAN N) (fun r=>[]) (fun r=>[⟨s24,(.pr .imm (.pr .imm (.pr (.own .imm) .imm))),r⟩]) }
def zAN.cfg (N:Nat):Cfg:={ ty:=tys,keep:=[8,13,41,68],flt:=[],elm:=elm0,live:=[(8,[0,1,4,5,56,57])],ord:=[(3,[0,1,2,3,4,5,6,7,8,9,10,11,12,13,14,15,16,17,18,19]),(6,[0,1,2,3,4,5,6,7,8,9,10,11,12,13,14]),(14,[0,1,2,3,4,5,6,7,8])],con:=[((64,[.one]),zAW.con N),((65,[.one,.one]),zCB.con N),((31,[.one]),zBO.con N),((66,[.one,.one,.one]),zBU.con N)],loops:=[(8,loopCon N zAN.sk8 zAN.xs8 (fun {R}=>zAN.l8 (R:=R) N))],joins:=[] }
theorem zAN.cons (N:Nat):ConsOk Tryz.prog TB (zAN.cfg N).con:=(consOk_cons (hb64) (zAW.ok N) (zAW.det N) (consOk_cons (hb65) (zCB.ok N) (zCB.det N) (consOk_cons (hb31) (zBO.ok N) (zBO.det N) (consOk_cons (hb66) (zBU.ok N) (zBU.det N) consOk_nil))))
theorem zAN.h8 {R:Type} (N:Nat) (d:zAN.sk8.D) (kn:zAN.sk8.D->Option R) (kx:XD zAN.xs8->Option R):roundK (zAN.cfg N) N (nthLoop (fnBody Tryz.f33) 0) zAN.sk8 zAN.xs8 d kn kx=zAN.l8 N d kn kx:=by kernel_rfl
theorem zAN.i8 (N:Nat):LoopsOk Tryz.prog TB (zAN.cfg N) (nthLoop (fnBody Tryz.f33) 0):=loopsL (l:=[]) (by kernel_rfl) trivial
theorem zAN.o8 (N:Nat):LoopOk Tryz.prog TB (nthLoop (fnBody Tryz.f33) 0) (loopCon N zAN.sk8 zAN.xs8 (fun {R}=>zAN.l8 (R:=R) N)):=loop_ok (g:=zAN.cfg N) tys_ok (zAN.cons N) mixed (zAN.i8 N) (fun d kn kx=>zAN.h8 N d kn kx)
theorem zAN.ls (N:Nat):LoopsOk Tryz.prog TB (zAN.cfg N) (fnBody Tryz.f33):=loopsL (l:=[nthLoop (fnBody Tryz.f33) 0]) (by kernel_rfl) ⟨loopOne (L0:=loopCon N zAN.sk8 zAN.xs8 (fun {R}=>zAN.l8 (R:=R) N)) (id:=8) (by kernel_rfl) (by kernel_rfl) (zAN.o8 N),trivial⟩
theorem zAN.q8 {R R':Type} {N n:Nat} {d} {k} {g:R->Option R'}:bindF (loopP (zAN.l8 N) n d k) g=loopP (zAN.l8 N) n d fun e=>bindF (k e) g:=bindF_loopP (fun d kn kx=>by simp only [zAN.l8,bindF_ifB,bindF_bindO,bindF_pure,bindF_none,bindF_onSum]) n d k
theorem zAN.b (N:Nat) (x0:den s24) (x1:den (.int .i64)):body (zAN.cfg N) N Tryz.f33 [.one,.one] [.io,.v] [] [⟨s24,(.pr .imm (.pr .imm (.pr (.own .imm) .imm))),x0⟩,⟨(.int .i64),.imm,x1⟩] (fun r i=>some (r,i))=bindO (zAN N x0 x1) fun r=>some ([],[⟨s24,(.pr .imm (.pr .imm (.pr (.own .imm) .imm))),r⟩]):=by
 show _=bindF _ _
 conv=>rhs;simp only [zAN,bindF_ifB,bindF_bindO,bindF_pure,bindF_none,bindF_onSum,zAN.q8]
 kernel_rfl
theorem zAN.ok (N:Nat):ConOk Tryz.prog TB 33 [.one,.one] (zAN.con N):=ok2 (g:=zAN.cfg N) (N:=N) (res:=[]) tys_ok (zAN.cons N) mixed Tryz.func33 (zAN.ls N) rfl (zAN.b N)
theorem zAN.det (N:Nat):ConDet (zAN.con N):=det2
def zB1.sk5:Skel:=⟨dd 4 (.ptr 50 []::(.ptr 51 []::(.pv s49::(dd 77 [])))),[⟨50,s24,(.pr .imm (.pr .imm (.pr (.own (.pr (.own .imm) .imm)) .imm))),true,false⟩,⟨51,s24,(.pr .imm (.pr .imm (.pr (.own .imm) .imm))),true,false⟩]⟩
def zB1.xs5:List XS:=[⟨.exit 0,[4,5],⟨dd 4 (.ptr 50 []::(.ptr 51 []::(dd 78 []))),[⟨50,s24,(.pr .imm (.pr .imm (.pr (.own (.pr (.own .imm) .imm)) .imm))),true,false⟩,⟨51,s24,(.pr .imm (.pr .imm (.pr (.own .imm) .imm))),true,false⟩]⟩⟩]
def zB1.con (N:Nat):Con:={ modes:=[.v,.v],ptrs:=[false],fn:=fn2 s24 .imm .str .imm (zB1 N) (fun r=>[⟨s24,(.pr .imm (.pr .imm (.pr (.own .imm) .imm))),r⟩]) (fun r=>[]) }
def zB1.cfg (N:Nat):Cfg:={ ty:=tys,keep:=[10,13,18,20,47,66,78,81,83],flt:=[],elm:=elm0,live:=[(5,[4,5,6])],ord:=[],con:=[((26,[.one]),zCR.con N),((27,[.one]),zAL.con N),((28,[.one]),zB3.con N),((29,[.one]),zAQ.con N),((30,[.one,.one]),zAE.con N),((31,[.one]),zBO.con N),((32,[.one]),zBT.con N),((33,[.one,.one]),zAN.con N)],loops:=[(5,loopCon N zB1.sk5 zB1.xs5 (fun {R}=>zB1.l5 (R:=R) N))],joins:=[] }
theorem zB1.cons (N:Nat):ConsOk Tryz.prog TB (zB1.cfg N).con:=(consOk_cons (hb26) (zCR.ok N) (zCR.det N) (consOk_cons (hb27) (zAL.ok N) (zAL.det N) (consOk_cons (hb28) (zB3.ok N) (zB3.det N) (consOk_cons (hb29) (zAQ.ok N) (zAQ.det N) (consOk_cons (hb30) (zAE.ok N) (zAE.det N) (consOk_cons (hb31) (zBO.ok N) (zBO.det N) (consOk_cons (hb32) (zBT.ok N) (zBT.det N) (consOk_cons (hb33) (zAN.ok N) (zAN.det N) consOk_nil))))))))
theorem zB1.h5 {R:Type} (N:Nat) (d:zB1.sk5.D) (kn:zB1.sk5.D->Option R) (kx:XD zB1.xs5->Option R):roundK (zB1.cfg N) N (nthLoop (fnBody Tryz.f10) 0) zB1.sk5 zB1.xs5 d kn kx=zB1.l5 N d kn kx:=by kernel_rfl
theorem zB1.i5 (N:Nat):LoopsOk Tryz.prog TB (zB1.cfg N) (nthLoop (fnBody Tryz.f10) 0):=loopsL (l:=[]) (by kernel_rfl) trivial
theorem zB1.o5 (N:Nat):LoopOk Tryz.prog TB (nthLoop (fnBody Tryz.f10) 0) (loopCon N zB1.sk5 zB1.xs5 (fun {R}=>zB1.l5 (R:=R) N)):=loop_ok (g:=zB1.cfg N) tys_ok (zB1.cons N) mixed (zB1.i5 N) (fun d kn kx=>zB1.h5 N d kn kx)
theorem zB1.ls (N:Nat):LoopsOk Tryz.prog TB (zB1.cfg N) (fnBody Tryz.f10):=loopsL (l:=[nthLoop (fnBody Tryz.f10) 0]) (by kernel_rfl) ⟨loopOne (L0:=loopCon N zB1.sk5 zB1.xs5 (fun {R}=>zB1.l5 (R:=R) N)) (id:=5) (by kernel_rfl) (by kernel_rfl) (zB1.o5 N),trivial⟩
theorem zB1.q5 {R R':Type} {N n:Nat} {d} {k} {g:R->Option R'}:bindF (loopP (zB1.l5 N) n d k) g=loopP (zB1.l5 N) n d fun e=>bindF (k e) g:=bindF_loopP (fun d kn kx=>by simp only [zB1.l5,bindF_ifB,bindF_bindO,bindF_pure,bindF_none,bindF_onSum]) n d k
theorem zB1.b (N:Nat) (x0:den s24) (x1:den .str):body (zB1.cfg N) N Tryz.f10 [.one,.one] [.v,.v] [(false,(.pr .imm (.pr .imm (.pr (.own .imm) .imm))))] [⟨s24,.imm,x0⟩,⟨.str,.imm,x1⟩] (fun r i=>some (r,i))=bindO (zB1 N x0 x1) fun r=>some ([⟨s24,(.pr .imm (.pr .imm (.pr (.own .imm) .imm))),r⟩],[]):=by
 show _=bindF _ _
 conv=>rhs;simp only [zB1,bindF_ifB,bindF_bindO,bindF_pure,bindF_none,bindF_onSum,zB1.q5]
 kernel_rfl
theorem zB1.ok (N:Nat):ConOk Tryz.prog TB 10 [.one,.one] (zB1.con N):=ok2 (g:=zB1.cfg N) (N:=N) (res:=[(false,(.pr .imm (.pr .imm (.pr (.own .imm) .imm))))]) tys_ok (zB1.cons N) mixed Tryz.func10 (zB1.ls N) rfl (zB1.b N)
theorem zB1.det (N:Nat):ConDet (zB1.con N):=det2
end Go.AE.F
end
