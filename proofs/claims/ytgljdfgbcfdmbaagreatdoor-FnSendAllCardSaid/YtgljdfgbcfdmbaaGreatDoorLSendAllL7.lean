/- The printed functions are what the program comes to: contracts. -/
import Derived.Test.YtgljdfgbcfdmbaaGreatDoorLSendAllL6
noncomputable section
namespace Go.AE.F
open Go.AE Go.Proofs Go.Lib
set_option maxRecDepth 100000
def zA1.sk2:Skel:=⟨.pv (.sl 9 .str)::(.fn 59 []::(dd 5 (.pv (.int .i64)::(.pv (.int .i64)::(dd 10 []))))),[]⟩
def zA1.xs2:List XS:=[⟨.exit 0,[],⟨dd 19 [],[]⟩⟩,⟨.ret,[4],⟨dd 4 (.pv (.int .i64)::(dd 14 [])),[]⟩⟩]
def zA1.con (N:Nat):Con:={ modes:=[.v],ptrs:=[false],fn:=fn1 (.sl 9 .str) .imm (zA1 N) (fun r=>[⟨(.int .i64),.imm,r⟩]) (fun r=>[]) }
def zA1.cfg (N:Nat):Cfg:={ ty:=tys,keep:=[16],flt:=[],elm:=elm0,live:=[(2,[0,1,7,8])],ord:=[],con:=[((59,[.one]),zCI.con N)],loops:=[(2,loopCon N zA1.sk2 zA1.xs2 (fun {R}=>zA1.l2 (R:=R) N))],joins:=[] }
theorem zA1.cons (N:Nat):ConsOk Tryz.prog TB (zA1.cfg N).con:=(consOk_cons (hb59) (zCI.ok N) (zCI.det N) consOk_nil)
theorem zA1.h2 {R:Type} (N:Nat) (d:zA1.sk2.D) (kn:zA1.sk2.D->Option R) (kx:XD zA1.xs2->Option R):roundK (zA1.cfg N) N (nthLoop (fnBody Tryz.f81) 0) zA1.sk2 zA1.xs2 d kn kx=zA1.l2 N d kn kx:=by kernel_rfl
theorem zA1.i2 (N:Nat):LoopsOk Tryz.prog TB (zA1.cfg N) (nthLoop (fnBody Tryz.f81) 0):=loopsL (l:=[]) (by kernel_rfl) trivial
theorem zA1.o2 (N:Nat):LoopOk Tryz.prog TB (nthLoop (fnBody Tryz.f81) 0) (loopCon N zA1.sk2 zA1.xs2 (fun {R}=>zA1.l2 (R:=R) N)):=loop_ok (g:=zA1.cfg N) tys_ok (zA1.cons N) mixed (zA1.i2 N) (fun d kn kx=>zA1.h2 N d kn kx)
theorem zA1.ls (N:Nat):LoopsOk Tryz.prog TB (zA1.cfg N) (fnBody Tryz.f81):=loopsL (l:=[nthLoop (fnBody Tryz.f81) 0]) (by kernel_rfl) ⟨loopOne (L0:=loopCon N zA1.sk2 zA1.xs2 (fun {R}=>zA1.l2 (R:=R) N)) (id:=2) (by kernel_rfl) (by kernel_rfl) (zA1.o2 N),trivial⟩
theorem zA1.q2 {R R':Type} {N n:Nat} {d} {k} {g:R->Option R'}:bindF (loopP (zA1.l2 N) n d k) g=loopP (zA1.l2 N) n d fun e=>bindF (k e) g:=bindF_loopP (fun d kn kx=>by simp only [zA1.l2,bindF_ifB,bindF_bindO,bindF_pure,bindF_none,bindF_onSum]) n d k
theorem zA1.b (N:Nat) (x0:den (.sl 9 .str)):body (zA1.cfg N) N Tryz.f81 [.one,.fn 59 0] [.v] [(false,.imm)] [⟨(.sl 9 .str),.imm,x0⟩] (fun r i=>some (r,i))=bindO (zA1 N x0) fun r=>some ([⟨(.int .i64),.imm,r⟩],[]):=by
 show _=bindF _ _
 conv=>rhs;simp only [zA1,bindF_ifB,bindF_bindO,bindF_pure,bindF_none,bindF_onSum,zA1.q2]
 kernel_rfl
theorem zA1.ok (N:Nat):ConOk Tryz.prog TB 81 [.one,.fn 59 0] (zA1.con N):=ok1 (g:=zA1.cfg N) (N:=N) (res:=[(false,.imm)]) tys_ok (zA1.cons N) mixed Tryz.func81 (zA1.ls N) rfl (zA1.b N)
theorem zA1.det (N:Nat):ConDet (zA1.con N):=det1
def zA6.con (N:Nat):Con:={ modes:=[.v],ptrs:=[false],fn:=fn1 (.sl 9 .str) .imm (zA6 N) (fun r=>[⟨.bool,.imm,r⟩]) (fun r=>[]) }
def zA6.cfg (N:Nat):Cfg:={ ty:=tys,keep:=[7],flt:=[],elm:=elm0,live:=[],ord:=[],con:=[((81,[.one,.fn 59 0]),zA1.con N)],loops:=[],joins:=[] }
theorem zA6.cons (N:Nat):ConsOk Tryz.prog TB (zA6.cfg N).con:=(consOk_cons (hb81) (zA1.ok N) (zA1.det N) consOk_nil)
theorem zA6.ls (N:Nat):LoopsOk Tryz.prog TB (zA6.cfg N) (fnBody Tryz.f58):=loopsL (l:=[]) (by kernel_rfl) trivial
theorem zA6.b (N:Nat) (x0:den (.sl 9 .str)):body (zA6.cfg N) N Tryz.f58 [.one,.fn 59 0] [.v] [(false,.imm)] [⟨(.sl 9 .str),.imm,x0⟩] (fun r i=>some (r,i))=bindO (zA6 N x0) fun r=>some ([⟨.bool,.imm,r⟩],[]):=by
 show _=bindF _ _
 conv=>rhs;simp only [zA6,bindF_ifB,bindF_bindO,bindF_pure,bindF_none,bindF_onSum]
 kernel_rfl
theorem zA6.ok (N:Nat):ConOk Tryz.prog TB 58 [.one,.fn 59 0] (zA6.con N):=ok1 (g:=zA6.cfg N) (N:=N) (res:=[(false,.imm)]) tys_ok (zA6.cons N) mixed Tryz.func58 (zA6.ls N) rfl (zA6.b N)
theorem zA6.det (N:Nat):ConDet (zA6.con N):=det1
def zCU.con (N:Nat):Con:={ modes:=[.v],ptrs:=[false],fn:=fn1 (.sl 9 .str) .imm (zCU N) (fun r=>[⟨.bool,.imm,r⟩]) (fun r=>[]) }
def zCU.cfg (N:Nat):Cfg:={ ty:=tys,keep:=[4],flt:=[],elm:=elm0,live:=[],ord:=[],con:=[((58,[.one,.fn 59 0]),zA6.con N)],loops:=[],joins:=[] }
theorem zCU.cons (N:Nat):ConsOk Tryz.prog TB (zCU.cfg N).con:=(consOk_cons (hb58) (zA6.ok N) (zA6.det N) consOk_nil)
theorem zCU.ls (N:Nat):LoopsOk Tryz.prog TB (zCU.cfg N) (fnBody Tryz.f23):=loopsL (l:=[]) (by kernel_rfl) trivial
theorem zCU.b (N:Nat) (x0:den (.sl 9 .str)):body (zCU.cfg N) N Tryz.f23 [.one] [.v] [(false,.imm)] [⟨(.sl 9 .str),.imm,x0⟩] (fun r i=>some (r,i))=bindO (zCU N x0) fun r=>some ([⟨.bool,.imm,r⟩],[]):=by
 show _=bindF _ _
 conv=>rhs;simp only [zCU,bindF_ifB,bindF_bindO,bindF_pure,bindF_none,bindF_onSum]
 kernel_rfl
theorem zCU.ok (N:Nat):ConOk Tryz.prog TB 23 [.one] (zCU.con N):=ok1 (g:=zCU.cfg N) (N:=N) (res:=[(false,.imm)]) tys_ok (zCU.cons N) mixed Tryz.func23 (zCU.ls N) rfl (zCU.b N)
theorem zCU.det (N:Nat):ConDet (zCU.con N):=det1
def zAA.con (N:Nat):Con:={ modes:=[.v],ptrs:=[false],fn:=fun ds k=>match ds with | [d0]=>castDm s40 .imm d0 fun x0=>bindO (zAA N x0) fun r=>k [⟨s40,(.own .imm),r⟩] [] | _=>none }
def zAA.cfg (N:Nat):Cfg:={ ty:=tys,keep:=[],flt:=[],elm:=elm0,live:=[],ord:=[],con:=[],loops:=[],joins:=[] }
theorem zAA.cons (N:Nat):ConsOk Tryz.prog TB (zAA.cfg N).con:=consOk_nil
theorem zAA.ls (N:Nat):LoopsOk Tryz.prog TB (zAA.cfg N) (fnBody Tryz.f62):=loopsL (l:=[]) (by kernel_rfl) trivial
theorem zAA.pu {R:Type} (N:Nat) (x0:den s40) (f:_->Option R):Psh (zAA N x0) (zAA.g N x0 f) f:=by
 unfold zAA zAA.g
 repeat' (first | exact psh_pure | exact psh_none | refine psh_ifB ?_ ?_ | refine psh_same ?_ ?_ | refine psh_bindO fun _=>?_)
theorem zAA.b (N:Nat) (x0:den s40):body (zAA.cfg N) N Tryz.f62 [.one] [.v] [(false,(.own .imm))] [⟨s40,.imm,x0⟩] (fun r i=>some (r,i))=zAA.g N x0 fun r=>some ([⟨s40,(.own .imm),r⟩],[]):=by kernel_rfl
theorem zAA.ok (N:Nat):ConOk Tryz.prog TB 62 [.one] (zAA.con N):=by
 refine conOk_mk (g:=zAA.cfg N) (N:=N) (res:=[(false,(.own .imm))]) tys_ok (zAA.cons N) mixed Tryz.func62 (zAA.ls N) rfl rfl rfl ?_
 intro ds R k y h
 cases ds with
 | nil=>exact none_some h
 | cons d0 ds =>
 cases ds with
 | cons _ _=>exact none_some h
 | nil =>
 have h0:(castDm s40 .imm d0 fun x0=>bindO (zAA N x0) fun r=>k [⟨s40,(.own .imm),r⟩] [])=some y:=h
 clear h
 obtain ⟨x0,rfl,h1⟩:=castDm_eq h0
 exact con_fin' (zAA.b N x0) (zAA.pu N x0 _) h1
theorem zAA.det (N:Nat):ConDet (zAA.con N):=by
 intro ds R k y h
 cases ds with
 | nil=>exact none_some h
 | cons d0 ds =>
 cases ds with
 | cons _ _=>exact none_some h
 | nil =>
 have h0:(castDm s40 .imm d0 fun x0=>bindO (zAA N x0) fun r=>k [⟨s40,(.own .imm),r⟩] [])=some y:=h
 clear h
 obtain ⟨x0,rfl,h1⟩:=castDm_eq h0
 obtain ⟨r,e,h⟩:=bindO_some h1
 refine ⟨_,_,h,fun k'=>?_⟩
 show (castDm s40 .imm (⟨s40,.imm,x0⟩:Dy) fun x0=>bindO (zAA N x0) fun r=>k' [⟨s40,(.own .imm),r⟩] [])=_
 simp only [castDm_self]
 rw [e]
 rfl
def zB2.sk4:Skel:=⟨dd 2 (.ptr 50 []::(.ptr 51 []::(dd 5 (.pv s23::(.pv (.int .i64)::(.pv (.int .i64)::(dd 16 []))))))),[⟨50,s24,(.pr .imm (.pr .imm (.pr (.own (.pr (.own .imm) .imm)) .imm))),true,false⟩,⟨51,s24,(.pr .imm (.pr .imm (.pr (.own (.pr (.own .imm) .imm)) .imm))),true,false⟩]⟩
def zB2.xs4:List XS:=[⟨.exit 0,[2,3],⟨dd 2 (.ptr 50 []::(.ptr 51 []::(dd 24 []))),[⟨50,s24,(.pr .imm (.pr .imm (.pr (.own (.pr (.own .imm) .imm)) .imm))),true,false⟩,⟨51,s24,(.pr .imm (.pr .imm (.pr (.own (.pr (.own .imm) .imm)) .imm))),true,false⟩]⟩⟩]
def zB2.con (N:Nat):Con:={ modes:=[.v],ptrs:=[false],fn:=fn1 s24 .imm (zB2 N) (fun r=>[⟨s24,(.pr .imm (.pr .imm (.pr (.own .imm) .imm))),r⟩]) (fun r=>[]) }
def zB2.cfg (N:Nat):Cfg:={ ty:=tys,keep:=[19],flt:=[],elm:=elm0,live:=[(4,[2,3,9,10,11])],ord:=[(6,[0,1,2,3,5,6,4,7,8,9,10,11])],con:=[((62,[.one]),zAA.con N)],loops:=[(4,loopCon N zB2.sk4 zB2.xs4 (fun {R}=>zB2.l4 (R:=R) N))],joins:=[] }
theorem zB2.cons (N:Nat):ConsOk Tryz.prog TB (zB2.cfg N).con:=(consOk_cons (hb62) (zAA.ok N) (zAA.det N) consOk_nil)
theorem zB2.h4 {R:Type} (N:Nat) (d:zB2.sk4.D) (kn:zB2.sk4.D->Option R) (kx:XD zB2.xs4->Option R):roundK (zB2.cfg N) N (nthLoop (fnBody Tryz.f25) 0) zB2.sk4 zB2.xs4 d kn kx=zB2.l4 N d kn kx:=by kernel_rfl
theorem zB2.i4 (N:Nat):LoopsOk Tryz.prog TB (zB2.cfg N) (nthLoop (fnBody Tryz.f25) 0):=loopsL (l:=[]) (by kernel_rfl) trivial
theorem zB2.o4 (N:Nat):LoopOk Tryz.prog TB (nthLoop (fnBody Tryz.f25) 0) (loopCon N zB2.sk4 zB2.xs4 (fun {R}=>zB2.l4 (R:=R) N)):=loop_ok (g:=zB2.cfg N) tys_ok (zB2.cons N) mixed (zB2.i4 N) (fun d kn kx=>zB2.h4 N d kn kx)
theorem zB2.ls (N:Nat):LoopsOk Tryz.prog TB (zB2.cfg N) (fnBody Tryz.f25):=loopsL (l:=[nthLoop (fnBody Tryz.f25) 0]) (by kernel_rfl) ⟨loopOne (L0:=loopCon N zB2.sk4 zB2.xs4 (fun {R}=>zB2.l4 (R:=R) N)) (id:=4) (by kernel_rfl) (by kernel_rfl) (zB2.o4 N),trivial⟩
theorem zB2.q4 {R R':Type} {N n:Nat} {d} {k} {g:R->Option R'}:bindF (loopP (zB2.l4 N) n d k) g=loopP (zB2.l4 N) n d fun e=>bindF (k e) g:=bindF_loopP (fun d kn kx=>by simp only [zB2.l4,bindF_ifB,bindF_bindO,bindF_pure,bindF_none,bindF_onSum]) n d k
theorem zB2.b (N:Nat) (x0:den s24):body (zB2.cfg N) N Tryz.f25 [.one] [.v] [(false,(.pr .imm (.pr .imm (.pr (.own .imm) .imm))))] [⟨s24,.imm,x0⟩] (fun r i=>some (r,i))=bindO (zB2 N x0) fun r=>some ([⟨s24,(.pr .imm (.pr .imm (.pr (.own .imm) .imm))),r⟩],[]):=by
 show _=bindF _ _
 conv=>rhs;simp only [zB2,bindF_ifB,bindF_bindO,bindF_pure,bindF_none,bindF_onSum,zB2.q4]
 kernel_rfl
theorem zB2.ok (N:Nat):ConOk Tryz.prog TB 25 [.one] (zB2.con N):=ok1 (g:=zB2.cfg N) (N:=N) (res:=[(false,(.pr .imm (.pr .imm (.pr (.own .imm) .imm))))]) tys_ok (zB2.cons N) mixed Tryz.func25 (zB2.ls N) rfl (zB2.b N)
theorem zB2.det (N:Nat):ConDet (zB2.con N):=det1
def zBX.con (N:Nat):Con:=decCon (zBX N)
theorem zBX.ok (N:Nat):ConOk Tryz.prog TB 63 [.one] (zBX.con N):=dec_conOk (g3:=0) (g4:=1) (by decide) (fun s w h=>Any.utf8_DecodeRuneInString u8lays s w h) (fun s=>by
 show some _=some (pDec s)
 unfold pDec Go.Lib.decodeGo
 split <;> rfl)
theorem zBX.det (N:Nat):ConDet (zBX.con N):=dec_det
def zAR.sk2:Skel:=⟨.pv .str::(dd 2 (.ov 50 []::(dd 19 []))),[⟨50,s40,(.own .imm),false,false⟩]⟩
def zAR.xs2:List XS:=[⟨.exit 0,[3],⟨dd 3 (.ov 50 []::(dd 19 [])),[⟨50,s40,(.own .imm),false,false⟩]⟩⟩]
def zAR.con (N:Nat):Con:={ modes:=[.v],ptrs:=[false],fn:=fn1 .str .imm (zAR N) (fun r=>[⟨s40,.imm,r⟩]) (fun r=>[]) }
def zAR.cfg (N:Nat):Cfg:={ ty:=tys,keep:=[11],flt:=[],elm:=elm0,live:=[(2,[0,3])],ord:=[],con:=[((63,[.one]),zBX.con N)],loops:=[(2,loopCon N zAR.sk2 zAR.xs2 (fun {R}=>zAR.l2 (R:=R) N))],joins:=[] }
theorem zAR.cons (N:Nat):ConsOk Tryz.prog TB (zAR.cfg N).con:=(consOk_cons (hb63) (zBX.ok N) (zBX.det N) consOk_nil)
theorem zAR.h2 {R:Type} (N:Nat) (d:zAR.sk2.D) (kn:zAR.sk2.D->Option R) (kx:XD zAR.xs2->Option R):roundK (zAR.cfg N) N (nthLoop (fnBody Tryz.f26) 0) zAR.sk2 zAR.xs2 d kn kx=zAR.l2 N d kn kx:=by kernel_rfl
theorem zAR.i2 (N:Nat):LoopsOk Tryz.prog TB (zAR.cfg N) (nthLoop (fnBody Tryz.f26) 0):=loopsL (l:=[]) (by kernel_rfl) trivial
theorem zAR.o2 (N:Nat):LoopOk Tryz.prog TB (nthLoop (fnBody Tryz.f26) 0) (loopCon N zAR.sk2 zAR.xs2 (fun {R}=>zAR.l2 (R:=R) N)):=loop_ok (g:=zAR.cfg N) tys_ok (zAR.cons N) mixed (zAR.i2 N) (fun d kn kx=>zAR.h2 N d kn kx)
theorem zAR.ls (N:Nat):LoopsOk Tryz.prog TB (zAR.cfg N) (fnBody Tryz.f26):=loopsL (l:=[nthLoop (fnBody Tryz.f26) 0]) (by kernel_rfl) ⟨loopOne (L0:=loopCon N zAR.sk2 zAR.xs2 (fun {R}=>zAR.l2 (R:=R) N)) (id:=2) (by kernel_rfl) (by kernel_rfl) (zAR.o2 N),trivial⟩
theorem zAR.q2 {R R':Type} {N n:Nat} {d} {k} {g:R->Option R'}:bindF (loopP (zAR.l2 N) n d k) g=loopP (zAR.l2 N) n d fun e=>bindF (k e) g:=bindF_loopP (fun d kn kx=>by simp only [zAR.l2,bindF_ifB,bindF_bindO,bindF_pure,bindF_none,bindF_onSum]) n d k
theorem zAR.b (N:Nat) (x0:den .str):body (zAR.cfg N) N Tryz.f26 [.one] [.v] [(false,.imm)] [⟨.str,.imm,x0⟩] (fun r i=>some (r,i))=bindO (zAR N x0) fun r=>some ([⟨s40,.imm,r⟩],[]):=by
 show _=bindF _ _
 conv=>rhs;simp only [zAR,bindF_ifB,bindF_bindO,bindF_pure,bindF_none,bindF_onSum,zAR.q2]
 kernel_rfl
theorem zAR.ok (N:Nat):ConOk Tryz.prog TB 26 [.one] (zAR.con N):=ok1 (g:=zAR.cfg N) (N:=N) (res:=[(false,.imm)]) tys_ok (zAR.cons N) mixed Tryz.func26 (zAR.ls N) rfl (zAR.b N)
theorem zAR.det (N:Nat):ConDet (zAR.con N):=det1
def zBU.con (N:Nat):Con:={ modes:=[.io,.v,.v],ptrs:=[],fn:=fn3 s24 (.pr .imm (.pr .imm (.pr (.own .imm) .imm))) (.int .i64) .imm (.int .i64) .imm (zBU N) (fun r=>[]) (fun r=>[⟨s24,(.pr .imm (.pr .imm (.pr (.own .imm) .imm))),r⟩]) }
def zBU.cfg (N:Nat):Cfg:={ ty:=tys,keep:=[8],flt:=[],elm:=elm0,live:=[],ord:=[],con:=[((51,[.one,.one]),zAV.con N)],loops:=[],joins:=[] }
theorem zBU.cons (N:Nat):ConsOk Tryz.prog TB (zBU.cfg N).con:=(consOk_cons (hb51) (zAV.ok N) (zAV.det N) consOk_nil)
theorem zBU.ls (N:Nat):LoopsOk Tryz.prog TB (zBU.cfg N) (fnBody Tryz.f67):=loopsL (l:=[]) (by kernel_rfl) trivial
theorem zBU.b (N:Nat) (x0:den s24) (x1:den (.int .i64)) (x2:den (.int .i64)):body (zBU.cfg N) N Tryz.f67 [.one,.one,.one] [.io,.v,.v] [] [⟨s24,(.pr .imm (.pr .imm (.pr (.own .imm) .imm))),x0⟩,⟨(.int .i64),.imm,x1⟩,⟨(.int .i64),.imm,x2⟩] (fun r i=>some (r,i))=bindO (zBU N x0 x1 x2) fun r=>some ([],[⟨s24,(.pr .imm (.pr .imm (.pr (.own .imm) .imm))),r⟩]):=by
 show _=bindF _ _
 conv=>rhs;simp only [zBU,bindF_ifB,bindF_bindO,bindF_pure,bindF_none,bindF_onSum]
 kernel_rfl
theorem zBU.ok (N:Nat):ConOk Tryz.prog TB 67 [.one,.one,.one] (zBU.con N):=ok3 (g:=zBU.cfg N) (N:=N) (res:=[]) tys_ok (zBU.cons N) mixed Tryz.func67 (zBU.ls N) rfl (zBU.b N)
theorem zBU.det (N:Nat):ConDet (zBU.con N):=det3
def zAH.sk1:Skel:=⟨.ptr 0 []::(dd 1 (.pv (.int .i64)::(dd 3 (.pv (.int .i64)::(dd 9 []))))),[⟨0,s24,(.pr .imm (.pr .imm (.pr (.own .imm) .imm))),true,false⟩]⟩
def zAH.xs1:List XS:=[⟨.exit 0,[],⟨dd 16 [],[⟨0,s24,(.pr .imm (.pr .imm (.pr (.own .imm) .imm))),true,false⟩]⟩⟩]
def zAH.con (N:Nat):Con:={ modes:=[.io,.v,.v],ptrs:=[],fn:=fn3 s24 (.pr .imm (.pr .imm (.pr (.own .imm) .imm))) (.int .i64) .imm (.int .i64) .imm (zAH N) (fun r=>[]) (fun r=>[⟨s24,(.pr .imm (.pr .imm (.pr (.own .imm) .imm))),r⟩]) }
def zAH.cfg (N:Nat):Cfg:={ ty:=tys,keep:=[15],flt:=[],elm:=elm0,live:=[(1,[0,2,6])],ord:=[],con:=[((67,[.one,.one,.one]),zBU.con N)],loops:=[(1,loopCon N zAH.sk1 zAH.xs1 (fun {R}=>zAH.l1 (R:=R) N))],joins:=[] }
theorem zAH.cons (N:Nat):ConsOk Tryz.prog TB (zAH.cfg N).con:=(consOk_cons (hb67) (zBU.ok N) (zBU.det N) consOk_nil)
theorem zAH.h1 {R:Type} (N:Nat) (d:zAH.sk1.D) (kn:zAH.sk1.D->Option R) (kx:XD zAH.xs1->Option R):roundK (zAH.cfg N) N (nthLoop (fnBody Tryz.f84) 0) zAH.sk1 zAH.xs1 d kn kx=zAH.l1 N d kn kx:=by kernel_rfl
theorem zAH.i1 (N:Nat):LoopsOk Tryz.prog TB (zAH.cfg N) (nthLoop (fnBody Tryz.f84) 0):=loopsL (l:=[]) (by kernel_rfl) trivial
theorem zAH.o1 (N:Nat):LoopOk Tryz.prog TB (nthLoop (fnBody Tryz.f84) 0) (loopCon N zAH.sk1 zAH.xs1 (fun {R}=>zAH.l1 (R:=R) N)):=loop_ok (g:=zAH.cfg N) tys_ok (zAH.cons N) mixed (zAH.i1 N) (fun d kn kx=>zAH.h1 N d kn kx)
theorem zAH.ls (N:Nat):LoopsOk Tryz.prog TB (zAH.cfg N) (fnBody Tryz.f84):=loopsL (l:=[nthLoop (fnBody Tryz.f84) 0]) (by kernel_rfl) ⟨loopOne (L0:=loopCon N zAH.sk1 zAH.xs1 (fun {R}=>zAH.l1 (R:=R) N)) (id:=1) (by kernel_rfl) (by kernel_rfl) (zAH.o1 N),trivial⟩
theorem zAH.q1 {R R':Type} {N n:Nat} {d} {k} {g:R->Option R'}:bindF (loopP (zAH.l1 N) n d k) g=loopP (zAH.l1 N) n d fun e=>bindF (k e) g:=bindF_loopP (fun d kn kx=>by simp only [zAH.l1,bindF_ifB,bindF_bindO,bindF_pure,bindF_none,bindF_onSum]) n d k
theorem zAH.b (N:Nat) (x0:den s24) (x1:den (.int .i64)) (x2:den (.int .i64)):body (zAH.cfg N) N Tryz.f84 [.one,.one,.one] [.io,.v,.v] [] [⟨s24,(.pr .imm (.pr .imm (.pr (.own .imm) .imm))),x0⟩,⟨(.int .i64),.imm,x1⟩,⟨(.int .i64),.imm,x2⟩] (fun r i=>some (r,i))=bindO (zAH N x0 x1 x2) fun r=>some ([],[⟨s24,(.pr .imm (.pr .imm (.pr (.own .imm) .imm))),r⟩]):=by
 show _=bindF _ _
 conv=>rhs;simp only [zAH,bindF_ifB,bindF_bindO,bindF_pure,bindF_none,bindF_onSum,zAH.q1]
 kernel_rfl
theorem zAH.ok (N:Nat):ConOk Tryz.prog TB 84 [.one,.one,.one] (zAH.con N):=ok3 (g:=zAH.cfg N) (N:=N) (res:=[]) tys_ok (zAH.cons N) mixed Tryz.func84 (zAH.ls N) rfl (zAH.b N)
theorem zAH.det (N:Nat):ConDet (zAH.con N):=det3
def zBF.con (N:Nat):Con:={ modes:=[.io,.v,.tk],ptrs:=[],fn:=fn3 s24 (.pr .imm (.pr .imm (.pr (.own .imm) .imm))) (.int .i64) .imm s40 (.own .imm) (zBF N) (fun r=>[]) (fun r=>[⟨s24,(.pr .imm (.pr .imm (.pr (.own .imm) .imm))),r⟩]) }
def zBF.cfg (N:Nat):Cfg:={ ty:=tys,keep:=[128,143,149],flt:=[],elm:=elm0,live:=[],ord:=[(2,[0,1,2,3,4,5,6,7,8,9,10,11,12,13,14,15,16,17,18,19,20,21,22,23,24]),(7,[0,1,2,3,4,5,6,7,8,9,10,11,12,13,14,15]),(9,[0,1,2,3,4,5,6,7,8,9,10,11,12,13,14,15]),(14,[0,1,2,3,5,6,7,8,4,9,10,11,12,13]),(18,[0,1,2,3,4,5,6,7,8,9,10,11,12])],con:=[((84,[.one,.one,.one]),zAH.con N),((20,[.one,.one,.one]),zB7.con N)],loops:=[],joins:=[] }
theorem zBF.cons (N:Nat):ConsOk Tryz.prog TB (zBF.cfg N).con:=(consOk_cons (hb84) (zAH.ok N) (zAH.det N) (consOk_cons (hb20) (zB7.ok N) (zB7.det N) consOk_nil))
theorem zBF.ls (N:Nat):LoopsOk Tryz.prog TB (zBF.cfg N) (fnBody Tryz.f64):=loopsL (l:=[]) (by kernel_rfl) trivial
theorem zBF.b (N:Nat) (x0:den s24) (x1:den (.int .i64)) (x2:den s40):body (zBF.cfg N) N Tryz.f64 [.one,.one,.one] [.io,.v,.tk] [] [⟨s24,(.pr .imm (.pr .imm (.pr (.own .imm) .imm))),x0⟩,⟨(.int .i64),.imm,x1⟩,⟨s40,(.own .imm),x2⟩] (fun r i=>some (r,i))=bindO (zBF N x0 x1 x2) fun r=>some ([],[⟨s24,(.pr .imm (.pr .imm (.pr (.own .imm) .imm))),r⟩]):=by
 show _=bindF _ _
 conv=>rhs;simp only [zBF,bindF_ifB,bindF_bindO,bindF_pure,bindF_none,bindF_onSum]
 kernel_rfl
theorem zBF.ok (N:Nat):ConOk Tryz.prog TB 64 [.one,.one,.one] (zBF.con N):=ok3 (g:=zBF.cfg N) (N:=N) (res:=[]) tys_ok (zBF.cons N) mixed Tryz.func64 (zBF.ls N) rfl (zBF.b N)
theorem zBF.det (N:Nat):ConDet (zBF.con N):=det3
def zAF.sk3:Skel:=⟨.ptr 0 []::(.pv s40::(dd 3 (.ov 50 []::(.pv (.int .i64)::(dd 4 (.pv s40::(.pv (.int .i64)::(.pv (.int .i64)::(dd 44 []))))))))),[⟨0,s24,(.pr .imm (.pr .imm (.pr (.own .imm) .imm))),true,false⟩,⟨50,s40,(.own .imm),false,false⟩]⟩
def zAF.xs3:List XS:=[⟨.exit 0,[1],⟨dd 1 (.pv s40::(dd 56 [])),[⟨0,s24,(.pr .imm (.pr .imm (.pr (.own .imm) .imm))),true,false⟩]⟩⟩,⟨.ret,[4],⟨dd 4 (.pv (.int .i64)::(dd 53 [])),[⟨0,s24,(.pr .imm (.pr .imm (.pr (.own .imm) .imm))),true,false⟩]⟩⟩]
def zAF.con (N:Nat):Con:={ modes:=[.io,.v],ptrs:=[false],fn:=fn2 s24 (.pr .imm (.pr .imm (.pr (.own .imm) .imm))) s40 .imm (zAF N) (fun r=>[⟨(.int .i64),.imm,r.1⟩]) (fun r=>[⟨s24,(.pr .imm (.pr .imm (.pr (.own .imm) .imm))),r.2⟩]) }
def zAF.cfg (N:Nat):Cfg:={ ty:=tys,keep:=[29,24],flt:=[],elm:=elm0,live:=[(3,[0,1,5,6,11,12,13])],ord:=[],con:=[((20,[.one,.one,.one]),zB7.con N),((64,[.one,.one,.one]),zBF.con N)],loops:=[(3,loopCon N zAF.sk3 zAF.xs3 (fun {R}=>zAF.l3 (R:=R) N))],joins:=[(15,[⟨.normal,[0,1,5,6,11,12,13],⟨.ptr 0 []::(.pv s40::(dd 3 (.ov 50 []::(.pv (.int .i64)::(dd 4 (.pv s40::(.pv (.int .i64)::(.pv (.int .i64)::(dd 44 []))))))))),[⟨0,s24,(.pr .imm (.pr .imm (.pr (.own .imm) .imm))),true,false⟩,⟨50,s40,(.own .imm),false,false⟩]⟩⟩,⟨.ret,[4],⟨dd 4 (.pv (.int .i64)::(dd 53 [])),[⟨0,s24,(.pr .imm (.pr .imm (.pr (.own .imm) .imm))),true,false⟩]⟩⟩])] }
theorem zAF.cons (N:Nat):ConsOk Tryz.prog TB (zAF.cfg N).con:=(consOk_cons (hb20) (zB7.ok N) (zB7.det N) (consOk_cons (hb64) (zBF.ok N) (zBF.det N) consOk_nil))
theorem zAF.h3 {R:Type} (N:Nat) (d:zAF.sk3.D) (kn:zAF.sk3.D->Option R) (kx:XD zAF.xs3->Option R):roundK (zAF.cfg N) N (nthLoop (fnBody Tryz.f27) 0) zAF.sk3 zAF.xs3 d kn kx=zAF.l3 N d kn kx:=by kernel_rfl
theorem zAF.i3 (N:Nat):LoopsOk Tryz.prog TB (zAF.cfg N) (nthLoop (fnBody Tryz.f27) 0):=loopsL (l:=[]) (by kernel_rfl) trivial
theorem zAF.o3 (N:Nat):LoopOk Tryz.prog TB (nthLoop (fnBody Tryz.f27) 0) (loopCon N zAF.sk3 zAF.xs3 (fun {R}=>zAF.l3 (R:=R) N)):=loop_ok (g:=zAF.cfg N) tys_ok (zAF.cons N) mixed (zAF.i3 N) (fun d kn kx=>zAF.h3 N d kn kx)
theorem zAF.ls (N:Nat):LoopsOk Tryz.prog TB (zAF.cfg N) (fnBody Tryz.f27):=loopsL (l:=[nthLoop (fnBody Tryz.f27) 0]) (by kernel_rfl) ⟨loopOne (L0:=loopCon N zAF.sk3 zAF.xs3 (fun {R}=>zAF.l3 (R:=R) N)) (id:=3) (by kernel_rfl) (by kernel_rfl) (zAF.o3 N),trivial⟩
theorem zAF.q3 {R R':Type} {N n:Nat} {d} {k} {g:R->Option R'}:bindF (loopP (zAF.l3 N) n d k) g=loopP (zAF.l3 N) n d fun e=>bindF (k e) g:=bindF_loopP (fun d kn kx=>by simp only [zAF.l3,bindF_ifB,bindF_bindO,bindF_pure,bindF_none,bindF_onSum]) n d k
theorem zAF.b (N:Nat) (x0:den s24) (x1:den s40):body (zAF.cfg N) N Tryz.f27 [.one,.one] [.io,.v] [(false,.imm)] [⟨s24,(.pr .imm (.pr .imm (.pr (.own .imm) .imm))),x0⟩,⟨s40,.imm,x1⟩] (fun r i=>some (r,i))=bindO (zAF N x0 x1) fun r=>some ([⟨(.int .i64),.imm,r.1⟩],[⟨s24,(.pr .imm (.pr .imm (.pr (.own .imm) .imm))),r.2⟩]):=by
 show _=bindF _ _
 conv=>rhs;simp only [zAF,bindF_ifB,bindF_bindO,bindF_pure,bindF_none,bindF_onSum,zAF.q3]
 kernel_rfl
theorem zAF.ok (N:Nat):ConOk Tryz.prog TB 27 [.one,.one] (zAF.con N):=ok2 (g:=zAF.cfg N) (N:=N) (res:=[(false,.imm)]) tys_ok (zAF.cons N) mixed Tryz.func27 (zAF.ls N) rfl (zAF.b N)
theorem zAF.det (N:Nat):ConDet (zAF.con N):=det2
def zBN.con (N:Nat):Con:={ modes:=[.io],ptrs:=[],fn:=fn1 s24 (.pr .imm (.pr .imm (.pr (.own .imm) .imm))) (zBN N) (fun r=>[]) (fun r=>[⟨s24,(.pr .imm (.pr .imm (.pr (.own .imm) .imm))),r⟩]) }
def zBN.cfg (N:Nat):Cfg:={ ty:=tys,keep:=[],flt:=[],elm:=elm0,live:=[],ord:=[(0,[0,1,2,3,4,5,6,7,8,9]),(2,[0,1,2,3,4,5,6,7,8,9,10,11,12,13,14,15,16,17])],con:=[],loops:=[],joins:=[] }
theorem zBN.cons (N:Nat):ConsOk Tryz.prog TB (zBN.cfg N).con:=consOk_nil
theorem zBN.ls (N:Nat):LoopsOk Tryz.prog TB (zBN.cfg N) (fnBody Tryz.f28):=loopsL (l:=[]) (by kernel_rfl) trivial
theorem zBN.b (N:Nat) (x0:den s24):body (zBN.cfg N) N Tryz.f28 [.one] [.io] [] [⟨s24,(.pr .imm (.pr .imm (.pr (.own .imm) .imm))),x0⟩] (fun r i=>some (r,i))=bindO (zBN N x0) fun r=>some ([],[⟨s24,(.pr .imm (.pr .imm (.pr (.own .imm) .imm))),r⟩]):=by
 show _=bindF _ _
 conv=>rhs;simp only [zBN,bindF_ifB,bindF_bindO,bindF_pure,bindF_none,bindF_onSum]
 kernel_rfl
theorem zBN.ok (N:Nat):ConOk Tryz.prog TB 28 [.one] (zBN.con N):=ok1 (g:=zBN.cfg N) (N:=N) (res:=[]) tys_ok (zBN.cons N) mixed Tryz.func28 (zBN.ls N) rfl (zBN.b N)
theorem zBN.det (N:Nat):ConDet (zBN.con N):=det1
end Go.AE.F
end
