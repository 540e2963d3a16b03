/- The printed functions are what the program comes to: contracts. -/
import Derived.Test.YtkknmokglbhheaaGreatLMachineL1
noncomputable section
namespace Go.AE.F
open Go.AE Go.Proofs
set_option maxRecDepth 100000
def zBL.con (N:Nat):Con:={ modes:=[.rd],ptrs:=[false],fn:=fn1 s90 .imm (zBL N) (fun r=>[⟨(.int .i64),.imm,r⟩]) (fun r=>[]) }
def zBL.cfg (N:Nat):Cfg:={ ty:=tys,keep:=[],flt:=[],elm:=elm0,live:=[],ord:=[],con:=[],loops:=[],joins:=[] }
theorem zBL.cons (N:Nat):ConsOk Tryz.prog (zBL.cfg N).con:=consOk_nil
theorem zBL.ls (N:Nat):LoopsOk Tryz.prog (zBL.cfg N) (fnBody Tryz.f77):=loopsL (l:=[]) (by kernel_rfl) trivial
theorem zBL.b (N:Nat) (x0:den s90):body (zBL.cfg N) N Tryz.f77 [.one] [.rd] [(false,.imm)] [⟨s90,.imm,x0⟩] (fun r i=>some (r,i))=bindO (zBL N x0) fun r=>some ([⟨(.int .i64),.imm,r⟩],[]):=by
  show _=bindF _ _
  conv=>rhs;simp only [zBL,bindF_ifB,bindF_bindO,bindF_pure,bindF_none,bindF_onSum]
  kernel_rfl
theorem zBL.ok (N:Nat):ConOk Tryz.prog 77 [.one] (zBL.con N):=ok1 (g:=zBL.cfg N) (N:=N) (res:=[(false,.imm)]) tys_ok (zBL.cons N) mixed Tryz.func77 (zBL.ls N) rfl (zBL.b N)
theorem zBL.det (N:Nat):ConDet (zBL.con N):=det1
def zAM.sk2:Skel:=⟨.rp s90::(.pv .str::(dd 3 (.pv (.int .i64)::(dd 19 [])))),[]⟩
def zAM.xs2:List XS:=[⟨.exit 0,[],⟨dd 25 [],[]⟩⟩,⟨.ret,[4],⟨dd 4 (.pv (.int .i64)::(dd 20 [])),[]⟩⟩]
def zAM.con (N:Nat):Con:={ modes:=[.rd,.v],ptrs:=[false],fn:=fn2 s90 .imm .str .imm (zAM N) (fun r=>[⟨(.int .i64),.imm,r⟩]) (fun r=>[]) }
def zAM.cfg (N:Nat):Cfg:={ ty:=tys,keep:=[],flt:=[],elm:=elm0,live:=[(2,[0,1,5])],ord:=[],con:=[],loops:=[(2,loopCon N zAM.sk2 zAM.xs2 (fun {R}=>zAM.l2 (R:=R) N))],joins:=[] }
theorem zAM.cons (N:Nat):ConsOk Tryz.prog (zAM.cfg N).con:=consOk_nil
theorem zAM.h2 {R:Type} (N:Nat) (d:zAM.sk2.D) (kn:zAM.sk2.D→Option R) (kx:XD zAM.xs2→Option R):roundK (zAM.cfg N) N (nthLoop (fnBody Tryz.f78) 0) zAM.sk2 zAM.xs2 d kn kx=zAM.l2 N d kn kx:=by kernel_rfl
theorem zAM.i2 (N:Nat):LoopsOk Tryz.prog (zAM.cfg N) (nthLoop (fnBody Tryz.f78) 0):=loopsL (l:=[]) (by kernel_rfl) trivial
theorem zAM.o2 (N:Nat):LoopOk Tryz.prog (nthLoop (fnBody Tryz.f78) 0) (loopCon N zAM.sk2 zAM.xs2 (fun {R}=>zAM.l2 (R:=R) N)):=loop_ok (g:=zAM.cfg N) tys_ok (zAM.cons N) mixed (zAM.i2 N) (fun d kn kx=>zAM.h2 N d kn kx)
theorem zAM.ls (N:Nat):LoopsOk Tryz.prog (zAM.cfg N) (fnBody Tryz.f78):=loopsL (l:=[nthLoop (fnBody Tryz.f78) 0]) (by kernel_rfl) ⟨loopOne (L0:=loopCon N zAM.sk2 zAM.xs2 (fun {R}=>zAM.l2 (R:=R) N)) (id:=2) (by kernel_rfl) (by kernel_rfl) (zAM.o2 N),trivial⟩
theorem zAM.q2 {R R':Type} {N n:Nat} {d} {k} {g:R→Option R'}:bindF (loopP (zAM.l2 N) n d k) g=loopP (zAM.l2 N) n d fun e=>bindF (k e) g:=bindF_loopP (fun d kn kx=>by simp only [zAM.l2,bindF_ifB,bindF_bindO,bindF_pure,bindF_none,bindF_onSum]) n d k
theorem zAM.b (N:Nat) (x0:den s90) (x1:den .str):body (zAM.cfg N) N Tryz.f78 [.one,.one] [.rd,.v] [(false,.imm)] [⟨s90,.imm,x0⟩,⟨.str,.imm,x1⟩] (fun r i=>some (r,i))=bindO (zAM N x0 x1) fun r=>some ([⟨(.int .i64),.imm,r⟩],[]):=by
  show _=bindF _ _
  conv=>rhs;simp only [zAM,bindF_ifB,bindF_bindO,bindF_pure,bindF_none,bindF_onSum,zAM.q2]
  kernel_rfl
theorem zAM.ok (N:Nat):ConOk Tryz.prog 78 [.one,.one] (zAM.con N):=ok2 (g:=zAM.cfg N) (N:=N) (res:=[(false,.imm)]) tys_ok (zAM.cons N) mixed Tryz.func78 (zAM.ls N) rfl (zAM.b N)
theorem zAM.det (N:Nat):ConDet (zAM.con N):=det2
def zD9.con (N:Nat):Con:={ modes:=[.v],ptrs:=[false],fn:=fn1 (.int .i64) .imm (zD9 N) (fun r=>[⟨(.int .i64),.imm,r⟩]) (fun r=>[]) }
def zD9.cfg (N:Nat):Cfg:={ ty:=tys,keep:=[],flt:=[],elm:=elm0,live:=[],ord:=[],con:=[],loops:=[],joins:=[] }
theorem zD9.cons (N:Nat):ConsOk Tryz.prog (zD9.cfg N).con:=consOk_nil
theorem zD9.ls (N:Nat):LoopsOk Tryz.prog (zD9.cfg N) (fnBody Tryz.f79):=loopsL (l:=[]) (by kernel_rfl) trivial
theorem zD9.b (N:Nat) (x0:den (.int .i64)):body (zD9.cfg N) N Tryz.f79 [.one] [.v] [(false,.imm)] [⟨(.int .i64),.imm,x0⟩] (fun r i=>some (r,i))=bindO (zD9 N x0) fun r=>some ([⟨(.int .i64),.imm,r⟩],[]):=by
  show _=bindF _ _
  conv=>rhs;simp only [zD9,bindF_ifB,bindF_bindO,bindF_pure,bindF_none,bindF_onSum]
  kernel_rfl
theorem zD9.ok (N:Nat):ConOk Tryz.prog 79 [.one] (zD9.con N):=ok1 (g:=zD9.cfg N) (N:=N) (res:=[(false,.imm)]) tys_ok (zD9.cons N) mixed Tryz.func79 (zD9.ls N) rfl (zD9.b N)
theorem zD9.det (N:Nat):ConDet (zD9.con N):=det1
def zAA.sk25:Skel:=⟨.ptr 0 []::(dd 4 (.ptr 50 []::(.pv (.int .i64)::(dd 4 (.pv (.int .i64)::(dd 149 [])))))),[⟨0,s90,(.pr .imm (.pr .imm (.pr (.own .imm) .imm))),true,false⟩,⟨50,s70,.imm,true,false⟩]⟩
def zAA.xs25:List XS:=[⟨.exit 1,[0,5,6],⟨.ptr 0 []::(dd 4 (.ptr 50 []::(.pv (.int .i64)::(dd 154 [])))),[⟨0,s90,(.pr .imm (.pr .imm (.pr (.own .imm) .imm))),true,false⟩,⟨50,s70,.imm,true,false⟩]⟩⟩]
def zAA.con (N:Nat):Con:={ modes:=[.io,.v],ptrs:=[false],fn:=fun ds k=>match ds with | [d0,d1]=>castDm s90 (.pr .imm (.pr .imm (.pr (.own .imm) .imm))) d0 fun x0=>castDm (.int .i64) .imm d1 fun x1=>bindO (zAA N x0 x1) fun r=>k [⟨(.int .i64),.imm,r.1⟩] [⟨s90,(.pr .imm (.pr .imm (.pr (.own .imm) .imm))),r.2⟩] | _=>none }
theorem zAA.det (N:Nat):ConDet (zAA.con N):=by
  intro ds R k y h
  cases ds with
  | nil=>exact none_some h
  | cons d0 ds =>
  cases ds with
  | nil=>exact none_some h
  | cons d1 ds =>
  cases ds with
  | cons _ _=>exact none_some h
  | nil =>
  have h0:(castDm s90 (.pr .imm (.pr .imm (.pr (.own .imm) .imm))) d0 fun x0=>castDm (.int .i64) .imm d1 fun x1=>bindO (zAA N x0 x1) fun r=>k [⟨(.int .i64),.imm,r.1⟩] [⟨s90,(.pr .imm (.pr .imm (.pr (.own .imm) .imm))),r.2⟩])=some y:=h
  clear h
  obtain ⟨x0,rfl,h1⟩:=castDm_eq h0
  obtain ⟨x1,rfl,h2⟩:=castDm_eq h1
  obtain ⟨r,e,h⟩:=bindO_some h2
  refine ⟨_,_,h,fun k'=>?_⟩
  show (castDm s90 (.pr .imm (.pr .imm (.pr (.own .imm) .imm))) (⟨s90,(.pr .imm (.pr .imm (.pr (.own .imm) .imm))),x0⟩:Dy) fun x0=>castDm (.int .i64) .imm (⟨(.int .i64),.imm,x1⟩:Dy) fun x1=>bindO (zAA N x0 x1) fun r=>k' [⟨(.int .i64),.imm,r.1⟩] [⟨s90,(.pr .imm (.pr .imm (.pr (.own .imm) .imm))),r.2⟩])=_
  simp only [castDm_self]
  rw [e]
  rfl
def zAA.cfg (N:Nat):Cfg:={ ty:=tys,keep:=[20,29,31,34,39,46,51,58,67,74,77,79,82,85,92,104,113,114,123,124,132,140,141,149,153,158,159],flt:=[],elm:=elm0,live:=[(25,[0,5,6,11])],ord:=[(11,[0,1,2,3,4,5,6,7,8,9]),(13,[0,1,2,3,4,5,6,7,8,9]),(14,[0,1,2,3,4,5,6,7,8,9]),(22,[0,1,2,3,4,5,6,7,8,9])],con:=[((76,[.one,.one,.one]),zBD.con N),((48,[.one,.one]),zAA.con N),((77,[.one]),zBL.con N),((78,[.one,.one]),zAM.con N),((55,[.one]),zAU.con N),((79,[.one]),zD9.con N)],loops:=[(25,loopCon N zAA.sk25 zAA.xs25 (fun {R}=>zAA.l25 (R:=R) N (zAA N)))],joins:=[(40,[⟨.normal,[6],⟨dd 6 (.pv (.int .i64)::(dd 154 [])),[⟨0,s90,(.pr .imm (.pr .imm (.pr (.own .imm) .imm))),true,false⟩]⟩⟩])] }
theorem zAA.cons (N:Nat) (h:ConOk Tryz.prog 48 [.one,.one] (zAA.con N)):ConsOk Tryz.prog (zAA.cfg N).con:=(consOk_cons (hb76) (zBD.ok N) (zBD.det N) (consOk_cons (hb48) h (zAA.det N) (consOk_cons (hb77) (zBL.ok N) (zBL.det N) (consOk_cons (hb78) (zAM.ok N) (zAM.det N) (consOk_cons (hb55) (zAU.ok N) (zAU.det N) (consOk_cons (hb79) (zD9.ok N) (zD9.det N) consOk_nil))))))
theorem zAA.h25 {R:Type} (N:Nat) (d:zAA.sk25.D) (kn:zAA.sk25.D→Option R) (kx:XD zAA.xs25→Option R):roundK (zAA.cfg N) N (nthLoop (fnBody Tryz.f48) 0) zAA.sk25 zAA.xs25 d kn kx=zAA.l25 N (zAA N) d kn kx:=by kernel_rfl
theorem zAA.i25 (N:Nat) (h:ConOk Tryz.prog 48 [.one,.one] (zAA.con N)):LoopsOk Tryz.prog (zAA.cfg N) (nthLoop (fnBody Tryz.f48) 0):=loopsL (l:=[]) (by kernel_rfl) trivial
theorem zAA.o25 (N:Nat) (h:ConOk Tryz.prog 48 [.one,.one] (zAA.con N)):LoopOk Tryz.prog (nthLoop (fnBody Tryz.f48) 0) (loopCon N zAA.sk25 zAA.xs25 (fun {R}=>zAA.l25 (R:=R) N (zAA N))):=loop_ok (g:=zAA.cfg N) tys_ok (zAA.cons N h) mixed (zAA.i25 N h) (fun d kn kx=>zAA.h25 N d kn kx)
theorem zAA.ls (N:Nat) (h:ConOk Tryz.prog 48 [.one,.one] (zAA.con N)):LoopsOk Tryz.prog (zAA.cfg N) (fnBody Tryz.f48):=loopsL (l:=[nthLoop (fnBody Tryz.f48) 0]) (by kernel_rfl) ⟨loopOne (L0:=loopCon N zAA.sk25 zAA.xs25 (fun {R}=>zAA.l25 (R:=R) N (zAA N))) (id:=25) (by kernel_rfl) (by kernel_rfl) (zAA.o25 N h),trivial⟩
theorem zAA.q25 {R R':Type} {N n:Nat} {rc} {d} {k} {g:R→Option R'}:bindF (loopP (zAA.l25 N rc) n d k) g=loopP (zAA.l25 N rc) n d fun e=>bindF (k e) g:=bindF_loopP (fun d kn kx=>by simp only [zAA.l25,bindF_ifB,bindF_bindO,bindF_pure,bindF_none,bindF_onSum]) n d k
theorem zAA.b (N:Nat) (x0:den s90) (x1:den (.int .i64)):body (zAA.cfg N) N Tryz.f48 [.one,.one] [.io,.v] [(false,.imm)] [⟨s90,(.pr .imm (.pr .imm (.pr (.own .imm) .imm))),x0⟩,⟨(.int .i64),.imm,x1⟩] (fun r i=>some (r,i))=bindO (zAA.st N (zAA N) x0 x1) fun r=>some ([⟨(.int .i64),.imm,r.1⟩],[⟨s90,(.pr .imm (.pr .imm (.pr (.own .imm) .imm))),r.2⟩]):=by
  show _=bindF _ _
  conv=>rhs;simp only [zAA.st,bindF_ifB,bindF_bindO,bindF_pure,bindF_none,bindF_onSum,zAA.q25]
  kernel_rfl
theorem zAA.ok0:ConOk Tryz.prog 48 [.one,.one] (zAA.con 0):=by
  intro w m H vs fl ds hp ha hc hH hD R k y h
  cases ds with
  | nil=>exact none_some h
  | cons d0 ds =>
  cases ds with
  | nil=>exact none_some h
  | cons d1 ds =>
  cases ds with
  | cons _ _=>exact none_some h
  | nil =>
  have h0:(castDm s90 (.pr .imm (.pr .imm (.pr (.own .imm) .imm))) d0 fun x0=>castDm (.int .i64) .imm d1 fun x1=>bindO (zAA 0 x0 x1) fun r=>k [⟨(.int .i64),.imm,r.1⟩] [⟨s90,(.pr .imm (.pr .imm (.pr (.own .imm) .imm))),r.2⟩])=some y:=h
  clear h
  obtain ⟨x0,rfl,h1⟩:=castDm_eq h0
  obtain ⟨x1,rfl,h2⟩:=castDm_eq h1
  exact none_some h2
theorem zAA.okS (N:Nat) (h:ConOk Tryz.prog 48 [.one,.one] (zAA.con N)):ConOk Tryz.prog 48 [.one,.one] (zAA.con (N+1)):=by
  refine conOk_mk (g:=zAA.cfg N) (N:=N) (res:=[(false,.imm)]) tys_ok (zAA.cons N h) mixed Tryz.func48 (zAA.ls N h) rfl rfl ?_
  intro ds R k y h
  cases ds with
  | nil=>exact none_some h
  | cons d0 ds =>
  cases ds with
  | nil=>exact none_some h
  | cons d1 ds =>
  cases ds with
  | cons _ _=>exact none_some h
  | nil =>
  have h0:(castDm s90 (.pr .imm (.pr .imm (.pr (.own .imm) .imm))) d0 fun x0=>castDm (.int .i64) .imm d1 fun x1=>bindO (zAA.st N (zAA N) x0 x1) fun r=>k [⟨(.int .i64),.imm,r.1⟩] [⟨s90,(.pr .imm (.pr .imm (.pr (.own .imm) .imm))),r.2⟩])=some y:=h
  clear h
  obtain ⟨x0,rfl,h1⟩:=castDm_eq h0
  obtain ⟨x1,rfl,h2⟩:=castDm_eq h1
  exact con_fin (zAA.b N x0 x1) h2
theorem zAA.okA:∀ N:Nat,ConOk Tryz.prog 48 [.one,.one] (zAA.con N)
| 0=>zAA.ok0
| N+1=>zAA.okS N (zAA.okA N)
theorem zAA.ok (N:Nat):ConOk Tryz.prog 48 [.one,.one] (zAA.con N):=(zAA.okA N)
def zDB.con (N:Nat):Con:={ modes:=[.v],ptrs:=[false],fn:=fn1 s51 .imm (zDB N) (fun r=>[⟨s23,(.own .imm),r⟩]) (fun r=>[]) }
def zDB.cfg (N:Nat):Cfg:={ ty:=tys,keep:=[],flt:=[],elm:=elm0,live:=[],ord:=[],con:=[((46,[.one]),zCE.con N),((47,[.one]),zAL.con N),((48,[.one,.one]),zAA.con N)],loops:=[],joins:=[] }
theorem zDB.cons (N:Nat):ConsOk Tryz.prog (zDB.cfg N).con:=(consOk_cons (hb46) (zCE.ok N) (zCE.det N) (consOk_cons (hb47) (zAL.ok N) (zAL.det N) (consOk_cons (hb48) (zAA.ok N) (zAA.det N) consOk_nil)))
theorem zDB.ls (N:Nat):LoopsOk Tryz.prog (zDB.cfg N) (fnBody Tryz.f21):=loopsL (l:=[]) (by kernel_rfl) trivial
theorem zDB.b (N:Nat) (x0:den s51):body (zDB.cfg N) N Tryz.f21 [.one] [.v] [(false,(.own .imm))] [⟨s51,.imm,x0⟩] (fun r i=>some (r,i))=bindO (zDB N x0) fun r=>some ([⟨s23,(.own .imm),r⟩],[]):=by
  show _=bindF _ _
  conv=>rhs;simp only [zDB,bindF_ifB,bindF_bindO,bindF_pure,bindF_none,bindF_onSum]
  kernel_rfl
theorem zDB.ok (N:Nat):ConOk Tryz.prog 21 [.one] (zDB.con N):=ok1 (g:=zDB.cfg N) (N:=N) (res:=[(false,(.own .imm))]) tys_ok (zDB.cons N) mixed Tryz.func21 (zDB.ls N) rfl (zDB.b N)
theorem zDB.det (N:Nat):ConDet (zDB.con N):=det1
def zA4.sk17:Skel:=⟨dd 3 (.ov 50 []::(dd 1 (.pv (.int .i64)::(dd 83 [])))),[⟨0,s48,.imm,true,false⟩,⟨50,s23,(.own .imm),false,false⟩]⟩
def zA4.xs17:List XS:=[⟨.exit 1,[3],⟨dd 3 (.ov 50 []::(dd 85 [])),[⟨0,s48,.imm,true,false⟩,⟨50,s23,(.own .imm),false,false⟩]⟩⟩]
def zA4.sk20:Skel:=⟨dd 3 (.ov 50 []::(dd 85 [])),[⟨0,s48,.imm,true,false⟩,⟨50,s23,(.own .imm),false,false⟩]⟩
def zA4.xs20:List XS:=[⟨.exit 3,[3],⟨dd 3 (.ov 50 []::(dd 85 [])),[⟨0,s48,.imm,true,false⟩,⟨50,s23,(.own .imm),false,false⟩]⟩⟩]
def zA4.con (N:Nat):Con:={ modes:=[.io],ptrs:=[false],fn:=fn1 s48 .imm (zA4 N) (fun r=>[⟨s23,(.own .imm),r.1⟩]) (fun r=>[⟨s48,.imm,r.2⟩]) }
def zA4.cfg (N:Nat):Cfg:={ ty:=tys,keep:=[8,9,12,21,23,38,40,30,64,68,71],flt:=[],elm:=elm0,live:=[(20,[3]),(17,[3,5])],ord:=[(9,[0,1,2,3,4,5,6,7,8])],con:=[((22,[.one]),zA3.con N),((21,[.one]),zDB.con N),((23,[.one,.one]),zAI.con N),((24,[.one,.one]),zA9.con N)],loops:=[(17,loopCon N zA4.sk17 zA4.xs17 (fun {R}=>zA4.l17 (R:=R) N)),(20,loopCon N zA4.sk20 zA4.xs20 (fun {R}=>zA4.l20 (R:=R) N))],joins:=[] }
theorem zA4.cons (N:Nat):ConsOk Tryz.prog (zA4.cfg N).con:=(consOk_cons (hb22) (zA3.ok N) (zA3.det N) (consOk_cons (hb21) (zDB.ok N) (zDB.det N) (consOk_cons (hb23) (zAI.ok N) (zAI.det N) (consOk_cons (hb24) (zA9.ok N) (zA9.det N) consOk_nil))))
theorem zA4.h20 {R:Type} (N:Nat) (d:zA4.sk20.D) (kn:zA4.sk20.D→Option R) (kx:XD zA4.xs20→Option R):roundK (zA4.cfg N) N (nthLoop (fnBody Tryz.f11) 1) zA4.sk20 zA4.xs20 d kn kx=zA4.l20 N d kn kx:=by kernel_rfl
theorem zA4.i20 (N:Nat):LoopsOk Tryz.prog (zA4.cfg N) (nthLoop (fnBody Tryz.f11) 1):=loopsL (l:=[]) (by kernel_rfl) trivial
theorem zA4.o20 (N:Nat):LoopOk Tryz.prog (nthLoop (fnBody Tryz.f11) 1) (loopCon N zA4.sk20 zA4.xs20 (fun {R}=>zA4.l20 (R:=R) N)):=loop_ok (g:=zA4.cfg N) tys_ok (zA4.cons N) mixed (zA4.i20 N) (fun d kn kx=>zA4.h20 N d kn kx)
theorem zA4.h17 {R:Type} (N:Nat) (d:zA4.sk17.D) (kn:zA4.sk17.D→Option R) (kx:XD zA4.xs17→Option R):roundK (zA4.cfg N) N (nthLoop (fnBody Tryz.f11) 0) zA4.sk17 zA4.xs17 d kn kx=zA4.l17 N d kn kx:=by kernel_rfl
theorem zA4.i17 (N:Nat):LoopsOk Tryz.prog (zA4.cfg N) (nthLoop (fnBody Tryz.f11) 0):=loopsL (l:=[]) (by kernel_rfl) trivial
theorem zA4.o17 (N:Nat):LoopOk Tryz.prog (nthLoop (fnBody Tryz.f11) 0) (loopCon N zA4.sk17 zA4.xs17 (fun {R}=>zA4.l17 (R:=R) N)):=loop_ok (g:=zA4.cfg N) tys_ok (zA4.cons N) mixed (zA4.i17 N) (fun d kn kx=>zA4.h17 N d kn kx)
theorem zA4.ls (N:Nat):LoopsOk Tryz.prog (zA4.cfg N) (fnBody Tryz.f11):=loopsL (l:=[nthLoop (fnBody Tryz.f11) 0,nthLoop (fnBody Tryz.f11) 1]) (by kernel_rfl) ⟨loopOne (L0:=loopCon N zA4.sk17 zA4.xs17 (fun {R}=>zA4.l17 (R:=R) N)) (id:=17) (by kernel_rfl) (by kernel_rfl) (zA4.o17 N),⟨loopOne (L0:=loopCon N zA4.sk20 zA4.xs20 (fun {R}=>zA4.l20 (R:=R) N)) (id:=20) (by kernel_rfl) (by kernel_rfl) (zA4.o20 N),trivial⟩⟩
theorem zA4.q20 {R R':Type} {N n:Nat} {d} {k} {g:R→Option R'}:bindF (loopP (zA4.l20 N) n d k) g=loopP (zA4.l20 N) n d fun e=>bindF (k e) g:=bindF_loopP (fun d kn kx=>by simp only [zA4.l20,bindF_ifB,bindF_bindO,bindF_pure,bindF_none,bindF_onSum]) n d k
theorem zA4.q17 {R R':Type} {N n:Nat} {d} {k} {g:R→Option R'}:bindF (loopP (zA4.l17 N) n d k) g=loopP (zA4.l17 N) n d fun e=>bindF (k e) g:=bindF_loopP (fun d kn kx=>by simp only [zA4.l17,bindF_ifB,bindF_bindO,bindF_pure,bindF_none,bindF_onSum]) n d k
theorem zA4.b (N:Nat) (x0:den s48):body (zA4.cfg N) N Tryz.f11 [.one] [.io] [(false,(.own .imm))] [⟨s48,.imm,x0⟩] (fun r i=>some (r,i))=bindO (zA4 N x0) fun r=>some ([⟨s23,(.own .imm),r.1⟩],[⟨s48,.imm,r.2⟩]):=by
  show _=bindF _ _
  conv=>rhs;simp only [zA4,bindF_ifB,bindF_bindO,bindF_pure,bindF_none,bindF_onSum,zA4.q17,zA4.q20]
  kernel_rfl
theorem zA4.ok (N:Nat):ConOk Tryz.prog 11 [.one] (zA4.con N):=ok1 (g:=zA4.cfg N) (N:=N) (res:=[(false,(.own .imm))]) tys_ok (zA4.cons N) mixed Tryz.func11 (zA4.ls N) rfl (zA4.b N)
theorem zA4.det (N:Nat):ConDet (zA4.con N):=det1
def zAK.sk2:Skel:=⟨.ptr 0 []::(.pv (.int .i64)::(dd 3 (.ov 50 []::(dd 11 [])))),[⟨0,s48,.imm,true,false⟩,⟨50,s24,(.own .imm),false,false⟩]⟩
def zAK.xs2:List XS:=[⟨.exit 0,[5],⟨dd 5 (.ov 50 []::(dd 11 [])),[⟨0,s48,.imm,true,false⟩,⟨50,s24,(.own .imm),false,false⟩]⟩⟩]
def zAK.con (N:Nat):Con:={ modes:=[.io,.v],ptrs:=[false],fn:=fn2 s48 .imm (.int .i64) .imm (zAK N) (fun r=>[⟨s24,(.own .imm),r.1⟩]) (fun r=>[⟨s48,.imm,r.2⟩]) }
def zAK.cfg (N:Nat):Cfg:={ ty:=tys,keep:=[13],flt:=[],elm:=elm0,live:=[(2,[0,1,5])],ord:=[],con:=[((52,[.one]),zBO.con N)],loops:=[(2,loopCon N zAK.sk2 zAK.xs2 (fun {R}=>zAK.l2 (R:=R) N))],joins:=[] }
theorem zAK.cons (N:Nat):ConsOk Tryz.prog (zAK.cfg N).con:=(consOk_cons (hb52) (zBO.ok N) (zBO.det N) consOk_nil)
theorem zAK.h2 {R:Type} (N:Nat) (d:zAK.sk2.D) (kn:zAK.sk2.D→Option R) (kx:XD zAK.xs2→Option R):roundK (zAK.cfg N) N (nthLoop (fnBody Tryz.f25) 0) zAK.sk2 zAK.xs2 d kn kx=zAK.l2 N d kn kx:=by kernel_rfl
theorem zAK.i2 (N:Nat):LoopsOk Tryz.prog (zAK.cfg N) (nthLoop (fnBody Tryz.f25) 0):=loopsL (l:=[]) (by kernel_rfl) trivial
theorem zAK.o2 (N:Nat):LoopOk Tryz.prog (nthLoop (fnBody Tryz.f25) 0) (loopCon N zAK.sk2 zAK.xs2 (fun {R}=>zAK.l2 (R:=R) N)):=loop_ok (g:=zAK.cfg N) tys_ok (zAK.cons N) mixed (zAK.i2 N) (fun d kn kx=>zAK.h2 N d kn kx)
theorem zAK.ls (N:Nat):LoopsOk Tryz.prog (zAK.cfg N) (fnBody Tryz.f25):=loopsL (l:=[nthLoop (fnBody Tryz.f25) 0]) (by kernel_rfl) ⟨loopOne (L0:=loopCon N zAK.sk2 zAK.xs2 (fun {R}=>zAK.l2 (R:=R) N)) (id:=2) (by kernel_rfl) (by kernel_rfl) (zAK.o2 N),trivial⟩
theorem zAK.q2 {R R':Type} {N n:Nat} {d} {k} {g:R→Option R'}:bindF (loopP (zAK.l2 N) n d k) g=loopP (zAK.l2 N) n d fun e=>bindF (k e) g:=bindF_loopP (fun d kn kx=>by simp only [zAK.l2,bindF_ifB,bindF_bindO,bindF_pure,bindF_none,bindF_onSum]) n d k
theorem zAK.b (N:Nat) (x0:den s48) (x1:den (.int .i64)):body (zAK.cfg N) N Tryz.f25 [.one,.one] [.io,.v] [(false,(.own .imm))] [⟨s48,.imm,x0⟩,⟨(.int .i64),.imm,x1⟩] (fun r i=>some (r,i))=bindO (zAK N x0 x1) fun r=>some ([⟨s24,(.own .imm),r.1⟩],[⟨s48,.imm,r.2⟩]):=by
  show _=bindF _ _
  conv=>rhs;simp only [zAK,bindF_ifB,bindF_bindO,bindF_pure,bindF_none,bindF_onSum,zAK.q2]
  kernel_rfl
theorem zAK.ok (N:Nat):ConOk Tryz.prog 25 [.one,.one] (zAK.con N):=ok2 (g:=zAK.cfg N) (N:=N) (res:=[(false,(.own .imm))]) tys_ok (zAK.cons N) mixed Tryz.func25 (zAK.ls N) rfl (zAK.b N)
theorem zAK.det (N:Nat):ConDet (zAK.con N):=det2
def zBY.con (N:Nat):Con:={ modes:=[.io],ptrs:=[false],fn:=fn1 s48 .imm (zBY N) (fun r=>[⟨s25,(.pr (.own .imm) .imm),r.1⟩]) (fun r=>[⟨s48,.imm,r.2⟩]) }
def zBY.cfg (N:Nat):Cfg:={ ty:=tys,keep:=[13,14,17,20,22,30,35,38,40,52,62],flt:=[],elm:=elm0,live:=[],ord:=[],con:=[((24,[.one,.one]),zA9.con N),((25,[.one,.one]),zAK.con N),((23,[.one,.one]),zAI.con N)],loops:=[],joins:=[] }
theorem zBY.cons (N:Nat):ConsOk Tryz.prog (zBY.cfg N).con:=(consOk_cons (hb24) (zA9.ok N) (zA9.det N) (consOk_cons (hb25) (zAK.ok N) (zAK.det N) (consOk_cons (hb23) (zAI.ok N) (zAI.det N) consOk_nil)))
theorem zBY.ls (N:Nat):LoopsOk Tryz.prog (zBY.cfg N) (fnBody Tryz.f12):=loopsL (l:=[]) (by kernel_rfl) trivial
theorem zBY.b (N:Nat) (x0:den s48):body (zBY.cfg N) N Tryz.f12 [.one] [.io] [(false,(.pr (.own .imm) .imm))] [⟨s48,.imm,x0⟩] (fun r i=>some (r,i))=bindO (zBY N x0) fun r=>some ([⟨s25,(.pr (.own .imm) .imm),r.1⟩],[⟨s48,.imm,r.2⟩]):=by
  show _=bindF _ _
  conv=>rhs;simp only [zBY,bindF_ifB,bindF_bindO,bindF_pure,bindF_none,bindF_onSum]
  kernel_rfl
theorem zBY.ok (N:Nat):ConOk Tryz.prog 12 [.one] (zBY.con N):=ok1 (g:=zBY.cfg N) (N:=N) (res:=[(false,(.pr (.own .imm) .imm))]) tys_ok (zBY.cons N) mixed Tryz.func12 (zBY.ls N) rfl (zBY.b N)
theorem zBY.det (N:Nat):ConDet (zBY.con N):=det1
def zBU.con (N:Nat):Con:={ modes:=[.io],ptrs:=[false],fn:=fn1 s48 .imm (zBU N) (fun r=>[⟨(.int .i64),.imm,r.1⟩]) (fun r=>[⟨s48,.imm,r.2⟩]) }
def zBU.cfg (N:Nat):Cfg:={ ty:=tys,keep:=[4,7,11,13],flt:=[],elm:=elm0,live:=[],ord:=[],con:=[((23,[.one,.one]),zAI.con N),((24,[.one,.one]),zA9.con N)],loops:=[],joins:=[] }
theorem zBU.cons (N:Nat):ConsOk Tryz.prog (zBU.cfg N).con:=(consOk_cons (hb23) (zAI.ok N) (zAI.det N) (consOk_cons (hb24) (zA9.ok N) (zA9.det N) consOk_nil))
theorem zBU.ls (N:Nat):LoopsOk Tryz.prog (zBU.cfg N) (fnBody Tryz.f13):=loopsL (l:=[]) (by kernel_rfl) trivial
theorem zBU.b (N:Nat) (x0:den s48):body (zBU.cfg N) N Tryz.f13 [.one] [.io] [(false,.imm)] [⟨s48,.imm,x0⟩] (fun r i=>some (r,i))=bindO (zBU N x0) fun r=>some ([⟨(.int .i64),.imm,r.1⟩],[⟨s48,.imm,r.2⟩]):=by
  show _=bindF _ _
  conv=>rhs;simp only [zBU,bindF_ifB,bindF_bindO,bindF_pure,bindF_none,bindF_onSum]
  kernel_rfl
theorem zBU.ok (N:Nat):ConOk Tryz.prog 13 [.one] (zBU.con N):=ok1 (g:=zBU.cfg N) (N:=N) (res:=[(false,.imm)]) tys_ok (zBU.cons N) mixed Tryz.func13 (zBU.ls N) rfl (zBU.b N)
theorem zBU.det (N:Nat):ConDet (zBU.con N):=det1
def zBV.con (N:Nat):Con:={ modes:=[.v],ptrs:=[false,false,false],fn:=fn1 s22 .imm (zBV N) (fun r=>[⟨s23,(.own .imm),r.1⟩,⟨s25,(.pr (.own .imm) .imm),r.2.1⟩,⟨(.int .i64),.imm,r.2.2⟩]) (fun r=>[]) }
def zBV.cfg (N:Nat):Cfg:={ ty:=tys,keep:=[9,11,13,17],flt:=[],elm:=elm0,live:=[],ord:=[(4,[0,1,2,3,4,5,6])],con:=[((10,[.one]),zB0.con N),((11,[.one]),zA4.con N),((12,[.one]),zBY.con N),((13,[.one]),zBU.con N)],loops:=[],joins:=[] }
theorem zBV.cons (N:Nat):ConsOk Tryz.prog (zBV.cfg N).con:=(consOk_cons (hb10) (zB0.ok N) (zB0.det N) (consOk_cons (hb11) (zA4.ok N) (zA4.det N) (consOk_cons (hb12) (zBY.ok N) (zBY.det N) (consOk_cons (hb13) (zBU.ok N) (zBU.det N) consOk_nil))))
theorem zBV.ls (N:Nat):LoopsOk Tryz.prog (zBV.cfg N) (fnBody Tryz.f4):=loopsL (l:=[]) (by kernel_rfl) trivial
theorem zBV.b (N:Nat) (x0:den s22):body (zBV.cfg N) N Tryz.f4 [.one] [.v] [(false,(.own .imm)),(false,(.pr (.own .imm) .imm)),(false,.imm)] [⟨s22,.imm,x0⟩] (fun r i=>some (r,i))=bindO (zBV N x0) fun r=>some ([⟨s23,(.own .imm),r.1⟩,⟨s25,(.pr (.own .imm) .imm),r.2.1⟩,⟨(.int .i64),.imm,r.2.2⟩],[]):=by
  show _=bindF _ _
  conv=>rhs;simp only [zBV,bindF_ifB,bindF_bindO,bindF_pure,bindF_none,bindF_onSum]
  kernel_rfl
theorem zBV.ok (N:Nat):ConOk Tryz.prog 4 [.one] (zBV.con N):=ok1 (g:=zBV.cfg N) (N:=N) (res:=[(false,(.own .imm)),(false,(.pr (.own .imm) .imm)),(false,.imm)]) tys_ok (zBV.cons N) mixed Tryz.func4 (zBV.ls N) rfl (zBV.b N)
theorem zBV.det (N:Nat):ConDet (zBV.con N):=det1
def zD3.con (N:Nat):Con:={ modes:=[.v,.v],ptrs:=[false],fn:=fn2 s54 .imm (.int .i64) .imm (zD3 N) (fun r=>[⟨.bool,.imm,r⟩]) (fun r=>[]) }
def zD3.cfg (N:Nat):Cfg:={ ty:=tys,keep:=[],flt:=[],elm:=elm0,live:=[],ord:=[],con:=[],loops:=[],joins:=[] }
theorem zD3.cons (N:Nat):ConsOk Tryz.prog (zD3.cfg N).con:=consOk_nil
theorem zD3.ls (N:Nat):LoopsOk Tryz.prog (zD3.cfg N) (fnBody Tryz.f26):=loopsL (l:=[]) (by kernel_rfl) trivial
theorem zD3.b (N:Nat) (x0:den s54) (x1:den (.int .i64)):body (zD3.cfg N) N Tryz.f26 [.one,.one] [.v,.v] [(false,.imm)] [⟨s54,.imm,x0⟩,⟨(.int .i64),.imm,x1⟩] (fun r i=>some (r,i))=bindO (zD3 N x0 x1) fun r=>some ([⟨.bool,.imm,r⟩],[]):=by
  show _=bindF _ _
  conv=>rhs;simp only [zD3,bindF_ifB,bindF_bindO,bindF_pure,bindF_none,bindF_onSum]
  kernel_rfl
theorem zD3.ok (N:Nat):ConOk Tryz.prog 26 [.one,.one] (zD3.con N):=ok2 (g:=zD3.cfg N) (N:=N) (res:=[(false,.imm)]) tys_ok (zD3.cons N) mixed Tryz.func26 (zD3.ls N) rfl (zD3.b N)
theorem zD3.det (N:Nat):ConDet (zD3.con N):=det2
def zC1.con (N:Nat):Con:={ modes:=[.v],ptrs:=[false,false],fn:=fn1 (.int .i64) .imm (zC1 N) (fun r=>[⟨(.int .i64),.imm,r.1⟩,⟨(.int .i64),.imm,r.2⟩]) (fun r=>[]) }
def zC1.cfg (N:Nat):Cfg:={ ty:=tys,keep:=[],flt:=[],elm:=elm0,live:=[],ord:=[],con:=[],loops:=[],joins:=[] }
theorem zC1.cons (N:Nat):ConsOk Tryz.prog (zC1.cfg N).con:=consOk_nil
theorem zC1.ls (N:Nat):LoopsOk Tryz.prog (zC1.cfg N) (fnBody Tryz.f31):=loopsL (l:=[]) (by kernel_rfl) trivial
theorem zC1.b (N:Nat) (x0:den (.int .i64)):body (zC1.cfg N) N Tryz.f31 [.one] [.v] [(false,.imm),(false,.imm)] [⟨(.int .i64),.imm,x0⟩] (fun r i=>some (r,i))=bindO (zC1 N x0) fun r=>some ([⟨(.int .i64),.imm,r.1⟩,⟨(.int .i64),.imm,r.2⟩],[]):=by
  show _=bindF _ _
  conv=>rhs;simp only [zC1,bindF_ifB,bindF_bindO,bindF_pure,bindF_none,bindF_onSum]
  kernel_rfl
theorem zC1.ok (N:Nat):ConOk Tryz.prog 31 [.one] (zC1.con N):=ok1 (g:=zC1.cfg N) (N:=N) (res:=[(false,.imm),(false,.imm)]) tys_ok (zC1.cons N) mixed Tryz.func31 (zC1.ls N) rfl (zC1.b N)
theorem zC1.det (N:Nat):ConDet (zC1.con N):=det1
end Go.AE.F
end
