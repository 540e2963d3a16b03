/- The printed functions are what the program comes to: contracts. -/
import Derived.Test.YtkknmokglbhheaaGreatLMachineF13
import Derived.Test.YtkknmokglbhheaaGreatLMachineT
noncomputable section
namespace Go.AE.F
open Go.AE Go.Proofs
set_option maxRecDepth 100000
def zB0.sk3:Skel:=⟨.pv s22::(dd 2 (.ptr 50 []::(.pv (.int .i64)::(dd 42 [])))),[⟨50,s48,.imm,true,false⟩]⟩
def zB0.xs3:List XS:=[⟨.exit 0,[0,3],⟨.pv s22::(dd 2 (.ptr 50 []::(dd 43 []))),[⟨50,s48,.imm,true,false⟩]⟩⟩]
def zB0.con (N:Nat):Con:={ modes:=[.v],ptrs:=[true],fn:=fn1 s22 .imm (zB0 N) (fun r=>[⟨s48,.imm,r⟩]) (fun r=>[]) }
def zB0.cfg (N:Nat):Cfg:={ ty:=tys,keep:=[],flt:=[],elm:=elm0,live:=[(3,[0,3,4,13,14])],ord:=[(5,[0,1,2,3,4,5,6,7,8,9,10,11,12,13,14])],con:=[],loops:=[(3,loopCon N zB0.sk3 zB0.xs3 (fun {R}=>zB0.l3 (R:=R) N))],joins:=[] }
theorem zB0.cons (N:Nat):ConsOk Tryz.prog (zB0.cfg N).con:=consOk_nil
theorem zB0.h3 {R:Type} (N:Nat) (d:zB0.sk3.D) (kn:zB0.sk3.D→Option R) (kx:XD zB0.xs3→Option R):roundK (zB0.cfg N) N (nthLoop (fnBody Tryz.f10) 0) zB0.sk3 zB0.xs3 d kn kx=zB0.l3 N d kn kx:=by kernel_rfl
theorem zB0.i3 (N:Nat):LoopsOk Tryz.prog (zB0.cfg N) (nthLoop (fnBody Tryz.f10) 0):=loopsL (l:=[]) (by kernel_rfl) trivial
theorem zB0.o3 (N:Nat):LoopOk Tryz.prog (nthLoop (fnBody Tryz.f10) 0) (loopCon N zB0.sk3 zB0.xs3 (fun {R}=>zB0.l3 (R:=R) N)):=loop_ok (g:=zB0.cfg N) tys_ok (zB0.cons N) mixed (zB0.i3 N) (fun d kn kx=>zB0.h3 N d kn kx)
theorem zB0.ls (N:Nat):LoopsOk Tryz.prog (zB0.cfg N) (fnBody Tryz.f10):=loopsL (l:=[nthLoop (fnBody Tryz.f10) 0]) (by kernel_rfl) ⟨loopOne (L0:=loopCon N zB0.sk3 zB0.xs3 (fun {R}=>zB0.l3 (R:=R) N)) (id:=3) (by kernel_rfl) (by kernel_rfl) (zB0.o3 N),trivial⟩
theorem zB0.q3 {R R':Type} {N n:Nat} {d} {k} {g:R→Option R'}:bindF (loopP (zB0.l3 N) n d k) g=loopP (zB0.l3 N) n d fun e=>bindF (k e) g:=bindF_loopP (fun d kn kx=>by simp only [zB0.l3,bindF_ifB,bindF_bindO,bindF_pure,bindF_none,bindF_onSum]) n d k
theorem zB0.b (N:Nat) (x0:den s22):body (zB0.cfg N) N Tryz.f10 [.one] [.v] [(true,.imm)] [⟨s22,.imm,x0⟩] (fun r i=>some (r,i))=bindO (zB0 N x0) fun r=>some ([⟨s48,.imm,r⟩],[]):=by
  show _=bindF _ _
  conv=>rhs;simp only [zB0,bindF_ifB,bindF_bindO,bindF_pure,bindF_none,bindF_onSum,zB0.q3]
  kernel_rfl
theorem zB0.ok (N:Nat):ConOk Tryz.prog 10 [.one] (zB0.con N):=ok1 (g:=zB0.cfg N) (N:=N) (res:=[(true,.imm)]) tys_ok (zB0.cons N) mixed Tryz.func10 (zB0.ls N) rfl (zB0.b N)
theorem zB0.det (N:Nat):ConDet (zB0.con N):=det1
def zA9.con (N:Nat):Con:={ modes:=[.io,.v],ptrs:=[false],fn:=fn2 s48 .imm (.int .i64) .imm (zA9 N) (fun r=>[⟨(.int .i64),.imm,r.1⟩]) (fun r=>[⟨s48,.imm,r.2⟩]) }
def zA9.cfg (N:Nat):Cfg:={ ty:=tys,keep:=[],flt:=[],elm:=elm0,live:=[],ord:=[(4,[0,1,2,3,4,5,6,7,8,9]),(5,[0,1,2,3,4,5,6,7,8,9,10,11]),(7,[0,1,2,3,4,5,6,7,8,9,10,11,12,13]),(8,[0,1,2,3,4,5,6,7,8,9,10,11,12,13]),(9,[0,1,2,3,4,5,6,7,8,9,10,11,12,13])],con:=[],loops:=[],joins:=[] }
theorem zA9.cons (N:Nat):ConsOk Tryz.prog (zA9.cfg N).con:=consOk_nil
theorem zA9.ls (N:Nat):LoopsOk Tryz.prog (zA9.cfg N) (fnBody Tryz.f24):=loopsL (l:=[]) (by kernel_rfl) trivial
theorem zA9.b (N:Nat) (x0:den s48) (x1:den (.int .i64)):body (zA9.cfg N) N Tryz.f24 [.one,.one] [.io,.v] [(false,.imm)] [⟨s48,.imm,x0⟩,⟨(.int .i64),.imm,x1⟩] (fun r i=>some (r,i))=bindO (zA9 N x0 x1) fun r=>some ([⟨(.int .i64),.imm,r.1⟩],[⟨s48,.imm,r.2⟩]):=by
  show _=bindF _ _
  conv=>rhs;simp only [zA9,bindF_ifB,bindF_bindO,bindF_pure,bindF_none,bindF_onSum]
  kernel_rfl
theorem zA9.ok (N:Nat):ConOk Tryz.prog 24 [.one,.one] (zA9.con N):=ok2 (g:=zA9.cfg N) (N:=N) (res:=[(false,.imm)]) tys_ok (zA9.cons N) mixed Tryz.func24 (zA9.ls N) rfl (zA9.b N)
theorem zA9.det (N:Nat):ConDet (zA9.con N):=det2
def zBI.con (N:Nat):Con:={ modes:=[.io,.v],ptrs:=[false],fn:=fn2 s48 .imm (.sl 9 .str) .imm (zBI N) (fun r=>[⟨.str,.imm,r.1⟩]) (fun r=>[⟨s48,.imm,r.2⟩]) }
def zBI.cfg (N:Nat):Cfg:={ ty:=tys,keep:=[9],flt:=[],elm:=elm0,live:=[],ord:=[],con:=[((24,[.one,.one]),zA9.con N)],loops:=[],joins:=[] }
theorem zBI.cons (N:Nat):ConsOk Tryz.prog (zBI.cfg N).con:=(consOk_cons (hb24) (zA9.ok N) (zA9.det N) consOk_nil)
theorem zBI.ls (N:Nat):LoopsOk Tryz.prog (zBI.cfg N) (fnBody Tryz.f51):=loopsL (l:=[]) (by kernel_rfl) trivial
theorem zBI.b (N:Nat) (x0:den s48) (x1:den (.sl 9 .str)):body (zBI.cfg N) N Tryz.f51 [.one,.one] [.io,.v] [(false,.imm)] [⟨s48,.imm,x0⟩,⟨(.sl 9 .str),.imm,x1⟩] (fun r i=>some (r,i))=bindO (zBI N x0 x1) fun r=>some ([⟨.str,.imm,r.1⟩],[⟨s48,.imm,r.2⟩]):=by
  show _=bindF _ _
  conv=>rhs;simp only [zBI,bindF_ifB,bindF_bindO,bindF_pure,bindF_none,bindF_onSum]
  kernel_rfl
theorem zBI.ok (N:Nat):ConOk Tryz.prog 51 [.one,.one] (zBI.con N):=ok2 (g:=zBI.cfg N) (N:=N) (res:=[(false,.imm)]) tys_ok (zBI.cons N) mixed Tryz.func51 (zBI.ls N) rfl (zBI.b N)
theorem zBI.det (N:Nat):ConDet (zBI.con N):=det2
def zAI.con (N:Nat):Con:={ modes:=[.io,.v],ptrs:=[false],fn:=fn2 s48 .imm (.int .i64) .imm (zAI N) (fun r=>[⟨.bool,.imm,r.1⟩]) (fun r=>[⟨s48,.imm,r.2⟩]) }
def zAI.cfg (N:Nat):Cfg:={ ty:=tys,keep:=[7],flt:=[],elm:=elm0,live:=[],ord:=[],con:=[((24,[.one,.one]),zA9.con N)],loops:=[],joins:=[] }
theorem zAI.cons (N:Nat):ConsOk Tryz.prog (zAI.cfg N).con:=(consOk_cons (hb24) (zA9.ok N) (zA9.det N) consOk_nil)
theorem zAI.ls (N:Nat):LoopsOk Tryz.prog (zAI.cfg N) (fnBody Tryz.f23):=loopsL (l:=[]) (by kernel_rfl) trivial
theorem zAI.b (N:Nat) (x0:den s48) (x1:den (.int .i64)):body (zAI.cfg N) N Tryz.f23 [.one,.one] [.io,.v] [(false,.imm)] [⟨s48,.imm,x0⟩,⟨(.int .i64),.imm,x1⟩] (fun r i=>some (r,i))=bindO (zAI N x0 x1) fun r=>some ([⟨.bool,.imm,r.1⟩],[⟨s48,.imm,r.2⟩]):=by
  show _=bindF _ _
  conv=>rhs;simp only [zAI,bindF_ifB,bindF_bindO,bindF_pure,bindF_none,bindF_onSum]
  kernel_rfl
theorem zAI.ok (N:Nat):ConOk Tryz.prog 23 [.one,.one] (zAI.con N):=ok2 (g:=zAI.cfg N) (N:=N) (res:=[(false,.imm)]) tys_ok (zAI.cons N) mixed Tryz.func23 (zAI.ls N) rfl (zAI.b N)
theorem zAI.det (N:Nat):ConDet (zAI.con N):=det2
def zAJ.con (N:Nat):Con:={ modes:=[.io,.v],ptrs:=[false],fn:=fun ds k=>match ds with | [d0,d1]=>castDm s48 .imm d0 fun x0=>castDm (.int .i64) .imm d1 fun x1=>bindO (zAJ N x0 x1) fun r=>k [⟨s51,(.own .imm),r.1⟩] [⟨s48,.imm,r.2⟩] | _=>none }
theorem zAJ.det (N:Nat):ConDet (zAJ.con N):=by
  intro ds R k y h
  cases ds with
  | nil=>exact none_some h
  | cons d0 ds =>
  cases ds with
  | nil=>exact none_some h
  | cons d1 ds =>
  cases ds with
  | cons _ _=>exact none_some h
  | nil =>
  have h0:(castDm s48 .imm d0 fun x0=>castDm (.int .i64) .imm d1 fun x1=>bindO (zAJ N x0 x1) fun r=>k [⟨s51,(.own .imm),r.1⟩] [⟨s48,.imm,r.2⟩])=some y:=h
  clear h
  obtain ⟨x0,rfl,h1⟩:=castDm_eq h0
  obtain ⟨x1,rfl,h2⟩:=castDm_eq h1
  obtain ⟨r,e,h⟩:=bindO_some h2
  refine ⟨_,_,h,fun k'=>?_⟩
  show (castDm s48 .imm (⟨s48,.imm,x0⟩:Dy) fun x0=>castDm (.int .i64) .imm (⟨(.int .i64),.imm,x1⟩:Dy) fun x1=>bindO (zAJ N x0 x1) fun r=>k' [⟨s51,(.own .imm),r.1⟩] [⟨s48,.imm,r.2⟩])=_
  simp only [castDm_self]
  rw [e]
  rfl
def zAJ.cfg (N:Nat):Cfg:={ ty:=tys,keep:=[12,15,20,26,34,40,44,46,53,56,64,70],flt:=[],elm:=elm0,live:=[],ord:=[],con:=[((23,[.one,.one]),zAI.con N),((24,[.one,.one]),zA9.con N),((51,[.one,.one]),zBI.con N),((97,[.one,.one]),zAJ.con N)],loops:=[],joins:=[] }
theorem zAJ.cons (N:Nat) (h:ConOk Tryz.prog 97 [.one,.one] (zAJ.con N)):ConsOk Tryz.prog (zAJ.cfg N).con:=(consOk_cons (hb23) (zAI.ok N) (zAI.det N) (consOk_cons (hb24) (zA9.ok N) (zA9.det N) (consOk_cons (hb51) (zBI.ok N) (zBI.det N) (consOk_cons (hb97) h (zAJ.det N) consOk_nil))))
theorem zAJ.ls (N:Nat) (h:ConOk Tryz.prog 97 [.one,.one] (zAJ.con N)):LoopsOk Tryz.prog (zAJ.cfg N) (fnBody Tryz.f97):=loopsL (l:=[]) (by kernel_rfl) trivial
theorem zAJ.b (N:Nat) (x0:den s48) (x1:den (.int .i64)):body (zAJ.cfg N) N Tryz.f97 [.one,.one] [.io,.v] [(false,(.own .imm))] [⟨s48,.imm,x0⟩,⟨(.int .i64),.imm,x1⟩] (fun r i=>some (r,i))=bindO (zAJ.st N (zAJ N) x0 x1) fun r=>some ([⟨s51,(.own .imm),r.1⟩],[⟨s48,.imm,r.2⟩]):=by
  show _=bindF _ _
  conv=>rhs;simp only [zAJ.st,bindF_ifB,bindF_bindO,bindF_pure,bindF_none,bindF_onSum]
  kernel_rfl
theorem zAJ.ok0:ConOk Tryz.prog 97 [.one,.one] (zAJ.con 0):=by
  intro w m H vs fl ds hp ha hc hH hD R k y h
  cases ds with
  | nil=>exact none_some h
  | cons d0 ds =>
  cases ds with
  | nil=>exact none_some h
  | cons d1 ds =>
  cases ds with
  | cons _ _=>exact none_some h
  | nil =>
  have h0:(castDm s48 .imm d0 fun x0=>castDm (.int .i64) .imm d1 fun x1=>bindO (zAJ 0 x0 x1) fun r=>k [⟨s51,(.own .imm),r.1⟩] [⟨s48,.imm,r.2⟩])=some y:=h
  clear h
  obtain ⟨x0,rfl,h1⟩:=castDm_eq h0
  obtain ⟨x1,rfl,h2⟩:=castDm_eq h1
  exact none_some h2
theorem zAJ.okS (N:Nat) (h:ConOk Tryz.prog 97 [.one,.one] (zAJ.con N)):ConOk Tryz.prog 97 [.one,.one] (zAJ.con (N+1)):=by
  refine conOk_mk (g:=zAJ.cfg N) (N:=N) (res:=[(false,(.own .imm))]) tys_ok (zAJ.cons N h) mixed Tryz.func97 (zAJ.ls N h) rfl rfl ?_
  intro ds R k y h
  cases ds with
  | nil=>exact none_some h
  | cons d0 ds =>
  cases ds with
  | nil=>exact none_some h
  | cons d1 ds =>
  cases ds with
  | cons _ _=>exact none_some h
  | nil =>
  have h0:(castDm s48 .imm d0 fun x0=>castDm (.int .i64) .imm d1 fun x1=>bindO (zAJ.st N (zAJ N) x0 x1) fun r=>k [⟨s51,(.own .imm),r.1⟩] [⟨s48,.imm,r.2⟩])=some y:=h
  clear h
  obtain ⟨x0,rfl,h1⟩:=castDm_eq h0
  obtain ⟨x1,rfl,h2⟩:=castDm_eq h1
  exact con_fin (zAJ.b N x0 x1) h2
theorem zAJ.okA:∀ N:Nat,ConOk Tryz.prog 97 [.one,.one] (zAJ.con N)
| 0=>zAJ.ok0
| N+1=>zAJ.okS N (zAJ.okA N)
theorem zAJ.ok (N:Nat):ConOk Tryz.prog 97 [.one,.one] (zAJ.con N):=(zAJ.okA N)
def zBO.con (N:Nat):Con:={ modes:=[.io],ptrs:=[false],fn:=fn1 s48 .imm (zBO N) (fun r=>[⟨(.int .i64),.imm,r.1⟩]) (fun r=>[⟨s48,.imm,r.2⟩]) }
def zBO.cfg (N:Nat):Cfg:={ ty:=tys,keep:=[4,13,20,27,34,40,43],flt:=[],elm:=elm0,live:=[],ord:=[],con:=[((24,[.one,.one]),zA9.con N)],loops:=[],joins:=[] }
theorem zBO.cons (N:Nat):ConsOk Tryz.prog (zBO.cfg N).con:=(consOk_cons (hb24) (zA9.ok N) (zA9.det N) consOk_nil)
theorem zBO.ls (N:Nat):LoopsOk Tryz.prog (zBO.cfg N) (fnBody Tryz.f52):=loopsL (l:=[]) (by kernel_rfl) trivial
theorem zBO.b (N:Nat) (x0:den s48):body (zBO.cfg N) N Tryz.f52 [.one] [.io] [(false,.imm)] [⟨s48,.imm,x0⟩] (fun r i=>some (r,i))=bindO (zBO N x0) fun r=>some ([⟨(.int .i64),.imm,r.1⟩],[⟨s48,.imm,r.2⟩]):=by
  show _=bindF _ _
  conv=>rhs;simp only [zBO,bindF_ifB,bindF_bindO,bindF_pure,bindF_none,bindF_onSum]
  kernel_rfl
theorem zBO.ok (N:Nat):ConOk Tryz.prog 52 [.one] (zBO.con N):=ok1 (g:=zBO.cfg N) (N:=N) (res:=[(false,.imm)]) tys_ok (zBO.cons N) mixed Tryz.func52 (zBO.ls N) rfl (zBO.b N)
theorem zBO.det (N:Nat):ConDet (zBO.con N):=det1
def zBM.con (N:Nat):Con:={ modes:=[],ptrs:=[false],fn:=fun ds k=>match ds with | []=>bindO (zBM N) fun r=>k [⟨(.sl 9 .str),(.own .imm),r⟩] [] | _=>none }
def zBM.cfg (N:Nat):Cfg:={ ty:=tys,keep:=[],flt:=[],elm:=elm0,live:=[],ord:=[],con:=[],loops:=[],joins:=[] }
theorem zBM.cons (N:Nat):ConsOk Tryz.prog (zBM.cfg N).con:=consOk_nil
theorem zBM.ls (N:Nat):LoopsOk Tryz.prog (zBM.cfg N) (fnBody Tryz.f81):=loopsL (l:=[]) (by kernel_rfl) trivial
theorem zBM.b (N:Nat) :body (zBM.cfg N) N Tryz.f81 [] [] [(false,(.own .imm))] [] (fun r i=>some (r,i))=bindO (zBM N) fun r=>some ([⟨(.sl 9 .str),(.own .imm),r⟩],[]):=by
  show _=bindF _ _
  conv=>rhs;simp only [zBM,bindF_ifB,bindF_bindO,bindF_pure,bindF_none,bindF_onSum]
  kernel_rfl
theorem zBM.ok (N:Nat):ConOk Tryz.prog 81 [] (zBM.con N):=by
  refine conOk_mk (g:=zBM.cfg N) (N:=N) (res:=[(false,(.own .imm))]) tys_ok (zBM.cons N) mixed Tryz.func81 (zBM.ls N) rfl rfl ?_
  intro ds R k y h
  cases ds with
  | cons _ _=>exact none_some h
  | nil =>
  have h0:(bindO (zBM N) fun r=>k [⟨(.sl 9 .str),(.own .imm),r⟩] [])=some y:=h
  clear h
  exact con_fin (zBM.b N) h0
theorem zBM.det (N:Nat):ConDet (zBM.con N):=by
  intro ds R k y h
  cases ds with
  | cons _ _=>exact none_some h
  | nil =>
  have h0:(bindO (zBM N) fun r=>k [⟨(.sl 9 .str),(.own .imm),r⟩] [])=some y:=h
  clear h
  obtain ⟨r,e,h⟩:=bindO_some h0
  refine ⟨_,_,h,fun k'=>?_⟩
  show (bindO (zBM N) fun r=>k' [⟨(.sl 9 .str),(.own .imm),r⟩] [])=_
  skip
  rw [e]
  rfl
def zA6.sk20:Skel:=⟨.ptr 0 []::(.pv (.int .i64)::(dd 4 (.ov 50 []::(.pv (.int .i64)::(.pv (.int .i64)::(dd 119 [])))))),[⟨0,s48,.imm,true,false⟩,⟨50,s51,(.own .imm),false,false⟩]⟩
def zA6.xs20:List XS:=[⟨.exit 1,[6],⟨dd 6 (.ov 50 []::(dd 121 [])),[⟨0,s48,.imm,true,false⟩,⟨50,s51,(.own .imm),false,false⟩]⟩⟩]
def zA6.con (N:Nat):Con:={ modes:=[.io,.v],ptrs:=[false],fn:=fun ds k=>match ds with | [d0,d1]=>castDm s48 .imm d0 fun x0=>castDm (.int .i64) .imm d1 fun x1=>bindO (zA6 N x0 x1) fun r=>k [⟨s51,(.own .imm),r.1⟩] [⟨s48,.imm,r.2⟩] | _=>none }
theorem zA6.det (N:Nat):ConDet (zA6.con N):=by
  intro ds R k y h
  cases ds with
  | nil=>exact none_some h
  | cons d0 ds =>
  cases ds with
  | nil=>exact none_some h
  | cons d1 ds =>
  cases ds with
  | cons _ _=>exact none_some h
  | nil =>
  have h0:(castDm s48 .imm d0 fun x0=>castDm (.int .i64) .imm d1 fun x1=>bindO (zA6 N x0 x1) fun r=>k [⟨s51,(.own .imm),r.1⟩] [⟨s48,.imm,r.2⟩])=some y:=h
  clear h
  obtain ⟨x0,rfl,h1⟩:=castDm_eq h0
  obtain ⟨x1,rfl,h2⟩:=castDm_eq h1
  obtain ⟨r,e,h⟩:=bindO_some h2
  refine ⟨_,_,h,fun k'=>?_⟩
  show (castDm s48 .imm (⟨s48,.imm,x0⟩:Dy) fun x0=>castDm (.int .i64) .imm (⟨(.int .i64),.imm,x1⟩:Dy) fun x1=>bindO (zA6 N x0 x1) fun r=>k' [⟨s51,(.own .imm),r.1⟩] [⟨s48,.imm,r.2⟩])=_
  simp only [castDm_self]
  rw [e]
  rfl
def zA8.con (N:Nat):Con:={ modes:=[.io,.v],ptrs:=[false],fn:=fun ds k=>match ds with | [d0,d1]=>castDm s48 .imm d0 fun x0=>castDm (.int .i64) .imm d1 fun x1=>bindO (zA8 N x0 x1) fun r=>k [⟨s51,(.own .imm),r.1⟩] [⟨s48,.imm,r.2⟩] | _=>none }
theorem zA8.det (N:Nat):ConDet (zA8.con N):=by
  intro ds R k y h
  cases ds with
  | nil=>exact none_some h
  | cons d0 ds =>
  cases ds with
  | nil=>exact none_some h
  | cons d1 ds =>
  cases ds with
  | cons _ _=>exact none_some h
  | nil =>
  have h0:(castDm s48 .imm d0 fun x0=>castDm (.int .i64) .imm d1 fun x1=>bindO (zA8 N x0 x1) fun r=>k [⟨s51,(.own .imm),r.1⟩] [⟨s48,.imm,r.2⟩])=some y:=h
  clear h
  obtain ⟨x0,rfl,h1⟩:=castDm_eq h0
  obtain ⟨x1,rfl,h2⟩:=castDm_eq h1
  obtain ⟨r,e,h⟩:=bindO_some h2
  refine ⟨_,_,h,fun k'=>?_⟩
  show (castDm s48 .imm (⟨s48,.imm,x0⟩:Dy) fun x0=>castDm (.int .i64) .imm (⟨(.int .i64),.imm,x1⟩:Dy) fun x1=>bindO (zA8 N x0 x1) fun r=>k' [⟨s51,(.own .imm),r.1⟩] [⟨s48,.imm,r.2⟩])=_
  simp only [castDm_self]
  rw [e]
  rfl
def zA6.cfg (N:Nat):Cfg:={ ty:=tys,keep:=[12,18,22,29,36,41,52,56,63,73,84,95,101,120,122],flt:=[],elm:=elm0,live:=[(20,[0,1,6,7,8])],ord:=[],con:=[((24,[.one,.one]),zA9.con N),((51,[.one,.one]),zBI.con N),((97,[.one,.one]),zAJ.con N),((52,[.one]),zBO.con N),((49,[.one,.one]),zA8.con N),((81,[]),zBM.con N)],loops:=[(20,loopCon N zA6.sk20 zA6.xs20 (fun {R}=>zA6.l20 (R:=R) N (zA6 N) (zA8 N)))],joins:=[] }
theorem zA6.cons (N:Nat) (h:ConOk Tryz.prog 80 [.one,.one] (zA6.con N)) (h1_:ConOk Tryz.prog 49 [.one,.one] (zA8.con N)):ConsOk Tryz.prog (zA6.cfg N).con:=(consOk_cons (hb24) (zA9.ok N) (zA9.det N) (consOk_cons (hb51) (zBI.ok N) (zBI.det N) (consOk_cons (hb97) (zAJ.ok N) (zAJ.det N) (consOk_cons (hb52) (zBO.ok N) (zBO.det N) (consOk_cons (hb49) h1_ (zA8.det N) (consOk_cons (hb81) (zBM.ok N) (zBM.det N) consOk_nil))))))
theorem zA6.h20 {R:Type} (N:Nat) (d:zA6.sk20.D) (kn:zA6.sk20.D→Option R) (kx:XD zA6.xs20→Option R):roundK (zA6.cfg N) N (nthLoop (fnBody Tryz.f80) 0) zA6.sk20 zA6.xs20 d kn kx=zA6.l20 N (zA6 N) (zA8 N) d kn kx:=by kernel_rfl
theorem zA6.i20 (N:Nat) (h:ConOk Tryz.prog 80 [.one,.one] (zA6.con N)) (h1_:ConOk Tryz.prog 49 [.one,.one] (zA8.con N)):LoopsOk Tryz.prog (zA6.cfg N) (nthLoop (fnBody Tryz.f80) 0):=loopsL (l:=[]) (by kernel_rfl) trivial
theorem zA6.o20 (N:Nat) (h:ConOk Tryz.prog 80 [.one,.one] (zA6.con N)) (h1_:ConOk Tryz.prog 49 [.one,.one] (zA8.con N)):LoopOk Tryz.prog (nthLoop (fnBody Tryz.f80) 0) (loopCon N zA6.sk20 zA6.xs20 (fun {R}=>zA6.l20 (R:=R) N (zA6 N) (zA8 N))):=loop_ok (g:=zA6.cfg N) tys_ok (zA6.cons N h h1_) mixed (zA6.i20 N h h1_) (fun d kn kx=>zA6.h20 N d kn kx)
theorem zA6.ls (N:Nat) (h:ConOk Tryz.prog 80 [.one,.one] (zA6.con N)) (h1_:ConOk Tryz.prog 49 [.one,.one] (zA8.con N)):LoopsOk Tryz.prog (zA6.cfg N) (fnBody Tryz.f80):=loopsL (l:=[nthLoop (fnBody Tryz.f80) 0]) (by kernel_rfl) ⟨loopOne (L0:=loopCon N zA6.sk20 zA6.xs20 (fun {R}=>zA6.l20 (R:=R) N (zA6 N) (zA8 N))) (id:=20) (by kernel_rfl) (by kernel_rfl) (zA6.o20 N h h1_),trivial⟩
theorem zA6.q20 {R R':Type} {N n:Nat} {rc rc1} {d} {k} {g:R→Option R'}:bindF (loopP (zA6.l20 N rc rc1) n d k) g=loopP (zA6.l20 N rc rc1) n d fun e=>bindF (k e) g:=bindF_loopP (fun d kn kx=>by simp only [zA6.l20,bindF_ifB,bindF_bindO,bindF_pure,bindF_none,bindF_onSum]) n d k
theorem zA6.b (N:Nat) (x0:den s48) (x1:den (.int .i64)):body (zA6.cfg N) N Tryz.f80 [.one,.one] [.io,.v] [(false,(.own .imm))] [⟨s48,.imm,x0⟩,⟨(.int .i64),.imm,x1⟩] (fun r i=>some (r,i))=bindO (zA6.st N (zA6 N) (zA8 N) x0 x1) fun r=>some ([⟨s51,(.own .imm),r.1⟩],[⟨s48,.imm,r.2⟩]):=by
  show _=bindF _ _
  conv=>rhs;simp only [zA6.st,bindF_ifB,bindF_bindO,bindF_pure,bindF_none,bindF_onSum,zA6.q20]
  kernel_rfl
theorem zA6.ok0:ConOk Tryz.prog 80 [.one,.one] (zA6.con 0):=by
  intro w m H vs fl ds hp ha hc hH hD R k y h
  cases ds with
  | nil=>exact none_some h
  | cons d0 ds =>
  cases ds with
  | nil=>exact none_some h
  | cons d1 ds =>
  cases ds with
  | cons _ _=>exact none_some h
  | nil =>
  have h0:(castDm s48 .imm d0 fun x0=>castDm (.int .i64) .imm d1 fun x1=>bindO (zA6 0 x0 x1) fun r=>k [⟨s51,(.own .imm),r.1⟩] [⟨s48,.imm,r.2⟩])=some y:=h
  clear h
  obtain ⟨x0,rfl,h1⟩:=castDm_eq h0
  obtain ⟨x1,rfl,h2⟩:=castDm_eq h1
  exact none_some h2
theorem zA6.okS (N:Nat) (h:ConOk Tryz.prog 80 [.one,.one] (zA6.con N)) (h1_:ConOk Tryz.prog 49 [.one,.one] (zA8.con N)):ConOk Tryz.prog 80 [.one,.one] (zA6.con (N+1)):=by
  refine conOk_mk (g:=zA6.cfg N) (N:=N) (res:=[(false,(.own .imm))]) tys_ok (zA6.cons N h h1_) mixed Tryz.func80 (zA6.ls N h h1_) rfl rfl ?_
  intro ds R k y h
  cases ds with
  | nil=>exact none_some h
  | cons d0 ds =>
  cases ds with
  | nil=>exact none_some h
  | cons d1 ds =>
  cases ds with
  | cons _ _=>exact none_some h
  | nil =>
  have h0:(castDm s48 .imm d0 fun x0=>castDm (.int .i64) .imm d1 fun x1=>bindO (zA6.st N (zA6 N) (zA8 N) x0 x1) fun r=>k [⟨s51,(.own .imm),r.1⟩] [⟨s48,.imm,r.2⟩])=some y:=h
  clear h
  obtain ⟨x0,rfl,h1⟩:=castDm_eq h0
  obtain ⟨x1,rfl,h2⟩:=castDm_eq h1
  exact con_fin (zA6.b N x0 x1) h2
def zA8.sk4:Skel:=⟨.ptr 0 []::(.pv (.int .i64)::(dd 3 (.ov 50 []::(.pv (.int .i64)::(.pv (.int .i64)::(dd 19 [])))))),[⟨0,s48,.imm,true,false⟩,⟨50,s51,(.own .imm),false,false⟩]⟩
def zA8.xs4:List XS:=[⟨.exit 0,[5,6],⟨dd 5 (.ov 50 []::(.pv (.int .i64)::(dd 20 []))),[⟨0,s48,.imm,true,false⟩,⟨50,s51,(.own .imm),false,false⟩]⟩⟩]
def zA8.cfg (N:Nat):Cfg:={ ty:=tys,keep:=[11,20],flt:=[],elm:=elm0,live:=[(4,[0,1,5,6,7])],ord:=[],con:=[((24,[.one,.one]),zA9.con N),((80,[.one,.one]),zA6.con N)],loops:=[(4,loopCon N zA8.sk4 zA8.xs4 (fun {R}=>zA8.l4 (R:=R) N (zA6 N) (zA8 N)))],joins:=[] }
theorem zA8.cons (N:Nat) (h:ConOk Tryz.prog 80 [.one,.one] (zA6.con N)) (h1_:ConOk Tryz.prog 49 [.one,.one] (zA8.con N)):ConsOk Tryz.prog (zA8.cfg N).con:=(consOk_cons (hb24) (zA9.ok N) (zA9.det N) (consOk_cons (hb80) h (zA6.det N) consOk_nil))
theorem zA8.h4 {R:Type} (N:Nat) (d:zA8.sk4.D) (kn:zA8.sk4.D→Option R) (kx:XD zA8.xs4→Option R):roundK (zA8.cfg N) N (nthLoop (fnBody Tryz.f49) 0) zA8.sk4 zA8.xs4 d kn kx=zA8.l4 N (zA6 N) (zA8 N) d kn kx:=by kernel_rfl
theorem zA8.i4 (N:Nat) (h:ConOk Tryz.prog 80 [.one,.one] (zA6.con N)) (h1_:ConOk Tryz.prog 49 [.one,.one] (zA8.con N)):LoopsOk Tryz.prog (zA8.cfg N) (nthLoop (fnBody Tryz.f49) 0):=loopsL (l:=[]) (by kernel_rfl) trivial
theorem zA8.o4 (N:Nat) (h:ConOk Tryz.prog 80 [.one,.one] (zA6.con N)) (h1_:ConOk Tryz.prog 49 [.one,.one] (zA8.con N)):LoopOk Tryz.prog (nthLoop (fnBody Tryz.f49) 0) (loopCon N zA8.sk4 zA8.xs4 (fun {R}=>zA8.l4 (R:=R) N (zA6 N) (zA8 N))):=loop_ok (g:=zA8.cfg N) tys_ok (zA8.cons N h h1_) mixed (zA8.i4 N h h1_) (fun d kn kx=>zA8.h4 N d kn kx)
theorem zA8.ls (N:Nat) (h:ConOk Tryz.prog 80 [.one,.one] (zA6.con N)) (h1_:ConOk Tryz.prog 49 [.one,.one] (zA8.con N)):LoopsOk Tryz.prog (zA8.cfg N) (fnBody Tryz.f49):=loopsL (l:=[nthLoop (fnBody Tryz.f49) 0]) (by kernel_rfl) ⟨loopOne (L0:=loopCon N zA8.sk4 zA8.xs4 (fun {R}=>zA8.l4 (R:=R) N (zA6 N) (zA8 N))) (id:=4) (by kernel_rfl) (by kernel_rfl) (zA8.o4 N h h1_),trivial⟩
theorem zA8.q4 {R R':Type} {N n:Nat} {rc rc1} {d} {k} {g:R→Option R'}:bindF (loopP (zA8.l4 N rc rc1) n d k) g=loopP (zA8.l4 N rc rc1) n d fun e=>bindF (k e) g:=bindF_loopP (fun d kn kx=>by simp only [zA8.l4,bindF_ifB,bindF_bindO,bindF_pure,bindF_none,bindF_onSum]) n d k
theorem zA8.b (N:Nat) (x0:den s48) (x1:den (.int .i64)):body (zA8.cfg N) N Tryz.f49 [.one,.one] [.io,.v] [(false,(.own .imm))] [⟨s48,.imm,x0⟩,⟨(.int .i64),.imm,x1⟩] (fun r i=>some (r,i))=bindO (zA8.st N (zA6 N) (zA8 N) x0 x1) fun r=>some ([⟨s51,(.own .imm),r.1⟩],[⟨s48,.imm,r.2⟩]):=by
  show _=bindF _ _
  conv=>rhs;simp only [zA8.st,bindF_ifB,bindF_bindO,bindF_pure,bindF_none,bindF_onSum,zA8.q4]
  kernel_rfl
theorem zA8.ok0:ConOk Tryz.prog 49 [.one,.one] (zA8.con 0):=by
  intro w m H vs fl ds hp ha hc hH hD R k y h
  cases ds with
  | nil=>exact none_some h
  | cons d0 ds =>
  cases ds with
  | nil=>exact none_some h
  | cons d1 ds =>
  cases ds with
  | cons _ _=>exact none_some h
  | nil =>
  have h0:(castDm s48 .imm d0 fun x0=>castDm (.int .i64) .imm d1 fun x1=>bindO (zA8 0 x0 x1) fun r=>k [⟨s51,(.own .imm),r.1⟩] [⟨s48,.imm,r.2⟩])=some y:=h
  clear h
  obtain ⟨x0,rfl,h1⟩:=castDm_eq h0
  obtain ⟨x1,rfl,h2⟩:=castDm_eq h1
  exact none_some h2
theorem zA8.okS (N:Nat) (h:ConOk Tryz.prog 80 [.one,.one] (zA6.con N)) (h1_:ConOk Tryz.prog 49 [.one,.one] (zA8.con N)):ConOk Tryz.prog 49 [.one,.one] (zA8.con (N+1)):=by
  refine conOk_mk (g:=zA8.cfg N) (N:=N) (res:=[(false,(.own .imm))]) tys_ok (zA8.cons N h h1_) mixed Tryz.func49 (zA8.ls N h h1_) rfl rfl ?_
  intro ds R k y h
  cases ds with
  | nil=>exact none_some h
  | cons d0 ds =>
  cases ds with
  | nil=>exact none_some h
  | cons d1 ds =>
  cases ds with
  | cons _ _=>exact none_some h
  | nil =>
  have h0:(castDm s48 .imm d0 fun x0=>castDm (.int .i64) .imm d1 fun x1=>bindO (zA8.st N (zA6 N) (zA8 N) x0 x1) fun r=>k [⟨s51,(.own .imm),r.1⟩] [⟨s48,.imm,r.2⟩])=some y:=h
  clear h
  obtain ⟨x0,rfl,h1⟩:=castDm_eq h0
  obtain ⟨x1,rfl,h2⟩:=castDm_eq h1
  exact con_fin (zA8.b N x0 x1) h2
theorem zA6.okA:∀ N:Nat,ConOk Tryz.prog 80 [.one,.one] (zA6.con N)∧ConOk Tryz.prog 49 [.one,.one] (zA8.con N)
| 0=>⟨zA6.ok0,zA8.ok0⟩
| N+1=>⟨zA6.okS N (zA6.okA N).1 (zA6.okA N).2,zA8.okS N (zA6.okA N).1 (zA6.okA N).2⟩
theorem zA6.ok (N:Nat):ConOk Tryz.prog 80 [.one,.one] (zA6.con N):=(zA6.okA N).1
theorem zA8.ok (N:Nat):ConOk Tryz.prog 49 [.one,.one] (zA8.con N):=(zA6.okA N).2
def zC8.con (N:Nat):Con:={ modes:=[.io],ptrs:=[false],fn:=fn1 s48 .imm (zC8 N) (fun r=>[⟨(.int .i64),.imm,r.1⟩]) (fun r=>[⟨s48,.imm,r.2⟩]) }
def zC8.cfg (N:Nat):Cfg:={ ty:=tys,keep:=[5],flt:=[],elm:=elm0,live:=[],ord:=[],con:=[((24,[.one,.one]),zA9.con N)],loops:=[],joins:=[] }
theorem zC8.cons (N:Nat):ConsOk Tryz.prog (zC8.cfg N).con:=(consOk_cons (hb24) (zA9.ok N) (zA9.det N) consOk_nil)
theorem zC8.ls (N:Nat):LoopsOk Tryz.prog (zC8.cfg N) (fnBody Tryz.f50):=loopsL (l:=[]) (by kernel_rfl) trivial
theorem zC8.b (N:Nat) (x0:den s48):body (zC8.cfg N) N Tryz.f50 [.one] [.io] [(false,.imm)] [⟨s48,.imm,x0⟩] (fun r i=>some (r,i))=bindO (zC8 N x0) fun r=>some ([⟨(.int .i64),.imm,r.1⟩],[⟨s48,.imm,r.2⟩]):=by
  show _=bindF _ _
  conv=>rhs;simp only [zC8,bindF_ifB,bindF_bindO,bindF_pure,bindF_none,bindF_onSum]
  kernel_rfl
theorem zC8.ok (N:Nat):ConOk Tryz.prog 50 [.one] (zC8.con N):=ok1 (g:=zC8.cfg N) (N:=N) (res:=[(false,.imm)]) tys_ok (zC8.cons N) mixed Tryz.func50 (zC8.ls N) rfl (zC8.b N)
theorem zC8.det (N:Nat):ConDet (zC8.con N):=det1
def zA3.sk17:Skel:=⟨.ptr 0 []::(dd 2 (.ov 50 []::(dd 1 (.pv (.int .i64)::(dd 88 []))))),[⟨0,s48,.imm,true,false⟩,⟨50,s51,(.own .imm),false,false⟩]⟩
def zA3.xs17:List XS:=[⟨.exit 1,[0,3],⟨.ptr 0 []::(dd 2 (.ov 50 []::(dd 90 []))),[⟨0,s48,.imm,true,false⟩,⟨50,s51,(.own .imm),false,false⟩]⟩⟩]
def zA3.sk23:Skel:=⟨dd 3 (.ov 50 []::(dd 2 (.pv (.int .i64)::(dd 87 [])))),[⟨0,s48,.imm,true,false⟩,⟨50,s51,(.own .imm),false,false⟩]⟩
def zA3.xs23:List XS:=[⟨.exit 3,[3],⟨dd 3 (.ov 50 []::(dd 90 [])),[⟨0,s48,.imm,true,false⟩,⟨50,s51,(.own .imm),false,false⟩]⟩⟩]
def zA3.con (N:Nat):Con:={ modes:=[.io],ptrs:=[false],fn:=fn1 s48 .imm (zA3 N) (fun r=>[⟨s51,(.own .imm),r.1⟩]) (fun r=>[⟨s48,.imm,r.2⟩]) }
def zA3.cfg (N:Nat):Cfg:={ ty:=tys,keep:=[8,10,14,16,26,34,42,51,55,57,74,79],flt:=[],elm:=elm0,live:=[(23,[3,6]),(17,[0,3,5])],ord:=[],con:=[((49,[.one,.one]),zA8.con N),((23,[.one,.one]),zAI.con N),((24,[.one,.one]),zA9.con N),((50,[.one]),zC8.con N),((51,[.one,.one]),zBI.con N)],loops:=[(17,loopCon N zA3.sk17 zA3.xs17 (fun {R}=>zA3.l17 (R:=R) N)),(23,loopCon N zA3.sk23 zA3.xs23 (fun {R}=>zA3.l23 (R:=R) N))],joins:=[] }
theorem zA3.cons (N:Nat):ConsOk Tryz.prog (zA3.cfg N).con:=(consOk_cons (hb49) (zA8.ok N) (zA8.det N) (consOk_cons (hb23) (zAI.ok N) (zAI.det N) (consOk_cons (hb24) (zA9.ok N) (zA9.det N) (consOk_cons (hb50) (zC8.ok N) (zC8.det N) (consOk_cons (hb51) (zBI.ok N) (zBI.det N) consOk_nil)))))
theorem zA3.h23 {R:Type} (N:Nat) (d:zA3.sk23.D) (kn:zA3.sk23.D→Option R) (kx:XD zA3.xs23→Option R):roundK (zA3.cfg N) N (nthLoop (fnBody Tryz.f22) 1) zA3.sk23 zA3.xs23 d kn kx=zA3.l23 N d kn kx:=by kernel_rfl
theorem zA3.i23 (N:Nat):LoopsOk Tryz.prog (zA3.cfg N) (nthLoop (fnBody Tryz.f22) 1):=loopsL (l:=[]) (by kernel_rfl) trivial
theorem zA3.o23 (N:Nat):LoopOk Tryz.prog (nthLoop (fnBody Tryz.f22) 1) (loopCon N zA3.sk23 zA3.xs23 (fun {R}=>zA3.l23 (R:=R) N)):=loop_ok (g:=zA3.cfg N) tys_ok (zA3.cons N) mixed (zA3.i23 N) (fun d kn kx=>zA3.h23 N d kn kx)
theorem zA3.h17 {R:Type} (N:Nat) (d:zA3.sk17.D) (kn:zA3.sk17.D→Option R) (kx:XD zA3.xs17→Option R):roundK (zA3.cfg N) N (nthLoop (fnBody Tryz.f22) 0) zA3.sk17 zA3.xs17 d kn kx=zA3.l17 N d kn kx:=by kernel_rfl
theorem zA3.i17 (N:Nat):LoopsOk Tryz.prog (zA3.cfg N) (nthLoop (fnBody Tryz.f22) 0):=loopsL (l:=[]) (by kernel_rfl) trivial
theorem zA3.o17 (N:Nat):LoopOk Tryz.prog (nthLoop (fnBody Tryz.f22) 0) (loopCon N zA3.sk17 zA3.xs17 (fun {R}=>zA3.l17 (R:=R) N)):=loop_ok (g:=zA3.cfg N) tys_ok (zA3.cons N) mixed (zA3.i17 N) (fun d kn kx=>zA3.h17 N d kn kx)
theorem zA3.ls (N:Nat):LoopsOk Tryz.prog (zA3.cfg N) (fnBody Tryz.f22):=loopsL (l:=[nthLoop (fnBody Tryz.f22) 0,nthLoop (fnBody Tryz.f22) 1]) (by kernel_rfl) ⟨loopOne (L0:=loopCon N zA3.sk17 zA3.xs17 (fun {R}=>zA3.l17 (R:=R) N)) (id:=17) (by kernel_rfl) (by kernel_rfl) (zA3.o17 N),⟨loopOne (L0:=loopCon N zA3.sk23 zA3.xs23 (fun {R}=>zA3.l23 (R:=R) N)) (id:=23) (by kernel_rfl) (by kernel_rfl) (zA3.o23 N),trivial⟩⟩
theorem zA3.q23 {R R':Type} {N n:Nat} {d} {k} {g:R→Option R'}:bindF (loopP (zA3.l23 N) n d k) g=loopP (zA3.l23 N) n d fun e=>bindF (k e) g:=bindF_loopP (fun d kn kx=>by simp only [zA3.l23,bindF_ifB,bindF_bindO,bindF_pure,bindF_none,bindF_onSum]) n d k
theorem zA3.q17 {R R':Type} {N n:Nat} {d} {k} {g:R→Option R'}:bindF (loopP (zA3.l17 N) n d k) g=loopP (zA3.l17 N) n d fun e=>bindF (k e) g:=bindF_loopP (fun d kn kx=>by simp only [zA3.l17,bindF_ifB,bindF_bindO,bindF_pure,bindF_none,bindF_onSum]) n d k
theorem zA3.b (N:Nat) (x0:den s48):body (zA3.cfg N) N Tryz.f22 [.one] [.io] [(false,(.own .imm))] [⟨s48,.imm,x0⟩] (fun r i=>some (r,i))=bindO (zA3 N x0) fun r=>some ([⟨s51,(.own .imm),r.1⟩],[⟨s48,.imm,r.2⟩]):=by
  show _=bindF _ _
  conv=>rhs;simp only [zA3,bindF_ifB,bindF_bindO,bindF_pure,bindF_none,bindF_onSum,zA3.q17,zA3.q23]
  kernel_rfl
theorem zA3.ok (N:Nat):ConOk Tryz.prog 22 [.one] (zA3.con N):=ok1 (g:=zA3.cfg N) (N:=N) (res:=[(false,(.own .imm))]) tys_ok (zA3.cons N) mixed Tryz.func22 (zA3.ls N) rfl (zA3.b N)
theorem zA3.det (N:Nat):ConDet (zA3.con N):=det1
def zBB.sk4:Skel:=⟨.pv .str::(dd 2 (.pv (.int .i64)::(dd 31 []))),[]⟩
def zBB.xs4:List XS:=[⟨.exit 0,[],⟨dd 35 [],[]⟩⟩,⟨.ret,[2],⟨dd 2 (.pv .bool::(dd 32 [])),[]⟩⟩]
def zBB.con (N:Nat):Con:={ modes:=[.v],ptrs:=[false],fn:=fn1 .str .imm (zBB N) (fun r=>[⟨.bool,.imm,r⟩]) (fun r=>[]) }
def zBB.cfg (N:Nat):Cfg:={ ty:=tys,keep:=[],flt:=[],elm:=elm0,live:=[(4,[0,3,23,24,25,26,29,30,31,32])],ord:=[],con:=[],loops:=[(4,loopCon N zBB.sk4 zBB.xs4 (fun {R}=>zBB.l4 (R:=R) N))],joins:=[] }
theorem zBB.cons (N:Nat):ConsOk Tryz.prog (zBB.cfg N).con:=consOk_nil
theorem zBB.h4 {R:Type} (N:Nat) (d:zBB.sk4.D) (kn:zBB.sk4.D→Option R) (kx:XD zBB.xs4→Option R):roundK (zBB.cfg N) N (nthLoop (fnBody Tryz.f115) 0) zBB.sk4 zBB.xs4 d kn kx=zBB.l4 N d kn kx:=by kernel_rfl
theorem zBB.i4 (N:Nat):LoopsOk Tryz.prog (zBB.cfg N) (nthLoop (fnBody Tryz.f115) 0):=loopsL (l:=[]) (by kernel_rfl) trivial
theorem zBB.o4 (N:Nat):LoopOk Tryz.prog (nthLoop (fnBody Tryz.f115) 0) (loopCon N zBB.sk4 zBB.xs4 (fun {R}=>zBB.l4 (R:=R) N)):=loop_ok (g:=zBB.cfg N) tys_ok (zBB.cons N) mixed (zBB.i4 N) (fun d kn kx=>zBB.h4 N d kn kx)
theorem zBB.ls (N:Nat):LoopsOk Tryz.prog (zBB.cfg N) (fnBody Tryz.f115):=loopsL (l:=[nthLoop (fnBody Tryz.f115) 0]) (by kernel_rfl) ⟨loopOne (L0:=loopCon N zBB.sk4 zBB.xs4 (fun {R}=>zBB.l4 (R:=R) N)) (id:=4) (by kernel_rfl) (by kernel_rfl) (zBB.o4 N),trivial⟩
theorem zBB.q4 {R R':Type} {N n:Nat} {d} {k} {g:R→Option R'}:bindF (loopP (zBB.l4 N) n d k) g=loopP (zBB.l4 N) n d fun e=>bindF (k e) g:=bindF_loopP (fun d kn kx=>by simp only [zBB.l4,bindF_ifB,bindF_bindO,bindF_pure,bindF_none,bindF_onSum]) n d k
theorem zBB.b (N:Nat) (x0:den .str):body (zBB.cfg N) N Tryz.f115 [.one] [.v] [(false,.imm)] [⟨.str,.imm,x0⟩] (fun r i=>some (r,i))=bindO (zBB N x0) fun r=>some ([⟨.bool,.imm,r⟩],[]):=by
  show _=bindF _ _
  conv=>rhs;simp only [zBB,bindF_ifB,bindF_bindO,bindF_pure,bindF_none,bindF_onSum,zBB.q4]
  kernel_rfl
theorem zBB.ok (N:Nat):ConOk Tryz.prog 115 [.one] (zBB.con N):=ok1 (g:=zBB.cfg N) (N:=N) (res:=[(false,.imm)]) tys_ok (zBB.cons N) mixed Tryz.func115 (zBB.ls N) rfl (zBB.b N)
theorem zBB.det (N:Nat):ConDet (zBB.con N):=det1
end Go.AE.F
end
