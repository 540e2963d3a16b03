/- The printed functions are what the program comes to: contracts. -/
import Derived.Test.YtkknmokglbhheaaGreatLMachineL0
noncomputable section
namespace Go.AE.F
open Go.AE Go.Proofs
set_option maxRecDepth 100000
def zCO.con (N:Nat):Con:={ modes:=[],ptrs:=[false],fn:=fun ds k=>match ds with | []=>bindO (zCO N) fun r=>k [⟨(.sl 9 .str),(.own .imm),r⟩] [] | _=>none }
def zCO.cfg (N:Nat):Cfg:={ ty:=tys,keep:=[],flt:=[],elm:=elm0,live:=[],ord:=[],con:=[],loops:=[],joins:=[] }
theorem zCO.cons (N:Nat):ConsOk Tryz.prog (zCO.cfg N).con:=consOk_nil
theorem zCO.ls (N:Nat):LoopsOk Tryz.prog (zCO.cfg N) (fnBody Tryz.f123):=loopsL (l:=[]) (by kernel_rfl) trivial
theorem zCO.b (N:Nat) :body (zCO.cfg N) N Tryz.f123 [] [] [(false,(.own .imm))] [] (fun r i=>some (r,i))=bindO (zCO N) fun r=>some ([⟨(.sl 9 .str),(.own .imm),r⟩],[]):=by
  show _=bindF _ _
  conv=>rhs;simp only [zCO,bindF_ifB,bindF_bindO,bindF_pure,bindF_none,bindF_onSum]
  kernel_rfl
theorem zCO.ok (N:Nat):ConOk Tryz.prog 123 [] (zCO.con N):=by
  refine conOk_mk (g:=zCO.cfg N) (N:=N) (res:=[(false,(.own .imm))]) tys_ok (zCO.cons N) mixed Tryz.func123 (zCO.ls N) rfl rfl ?_
  intro ds R k y h
  cases ds with
  | cons _ _=>exact none_some h
  | nil =>
  have h0:(bindO (zCO N) fun r=>k [⟨(.sl 9 .str),(.own .imm),r⟩] [])=some y:=h
  clear h
  exact con_fin (zCO.b N) h0
theorem zCO.det (N:Nat):ConDet (zCO.con N):=by
  intro ds R k y h
  cases ds with
  | cons _ _=>exact none_some h
  | nil =>
  have h0:(bindO (zCO N) fun r=>k [⟨(.sl 9 .str),(.own .imm),r⟩] [])=some y:=h
  clear h
  obtain ⟨r,e,h⟩:=bindO_some h0
  refine ⟨_,_,h,fun k'=>?_⟩
  show (bindO (zCO N) fun r=>k' [⟨(.sl 9 .str),(.own .imm),r⟩] [])=_
  skip
  rw [e]
  rfl
def zBA.sk3:Skel:=⟨.pv .str::(dd 2 (.ov 50 []::(.pv (.int .i64)::(dd 18 [])))),[⟨50,(.sl 9 .str),(.own .imm),false,false⟩]⟩
def zBA.xs3:List XS:=[⟨.exit 0,[],⟨dd 23 [],[]⟩⟩,⟨.ret,[2],⟨dd 2 (.pv (.int .i64)::(dd 20 [])),[]⟩⟩]
def zBA.con (N:Nat):Con:={ modes:=[.v],ptrs:=[false],fn:=fn1 .str .imm (zBA N) (fun r=>[⟨(.int .i64),.imm,r⟩]) (fun r=>[]) }
def zBA.cfg (N:Nat):Cfg:={ ty:=tys,keep:=[5],flt:=[],elm:=elm0,live:=[(3,[0,3,4,19,20])],ord:=[],con:=[((123,[]),zCO.con N)],loops:=[(3,loopCon N zBA.sk3 zBA.xs3 (fun {R}=>zBA.l3 (R:=R) N))],joins:=[] }
theorem zBA.cons (N:Nat):ConsOk Tryz.prog (zBA.cfg N).con:=(consOk_cons (hb123) (zCO.ok N) (zCO.det N) consOk_nil)
theorem zBA.h3 {R:Type} (N:Nat) (d:zBA.sk3.D) (kn:zBA.sk3.D→Option R) (kx:XD zBA.xs3→Option R):roundK (zBA.cfg N) N (nthLoop (fnBody Tryz.f116) 0) zBA.sk3 zBA.xs3 d kn kx=zBA.l3 N d kn kx:=by kernel_rfl
theorem zBA.i3 (N:Nat):LoopsOk Tryz.prog (zBA.cfg N) (nthLoop (fnBody Tryz.f116) 0):=loopsL (l:=[]) (by kernel_rfl) trivial
theorem zBA.o3 (N:Nat):LoopOk Tryz.prog (nthLoop (fnBody Tryz.f116) 0) (loopCon N zBA.sk3 zBA.xs3 (fun {R}=>zBA.l3 (R:=R) N)):=loop_ok (g:=zBA.cfg N) tys_ok (zBA.cons N) mixed (zBA.i3 N) (fun d kn kx=>zBA.h3 N d kn kx)
theorem zBA.ls (N:Nat):LoopsOk Tryz.prog (zBA.cfg N) (fnBody Tryz.f116):=loopsL (l:=[nthLoop (fnBody Tryz.f116) 0]) (by kernel_rfl) ⟨loopOne (L0:=loopCon N zBA.sk3 zBA.xs3 (fun {R}=>zBA.l3 (R:=R) N)) (id:=3) (by kernel_rfl) (by kernel_rfl) (zBA.o3 N),trivial⟩
theorem zBA.q3 {R R':Type} {N n:Nat} {d} {k} {g:R→Option R'}:bindF (loopP (zBA.l3 N) n d k) g=loopP (zBA.l3 N) n d fun e=>bindF (k e) g:=bindF_loopP (fun d kn kx=>by simp only [zBA.l3,bindF_ifB,bindF_bindO,bindF_pure,bindF_none,bindF_onSum]) n d k
theorem zBA.b (N:Nat) (x0:den .str):body (zBA.cfg N) N Tryz.f116 [.one] [.v] [(false,.imm)] [⟨.str,.imm,x0⟩] (fun r i=>some (r,i))=bindO (zBA N x0) fun r=>some ([⟨(.int .i64),.imm,r⟩],[]):=by
  show _=bindF _ _
  conv=>rhs;simp only [zBA,bindF_ifB,bindF_bindO,bindF_pure,bindF_none,bindF_onSum,zBA.q3]
  kernel_rfl
theorem zBA.ok (N:Nat):ConOk Tryz.prog 116 [.one] (zBA.con N):=ok1 (g:=zBA.cfg N) (N:=N) (res:=[(false,.imm)]) tys_ok (zBA.cons N) mixed Tryz.func116 (zBA.ls N) rfl (zBA.b N)
theorem zBA.det (N:Nat):ConDet (zBA.con N):=det1
def zD0.con (N:Nat):Con:={ modes:=[.v],ptrs:=[false],fn:=fn1 .str .imm (zD0 N) (fun r=>[⟨.bool,.imm,r⟩]) (fun r=>[]) }
def zD0.cfg (N:Nat):Cfg:={ ty:=tys,keep:=[4,12],flt:=[],elm:=elm0,live:=[],ord:=[],con:=[((115,[.one]),zBB.con N),((116,[.one]),zBA.con N)],loops:=[],joins:=[] }
theorem zD0.cons (N:Nat):ConsOk Tryz.prog (zD0.cfg N).con:=(consOk_cons (hb115) (zBB.ok N) (zBB.det N) (consOk_cons (hb116) (zBA.ok N) (zBA.det N) consOk_nil))
theorem zD0.ls (N:Nat):LoopsOk Tryz.prog (zD0.cfg N) (fnBody Tryz.f110):=loopsL (l:=[]) (by kernel_rfl) trivial
theorem zD0.b (N:Nat) (x0:den .str):body (zD0.cfg N) N Tryz.f110 [.one] [.v] [(false,.imm)] [⟨.str,.imm,x0⟩] (fun r i=>some (r,i))=bindO (zD0 N x0) fun r=>some ([⟨.bool,.imm,r⟩],[]):=by
  show _=bindF _ _
  conv=>rhs;simp only [zD0,bindF_ifB,bindF_bindO,bindF_pure,bindF_none,bindF_onSum]
  kernel_rfl
theorem zD0.ok (N:Nat):ConOk Tryz.prog 110 [.one] (zD0.con N):=ok1 (g:=zD0.cfg N) (N:=N) (res:=[(false,.imm)]) tys_ok (zD0.cons N) mixed Tryz.func110 (zD0.ls N) rfl (zD0.b N)
theorem zD0.det (N:Nat):ConDet (zD0.con N):=det1
def zAU.sk3:Skel:=⟨.pv .str::(dd 2 (.ov 50 []::(.pv (.int .i64)::(dd 14 [])))),[⟨50,(.sl 9 .str),(.own .imm),false,false⟩]⟩
def zAU.xs3:List XS:=[⟨.exit 0,[],⟨dd 19 [],[]⟩⟩,⟨.ret,[2],⟨dd 2 (.pv (.int .i64)::(dd 16 [])),[]⟩⟩]
def zAU.con (N:Nat):Con:={ modes:=[.v],ptrs:=[false],fn:=fn1 .str .imm (zAU N) (fun r=>[⟨(.int .i64),.imm,r⟩]) (fun r=>[]) }
def zAU.cfg (N:Nat):Cfg:={ ty:=tys,keep:=[5],flt:=[],elm:=elm0,live:=[(3,[0,3,4])],ord:=[],con:=[((81,[]),zBM.con N)],loops:=[(3,loopCon N zAU.sk3 zAU.xs3 (fun {R}=>zAU.l3 (R:=R) N))],joins:=[] }
theorem zAU.cons (N:Nat):ConsOk Tryz.prog (zAU.cfg N).con:=(consOk_cons (hb81) (zBM.ok N) (zBM.det N) consOk_nil)
theorem zAU.h3 {R:Type} (N:Nat) (d:zAU.sk3.D) (kn:zAU.sk3.D→Option R) (kx:XD zAU.xs3→Option R):roundK (zAU.cfg N) N (nthLoop (fnBody Tryz.f55) 0) zAU.sk3 zAU.xs3 d kn kx=zAU.l3 N d kn kx:=by kernel_rfl
theorem zAU.i3 (N:Nat):LoopsOk Tryz.prog (zAU.cfg N) (nthLoop (fnBody Tryz.f55) 0):=loopsL (l:=[]) (by kernel_rfl) trivial
theorem zAU.o3 (N:Nat):LoopOk Tryz.prog (nthLoop (fnBody Tryz.f55) 0) (loopCon N zAU.sk3 zAU.xs3 (fun {R}=>zAU.l3 (R:=R) N)):=loop_ok (g:=zAU.cfg N) tys_ok (zAU.cons N) mixed (zAU.i3 N) (fun d kn kx=>zAU.h3 N d kn kx)
theorem zAU.ls (N:Nat):LoopsOk Tryz.prog (zAU.cfg N) (fnBody Tryz.f55):=loopsL (l:=[nthLoop (fnBody Tryz.f55) 0]) (by kernel_rfl) ⟨loopOne (L0:=loopCon N zAU.sk3 zAU.xs3 (fun {R}=>zAU.l3 (R:=R) N)) (id:=3) (by kernel_rfl) (by kernel_rfl) (zAU.o3 N),trivial⟩
theorem zAU.q3 {R R':Type} {N n:Nat} {d} {k} {g:R→Option R'}:bindF (loopP (zAU.l3 N) n d k) g=loopP (zAU.l3 N) n d fun e=>bindF (k e) g:=bindF_loopP (fun d kn kx=>by simp only [zAU.l3,bindF_ifB,bindF_bindO,bindF_pure,bindF_none,bindF_onSum]) n d k
theorem zAU.b (N:Nat) (x0:den .str):body (zAU.cfg N) N Tryz.f55 [.one] [.v] [(false,.imm)] [⟨.str,.imm,x0⟩] (fun r i=>some (r,i))=bindO (zAU N x0) fun r=>some ([⟨(.int .i64),.imm,r⟩],[]):=by
  show _=bindF _ _
  conv=>rhs;simp only [zAU,bindF_ifB,bindF_bindO,bindF_pure,bindF_none,bindF_onSum,zAU.q3]
  kernel_rfl
theorem zAU.ok (N:Nat):ConOk Tryz.prog 55 [.one] (zAU.con N):=ok1 (g:=zAU.cfg N) (N:=N) (res:=[(false,.imm)]) tys_ok (zAU.cons N) mixed Tryz.func55 (zAU.ls N) rfl (zAU.b N)
theorem zAU.det (N:Nat):ConDet (zAU.con N):=det1
def zDC.con (N:Nat):Con:={ modes:=[.v],ptrs:=[false],fn:=fn1 s70 .imm (zDC N) (fun r=>[⟨.bool,.imm,r⟩]) (fun r=>[]) }
def zDC.cfg (N:Nat):Cfg:={ ty:=tys,keep:=[37,47],flt:=[],elm:=elm0,live:=[],ord:=[],con:=[((110,[.one]),zD0.con N),((55,[.one]),zAU.con N)],loops:=[],joins:=[] }
theorem zDC.cons (N:Nat):ConsOk Tryz.prog (zDC.cfg N).con:=(consOk_cons (hb110) (zD0.ok N) (zD0.det N) (consOk_cons (hb55) (zAU.ok N) (zAU.det N) consOk_nil))
theorem zDC.ls (N:Nat):LoopsOk Tryz.prog (zDC.cfg N) (fnBody Tryz.f93):=loopsL (l:=[]) (by kernel_rfl) trivial
theorem zDC.b (N:Nat) (x0:den s70):body (zDC.cfg N) N Tryz.f93 [.one] [.v] [(false,.imm)] [⟨s70,.imm,x0⟩] (fun r i=>some (r,i))=bindO (zDC N x0) fun r=>some ([⟨.bool,.imm,r⟩],[]):=by
  show _=bindF _ _
  conv=>rhs;simp only [zDC,bindF_ifB,bindF_bindO,bindF_pure,bindF_none,bindF_onSum]
  kernel_rfl
theorem zDC.ok (N:Nat):ConOk Tryz.prog 93 [.one] (zDC.con N):=ok1 (g:=zDC.cfg N) (N:=N) (res:=[(false,.imm)]) tys_ok (zDC.cons N) mixed Tryz.func93 (zDC.ls N) rfl (zDC.b N)
theorem zDC.det (N:Nat):ConDet (zDC.con N):=det1
def zD6.con (N:Nat):Con:={ modes:=[.v],ptrs:=[false],fn:=fn1 (.int .i64) .imm (zD6 N) (fun r=>[⟨.bool,.imm,r⟩]) (fun r=>[]) }
def zD6.cfg (N:Nat):Cfg:={ ty:=tys,keep:=[],flt:=[],elm:=elm0,live:=[],ord:=[],con:=[],loops:=[],joins:=[] }
theorem zD6.cons (N:Nat):ConsOk Tryz.prog (zD6.cfg N).con:=consOk_nil
theorem zD6.ls (N:Nat):LoopsOk Tryz.prog (zD6.cfg N) (fnBody Tryz.f94):=loopsL (l:=[]) (by kernel_rfl) trivial
theorem zD6.b (N:Nat) (x0:den (.int .i64)):body (zD6.cfg N) N Tryz.f94 [.one] [.v] [(false,.imm)] [⟨(.int .i64),.imm,x0⟩] (fun r i=>some (r,i))=bindO (zD6 N x0) fun r=>some ([⟨.bool,.imm,r⟩],[]):=by
  show _=bindF _ _
  conv=>rhs;simp only [zD6,bindF_ifB,bindF_bindO,bindF_pure,bindF_none,bindF_onSum]
  kernel_rfl
theorem zD6.ok (N:Nat):ConOk Tryz.prog 94 [.one] (zD6.con N):=ok1 (g:=zD6.cfg N) (N:=N) (res:=[(false,.imm)]) tys_ok (zD6.cons N) mixed Tryz.func94 (zD6.ls N) rfl (zD6.b N)
theorem zD6.det (N:Nat):ConDet (zD6.con N):=det1
def zD7.con (N:Nat):Con:={ modes:=[.v],ptrs:=[false],fn:=fn1 (.int .i64) .imm (zD7 N) (fun r=>[⟨.bool,.imm,r⟩]) (fun r=>[]) }
def zD7.cfg (N:Nat):Cfg:={ ty:=tys,keep:=[],flt:=[],elm:=elm0,live:=[],ord:=[],con:=[],loops:=[],joins:=[] }
theorem zD7.cons (N:Nat):ConsOk Tryz.prog (zD7.cfg N).con:=consOk_nil
theorem zD7.ls (N:Nat):LoopsOk Tryz.prog (zD7.cfg N) (fnBody Tryz.f95):=loopsL (l:=[]) (by kernel_rfl) trivial
theorem zD7.b (N:Nat) (x0:den (.int .i64)):body (zD7.cfg N) N Tryz.f95 [.one] [.v] [(false,.imm)] [⟨(.int .i64),.imm,x0⟩] (fun r i=>some (r,i))=bindO (zD7 N x0) fun r=>some ([⟨.bool,.imm,r⟩],[]):=by
  show _=bindF _ _
  conv=>rhs;simp only [zD7,bindF_ifB,bindF_bindO,bindF_pure,bindF_none,bindF_onSum]
  kernel_rfl
theorem zD7.ok (N:Nat):ConOk Tryz.prog 95 [.one] (zD7.con N):=ok1 (g:=zD7.cfg N) (N:=N) (res:=[(false,.imm)]) tys_ok (zD7.cons N) mixed Tryz.func95 (zD7.ls N) rfl (zD7.b N)
theorem zD7.det (N:Nat):ConDet (zD7.con N):=det1
def zD8.con (N:Nat):Con:={ modes:=[.v],ptrs:=[false],fn:=fn1 s70 .imm (zD8 N) (fun r=>[⟨.str,.imm,r⟩]) (fun r=>[]) }
def zD8.cfg (N:Nat):Cfg:={ ty:=tys,keep:=[],flt:=[],elm:=elm0,live:=[],ord:=[],con:=[],loops:=[],joins:=[] }
theorem zD8.cons (N:Nat):ConsOk Tryz.prog (zD8.cfg N).con:=consOk_nil
theorem zD8.ls (N:Nat):LoopsOk Tryz.prog (zD8.cfg N) (fnBody Tryz.f96):=loopsL (l:=[]) (by kernel_rfl) trivial
theorem zD8.b (N:Nat) (x0:den s70):body (zD8.cfg N) N Tryz.f96 [.one] [.v] [(false,.imm)] [⟨s70,.imm,x0⟩] (fun r i=>some (r,i))=bindO (zD8 N x0) fun r=>some ([⟨.str,.imm,r⟩],[]):=by
  show _=bindF _ _
  conv=>rhs;simp only [zD8,bindF_ifB,bindF_bindO,bindF_pure,bindF_none,bindF_onSum]
  kernel_rfl
theorem zD8.ok (N:Nat):ConOk Tryz.prog 96 [.one] (zD8.con N):=ok1 (g:=zD8.cfg N) (N:=N) (res:=[(false,.imm)]) tys_ok (zD8.cons N) mixed Tryz.func96 (zD8.ls N) rfl (zD8.b N)
theorem zD8.det (N:Nat):ConDet (zD8.con N):=det1
def zAT.sk11:Skel:=⟨.pv s51::(dd 2 (.pv (.int .i64)::(dd 5 (.ptr 50 []::(.pv .str::(.pv (.int .i64)::(.pv (.int .i64)::(dd 91 [])))))))),[⟨50,s70,.imm,true,false⟩]⟩
def zAT.xs11:List XS:=[⟨.exit 0,[11],⟨dd 11 (.pv (.int .i64)::(dd 92 [])),[]⟩⟩,⟨.ret,[8],⟨dd 8 (.pv (.int .i64)::(dd 95 [])),[]⟩⟩]
def zAT.con (N:Nat):Con:={ modes:=[.v,.v,.v,.v],ptrs:=[false],fn:=fun ds k=>match ds with | [d0,d1,d2,d3]=>castDm s51 .imm d0 fun x0=>castDm (.int .i64) .imm d1 fun x1=>castDm (.int .u8) .imm d2 fun x2=>castDm (.int .i64) .imm d3 fun x3=>bindO (zAT N x0 x1 x2 x3) fun r=>k [⟨(.int .i64),.imm,r⟩] [] | _=>none }
theorem zAT.det (N:Nat):ConDet (zAT.con N):=by
  intro ds R k y h
  cases ds with
  | nil=>exact none_some h
  | cons d0 ds =>
  cases ds with
  | nil=>exact none_some h
  | cons d1 ds =>
  cases ds with
  | nil=>exact none_some h
  | cons d2 ds =>
  cases ds with
  | nil=>exact none_some h
  | cons d3 ds =>
  cases ds with
  | cons _ _=>exact none_some h
  | nil =>
  have h0:(castDm s51 .imm d0 fun x0=>castDm (.int .i64) .imm d1 fun x1=>castDm (.int .u8) .imm d2 fun x2=>castDm (.int .i64) .imm d3 fun x3=>bindO (zAT N x0 x1 x2 x3) fun r=>k [⟨(.int .i64),.imm,r⟩] [])=some y:=h
  clear h
  obtain ⟨x0,rfl,h1⟩:=castDm_eq h0
  obtain ⟨x1,rfl,h2⟩:=castDm_eq h1
  obtain ⟨x2,rfl,h3⟩:=castDm_eq h2
  obtain ⟨x3,rfl,h4⟩:=castDm_eq h3
  obtain ⟨r,e,h⟩:=bindO_some h4
  refine ⟨_,_,h,fun k'=>?_⟩
  show (castDm s51 .imm (⟨s51,.imm,x0⟩:Dy) fun x0=>castDm (.int .i64) .imm (⟨(.int .i64),.imm,x1⟩:Dy) fun x1=>castDm (.int .u8) .imm (⟨(.int .u8),.imm,x2⟩:Dy) fun x2=>castDm (.int .i64) .imm (⟨(.int .i64),.imm,x3⟩:Dy) fun x3=>bindO (zAT N x0 x1 x2 x3) fun r=>k' [⟨(.int .i64),.imm,r⟩] [])=_
  simp only [castDm_self]
  rw [e]
  rfl
def zAT.cfg (N:Nat):Cfg:={ ty:=tys,keep:=[27,47,57,62,100],flt:=[],elm:=elm0,live:=[(11,[0,3,9,10,11,12])],ord:=[],con:=[((93,[.one]),zDC.con N),((94,[.one]),zD6.con N),((95,[.one]),zD7.con N),((96,[.one]),zD8.con N),((75,[.one,.one,.one,.one]),zAT.con N)],loops:=[(11,loopCon N zAT.sk11 zAT.xs11 (fun {R}=>zAT.l11 (R:=R) N (zAT N)))],joins:=[(12,[⟨.normal,[0,3,9,10,11,12],⟨.pv s51::(dd 2 (.pv (.int .i64)::(dd 5 (.ptr 50 []::(.pv .str::(.pv (.int .i64)::(.pv (.int .i64)::(dd 91 [])))))))),[⟨50,s70,.imm,true,false⟩]⟩⟩,⟨.ret,[8],⟨dd 8 (.pv (.int .i64)::(dd 95 [])),[]⟩⟩])] }
theorem zAT.cons (N:Nat) (h:ConOk Tryz.prog 75 [.one,.one,.one,.one] (zAT.con N)):ConsOk Tryz.prog (zAT.cfg N).con:=(consOk_cons (hb93) (zDC.ok N) (zDC.det N) (consOk_cons (hb94) (zD6.ok N) (zD6.det N) (consOk_cons (hb95) (zD7.ok N) (zD7.det N) (consOk_cons (hb96) (zD8.ok N) (zD8.det N) (consOk_cons (hb75) h (zAT.det N) consOk_nil)))))
theorem zAT.h11 {R:Type} (N:Nat) (d:zAT.sk11.D) (kn:zAT.sk11.D→Option R) (kx:XD zAT.xs11→Option R):roundK (zAT.cfg N) N (nthLoop (fnBody Tryz.f75) 0) zAT.sk11 zAT.xs11 d kn kx=zAT.l11 N (zAT N) d kn kx:=by kernel_rfl
theorem zAT.i11 (N:Nat) (h:ConOk Tryz.prog 75 [.one,.one,.one,.one] (zAT.con N)):LoopsOk Tryz.prog (zAT.cfg N) (nthLoop (fnBody Tryz.f75) 0):=loopsL (l:=[]) (by kernel_rfl) trivial
theorem zAT.o11 (N:Nat) (h:ConOk Tryz.prog 75 [.one,.one,.one,.one] (zAT.con N)):LoopOk Tryz.prog (nthLoop (fnBody Tryz.f75) 0) (loopCon N zAT.sk11 zAT.xs11 (fun {R}=>zAT.l11 (R:=R) N (zAT N))):=loop_ok (g:=zAT.cfg N) tys_ok (zAT.cons N h) mixed (zAT.i11 N h) (fun d kn kx=>zAT.h11 N d kn kx)
theorem zAT.ls (N:Nat) (h:ConOk Tryz.prog 75 [.one,.one,.one,.one] (zAT.con N)):LoopsOk Tryz.prog (zAT.cfg N) (fnBody Tryz.f75):=loopsL (l:=[nthLoop (fnBody Tryz.f75) 0]) (by kernel_rfl) ⟨loopOne (L0:=loopCon N zAT.sk11 zAT.xs11 (fun {R}=>zAT.l11 (R:=R) N (zAT N))) (id:=11) (by kernel_rfl) (by kernel_rfl) (zAT.o11 N h),trivial⟩
theorem zAT.q11 {R R':Type} {N n:Nat} {rc} {d} {k} {g:R→Option R'}:bindF (loopP (zAT.l11 N rc) n d k) g=loopP (zAT.l11 N rc) n d fun e=>bindF (k e) g:=bindF_loopP (fun d kn kx=>by simp only [zAT.l11,bindF_ifB,bindF_bindO,bindF_pure,bindF_none,bindF_onSum]) n d k
theorem zAT.b (N:Nat) (x0:den s51) (x1:den (.int .i64)) (x2:den (.int .u8)) (x3:den (.int .i64)):body (zAT.cfg N) N Tryz.f75 [.one,.one,.one,.one] [.v,.v,.v,.v] [(false,.imm)] [⟨s51,.imm,x0⟩,⟨(.int .i64),.imm,x1⟩,⟨(.int .u8),.imm,x2⟩,⟨(.int .i64),.imm,x3⟩] (fun r i=>some (r,i))=bindO (zAT.st N (zAT N) x0 x1 x2 x3) fun r=>some ([⟨(.int .i64),.imm,r⟩],[]):=by
  show _=bindF _ _
  conv=>rhs;simp only [zAT.st,bindF_ifB,bindF_bindO,bindF_pure,bindF_none,bindF_onSum,zAT.q11]
  kernel_rfl
theorem zAT.ok0:ConOk Tryz.prog 75 [.one,.one,.one,.one] (zAT.con 0):=by
  intro w m H vs fl ds hp ha hc hH hD R k y h
  cases ds with
  | nil=>exact none_some h
  | cons d0 ds =>
  cases ds with
  | nil=>exact none_some h
  | cons d1 ds =>
  cases ds with
  | nil=>exact none_some h
  | cons d2 ds =>
  cases ds with
  | nil=>exact none_some h
  | cons d3 ds =>
  cases ds with
  | cons _ _=>exact none_some h
  | nil =>
  have h0:(castDm s51 .imm d0 fun x0=>castDm (.int .i64) .imm d1 fun x1=>castDm (.int .u8) .imm d2 fun x2=>castDm (.int .i64) .imm d3 fun x3=>bindO (zAT 0 x0 x1 x2 x3) fun r=>k [⟨(.int .i64),.imm,r⟩] [])=some y:=h
  clear h
  obtain ⟨x0,rfl,h1⟩:=castDm_eq h0
  obtain ⟨x1,rfl,h2⟩:=castDm_eq h1
  obtain ⟨x2,rfl,h3⟩:=castDm_eq h2
  obtain ⟨x3,rfl,h4⟩:=castDm_eq h3
  exact none_some h4
theorem zAT.okS (N:Nat) (h:ConOk Tryz.prog 75 [.one,.one,.one,.one] (zAT.con N)):ConOk Tryz.prog 75 [.one,.one,.one,.one] (zAT.con (N+1)):=by
  refine conOk_mk (g:=zAT.cfg N) (N:=N) (res:=[(false,.imm)]) tys_ok (zAT.cons N h) mixed Tryz.func75 (zAT.ls N h) rfl rfl ?_
  intro ds R k y h
  cases ds with
  | nil=>exact none_some h
  | cons d0 ds =>
  cases ds with
  | nil=>exact none_some h
  | cons d1 ds =>
  cases ds with
  | nil=>exact none_some h
  | cons d2 ds =>
  cases ds with
  | nil=>exact none_some h
  | cons d3 ds =>
  cases ds with
  | cons _ _=>exact none_some h
  | nil =>
  have h0:(castDm s51 .imm d0 fun x0=>castDm (.int .i64) .imm d1 fun x1=>castDm (.int .u8) .imm d2 fun x2=>castDm (.int .i64) .imm d3 fun x3=>bindO (zAT.st N (zAT N) x0 x1 x2 x3) fun r=>k [⟨(.int .i64),.imm,r⟩] [])=some y:=h
  clear h
  obtain ⟨x0,rfl,h1⟩:=castDm_eq h0
  obtain ⟨x1,rfl,h2⟩:=castDm_eq h1
  obtain ⟨x2,rfl,h3⟩:=castDm_eq h2
  obtain ⟨x3,rfl,h4⟩:=castDm_eq h3
  exact con_fin (zAT.b N x0 x1 x2 x3) h4
theorem zAT.okA:∀ N:Nat,ConOk Tryz.prog 75 [.one,.one,.one,.one] (zAT.con N)
| 0=>zAT.ok0
| N+1=>zAT.okS N (zAT.okA N)
theorem zAT.ok (N:Nat):ConOk Tryz.prog 75 [.one,.one,.one,.one] (zAT.con N):=(zAT.okA N)
def zAL.sk3:Skel:=⟨.pv s51::(dd 2 (.ov 50 []::(.pv (.int .i64)::(dd 53 [])))),[⟨50,(.sl 9 .str),(.own .imm),false,false⟩]⟩
def zAL.xs3:List XS:=[⟨.exit 0,[3],⟨dd 3 (.ov 50 []::(dd 54 [])),[⟨50,(.sl 9 .str),(.own .imm),false,false⟩]⟩⟩]
def zAL.sk8:Skel:=⟨.pv s51::(dd 2 (.ov 50 []::(.pv (.int .i64)::(.pv .bool::(.pv (.int .i64)::(dd 51 [])))))),[⟨50,(.sl 9 .str),(.own .imm),false,false⟩]⟩
def zAL.xs8:List XS:=[⟨.exit 2,[0,3,4,5,21,22,23,24,25,26,36,37,38,39,40,41,42,43,44,45],⟨.pv s51::(dd 2 (.ov 50 []::(.pv (.int .i64)::(.pv .bool::(dd 52 []))))),[⟨50,(.sl 9 .str),(.own .imm),false,false⟩]⟩⟩]
def zAL.con (N:Nat):Con:={ modes:=[.v],ptrs:=[false],fn:=fn1 s51 .imm (zAL N) (fun r=>[⟨(.sl 9 .str),(.own .imm),r⟩]) (fun r=>[]) }
def zAL.cfg (N:Nat):Cfg:={ ty:=tys,keep:=[],flt:=[],elm:=elm0,live:=[(8,[0,3,4,5,6,21,22,23,24,25,26,36,37,38,39,40,41,42,43,44,45]),(3,[0,3,4,21,22,23,24,25,26,36,37,38,39,40,41,42,43,44,45])],ord:=[(10,[0,1,2,3,4,5,6,7,8,9,10,11,12,13])],con:=[],loops:=[(3,loopCon N zAL.sk3 zAL.xs3 (fun {R}=>zAL.l3 (R:=R) N)),(8,loopCon N zAL.sk8 zAL.xs8 (fun {R}=>zAL.l8 (R:=R) N))],joins:=[(9,[⟨.normal,[0,3,4,5,6,21,22,23,24,25,26,36,37,38,39,40,41,42,43,44,45],⟨.pv s51::(dd 2 (.ov 50 []::(.pv (.int .i64)::(.pv .bool::(.pv (.int .i64)::(dd 51 [])))))),[⟨50,(.sl 9 .str),(.own .imm),false,false⟩]⟩⟩]),(4,[⟨.normal,[0,3,4,21,22,23,24,25,26,36,37,38,39,40,41,42,43,44,45],⟨.pv s51::(dd 2 (.ov 50 []::(.pv (.int .i64)::(dd 53 [])))),[⟨50,(.sl 9 .str),(.own .imm),false,false⟩]⟩⟩])] }
theorem zAL.cons (N:Nat):ConsOk Tryz.prog (zAL.cfg N).con:=consOk_nil
theorem zAL.h8 {R:Type} (N:Nat) (d:zAL.sk8.D) (kn:zAL.sk8.D→Option R) (kx:XD zAL.xs8→Option R):roundK (zAL.cfg N) N (nthLoop (fnBody Tryz.f47) 1) zAL.sk8 zAL.xs8 d kn kx=zAL.l8 N d kn kx:=by kernel_rfl
theorem zAL.i8 (N:Nat):LoopsOk Tryz.prog (zAL.cfg N) (nthLoop (fnBody Tryz.f47) 1):=loopsL (l:=[]) (by kernel_rfl) trivial
theorem zAL.o8 (N:Nat):LoopOk Tryz.prog (nthLoop (fnBody Tryz.f47) 1) (loopCon N zAL.sk8 zAL.xs8 (fun {R}=>zAL.l8 (R:=R) N)):=loop_ok (g:=zAL.cfg N) tys_ok (zAL.cons N) mixed (zAL.i8 N) (fun d kn kx=>zAL.h8 N d kn kx)
theorem zAL.h3 {R:Type} (N:Nat) (d:zAL.sk3.D) (kn:zAL.sk3.D→Option R) (kx:XD zAL.xs3→Option R):roundK (zAL.cfg N) N (nthLoop (fnBody Tryz.f47) 0) zAL.sk3 zAL.xs3 d kn kx=zAL.l3 N d kn kx:=by kernel_rfl
theorem zAL.i3 (N:Nat):LoopsOk Tryz.prog (zAL.cfg N) (nthLoop (fnBody Tryz.f47) 0):=loopsL (l:=[nthLoop (fnBody Tryz.f47) 1]) (by kernel_rfl) ⟨loopOne (L0:=loopCon N zAL.sk8 zAL.xs8 (fun {R}=>zAL.l8 (R:=R) N)) (id:=8) (by kernel_rfl) (by kernel_rfl) (zAL.o8 N),trivial⟩
theorem zAL.o3 (N:Nat):LoopOk Tryz.prog (nthLoop (fnBody Tryz.f47) 0) (loopCon N zAL.sk3 zAL.xs3 (fun {R}=>zAL.l3 (R:=R) N)):=loop_ok (g:=zAL.cfg N) tys_ok (zAL.cons N) mixed (zAL.i3 N) (fun d kn kx=>zAL.h3 N d kn kx)
theorem zAL.ls (N:Nat):LoopsOk Tryz.prog (zAL.cfg N) (fnBody Tryz.f47):=loopsL (l:=[nthLoop (fnBody Tryz.f47) 0,nthLoop (fnBody Tryz.f47) 1]) (by kernel_rfl) ⟨loopOne (L0:=loopCon N zAL.sk3 zAL.xs3 (fun {R}=>zAL.l3 (R:=R) N)) (id:=3) (by kernel_rfl) (by kernel_rfl) (zAL.o3 N),⟨loopOne (L0:=loopCon N zAL.sk8 zAL.xs8 (fun {R}=>zAL.l8 (R:=R) N)) (id:=8) (by kernel_rfl) (by kernel_rfl) (zAL.o8 N),trivial⟩⟩
theorem zAL.q8 {R R':Type} {N n:Nat} {d} {k} {g:R→Option R'}:bindF (loopP (zAL.l8 N) n d k) g=loopP (zAL.l8 N) n d fun e=>bindF (k e) g:=bindF_loopP (fun d kn kx=>by simp only [zAL.l8,bindF_ifB,bindF_bindO,bindF_pure,bindF_none,bindF_onSum]) n d k
theorem zAL.q3 {R R':Type} {N n:Nat} {d} {k} {g:R→Option R'}:bindF (loopP (zAL.l3 N) n d k) g=loopP (zAL.l3 N) n d fun e=>bindF (k e) g:=bindF_loopP (fun d kn kx=>by simp only [zAL.l3,bindF_ifB,bindF_bindO,bindF_pure,bindF_none,bindF_onSum,zAL.q8]) n d k
theorem zAL.b (N:Nat) (x0:den s51):body (zAL.cfg N) N Tryz.f47 [.one] [.v] [(false,(.own .imm))] [⟨s51,.imm,x0⟩] (fun r i=>some (r,i))=bindO (zAL N x0) fun r=>some ([⟨(.sl 9 .str),(.own .imm),r⟩],[]):=by
  show _=bindF _ _
  conv=>rhs;simp only [zAL,bindF_ifB,bindF_bindO,bindF_pure,bindF_none,bindF_onSum,zAL.q3,zAL.q8]
  kernel_rfl
theorem zAL.ok (N:Nat):ConOk Tryz.prog 47 [.one] (zAL.con N):=ok1 (g:=zAL.cfg N) (N:=N) (res:=[(false,(.own .imm))]) tys_ok (zAL.cons N) mixed Tryz.func47 (zAL.ls N) rfl (zAL.b N)
theorem zAL.det (N:Nat):ConDet (zAL.con N):=det1
def zCE.con (N:Nat):Con:={ modes:=[.v],ptrs:=[false],fn:=fn1 s51 .imm (zCE N) (fun r=>[⟨.bool,.imm,r⟩]) (fun r=>[]) }
def zCE.cfg (N:Nat):Cfg:={ ty:=tys,keep:=[8,15],flt:=[],elm:=elm0,live:=[],ord:=[],con:=[((75,[.one,.one,.one,.one]),zAT.con N),((47,[.one]),zAL.con N)],loops:=[],joins:=[] }
theorem zCE.cons (N:Nat):ConsOk Tryz.prog (zCE.cfg N).con:=(consOk_cons (hb75) (zAT.ok N) (zAT.det N) (consOk_cons (hb47) (zAL.ok N) (zAL.det N) consOk_nil))
theorem zCE.ls (N:Nat):LoopsOk Tryz.prog (zCE.cfg N) (fnBody Tryz.f46):=loopsL (l:=[]) (by kernel_rfl) trivial
theorem zCE.b (N:Nat) (x0:den s51):body (zCE.cfg N) N Tryz.f46 [.one] [.v] [(false,.imm)] [⟨s51,.imm,x0⟩] (fun r i=>some (r,i))=bindO (zCE N x0) fun r=>some ([⟨.bool,.imm,r⟩],[]):=by
  show _=bindF _ _
  conv=>rhs;simp only [zCE,bindF_ifB,bindF_bindO,bindF_pure,bindF_none,bindF_onSum]
  kernel_rfl
theorem zCE.ok (N:Nat):ConOk Tryz.prog 46 [.one] (zCE.con N):=ok1 (g:=zCE.cfg N) (N:=N) (res:=[(false,.imm)]) tys_ok (zCE.cons N) mixed Tryz.func46 (zCE.ls N) rfl (zCE.b N)
theorem zCE.det (N:Nat):ConDet (zCE.con N):=det1
def zBD.con (N:Nat):Con:={ modes:=[.io,.v,.v],ptrs:=[false],fn:=fn3 s90 (.pr .imm (.pr .imm (.pr (.own .imm) .imm))) (.int .i64) .imm (.int .i64) .imm (zBD N) (fun r=>[⟨(.int .i64),.imm,r.1⟩]) (fun r=>[⟨s90,(.pr .imm (.pr .imm (.pr (.own .imm) .imm))),r.2⟩]) }
def zBD.cfg (N:Nat):Cfg:={ ty:=tys,keep:=[],flt:=[],elm:=elm0,live:=[],ord:=[],con:=[],loops:=[],joins:=[] }
theorem zBD.cons (N:Nat):ConsOk Tryz.prog (zBD.cfg N).con:=consOk_nil
theorem zBD.ls (N:Nat):LoopsOk Tryz.prog (zBD.cfg N) (fnBody Tryz.f76):=loopsL (l:=[]) (by kernel_rfl) trivial
theorem zBD.b (N:Nat) (x0:den s90) (x1:den (.int .i64)) (x2:den (.int .i64)):body (zBD.cfg N) N Tryz.f76 [.one,.one,.one] [.io,.v,.v] [(false,.imm)] [⟨s90,(.pr .imm (.pr .imm (.pr (.own .imm) .imm))),x0⟩,⟨(.int .i64),.imm,x1⟩,⟨(.int .i64),.imm,x2⟩] (fun r i=>some (r,i))=bindO (zBD N x0 x1 x2) fun r=>some ([⟨(.int .i64),.imm,r.1⟩],[⟨s90,(.pr .imm (.pr .imm (.pr (.own .imm) .imm))),r.2⟩]):=by
  show _=bindF _ _
  conv=>rhs;simp only [zBD,bindF_ifB,bindF_bindO,bindF_pure,bindF_none,bindF_onSum]
  kernel_rfl
theorem zBD.ok (N:Nat):ConOk Tryz.prog 76 [.one,.one,.one] (zBD.con N):=ok3 (g:=zBD.cfg N) (N:=N) (res:=[(false,.imm)]) tys_ok (zBD.cons N) mixed Tryz.func76 (zBD.ls N) rfl (zBD.b N)
theorem zBD.det (N:Nat):ConDet (zBD.con N):=det3
end Go.AE.F
end
