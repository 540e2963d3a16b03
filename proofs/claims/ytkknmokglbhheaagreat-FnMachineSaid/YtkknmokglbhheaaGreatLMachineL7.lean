/- The printed functions are what the program comes to: contracts. -/
import Derived.Test.YtkknmokglbhheaaGreatLMachineL6
noncomputable section
namespace Go.AE.F
open Go.AE Go.Proofs
set_option maxRecDepth 100000
def zBK.con (N:Nat):Con:={ modes:=[.rd,.v],ptrs:=[false],fn:=fn2 s25 .imm (.int .i64) .imm (zBK N) (fun r=>[⟨.bool,.imm,r⟩]) (fun r=>[]) }
def zBK.cfg (N:Nat):Cfg:={ ty:=tys,keep:=[10,11],flt:=[],elm:=elm0,live:=[],ord:=[],con:=[((45,[.one]),zAR.con N),((37,[.one,.one,.one]),zB5.con N)],loops:=[],joins:=[] }
theorem zBK.cons (N:Nat):ConsOk Tryz.prog (zBK.cfg N).con:=(consOk_cons (hb45) (zAR.ok N) (zAR.det N) (consOk_cons (hb37) (zB5.ok N) (zB5.det N) consOk_nil))
theorem zBK.ls (N:Nat):LoopsOk Tryz.prog (zBK.cfg N) (fnBody Tryz.f20):=loopsL (l:=[]) (by kernel_rfl) trivial
theorem zBK.b (N:Nat) (x0:den s25) (x1:den (.int .i64)):body (zBK.cfg N) N Tryz.f20 [.one,.one] [.rd,.v] [(false,.imm)] [⟨s25,.imm,x0⟩,⟨(.int .i64),.imm,x1⟩] (fun r i=>some (r,i))=bindO (zBK N x0 x1) fun r=>some ([⟨.bool,.imm,r⟩],[]):=by
  show _=bindF _ _
  conv=>rhs;simp only [zBK,bindF_ifB,bindF_bindO,bindF_pure,bindF_none,bindF_onSum]
  kernel_rfl
theorem zBK.ok (N:Nat):ConOk Tryz.prog 20 [.one,.one] (zBK.con N):=ok2 (g:=zBK.cfg N) (N:=N) (res:=[(false,.imm)]) tys_ok (zBK.cons N) mixed Tryz.func20 (zBK.ls N) rfl (zBK.b N)
theorem zBK.det (N:Nat):ConDet (zBK.con N):=det2
def zC6.con (N:Nat):Con:={ modes:=[.v],ptrs:=[false],fn:=fn1 s25 .imm (zC6 N) (fun r=>[⟨.bool,.imm,r⟩]) (fun r=>[]) }
def zC6.cfg (N:Nat):Cfg:={ ty:=tys,keep:=[5,9,14],flt:=[],elm:=elm0,live:=[],ord:=[],con:=[((19,[.one]),zC7.con N),((20,[.one,.one]),zBK.con N)],loops:=[],joins:=[] }
theorem zC6.cons (N:Nat):ConsOk Tryz.prog (zC6.cfg N).con:=(consOk_cons (hb19) (zC7.ok N) (zC7.det N) (consOk_cons (hb20) (zBK.ok N) (zBK.det N) consOk_nil))
theorem zC6.ls (N:Nat):LoopsOk Tryz.prog (zC6.cfg N) (fnBody Tryz.f9):=loopsL (l:=[]) (by kernel_rfl) trivial
theorem zC6.b (N:Nat) (x0:den s25):body (zC6.cfg N) N Tryz.f9 [.one] [.v] [(false,.imm)] [⟨s25,.imm,x0⟩] (fun r i=>some (r,i))=bindO (zC6 N x0) fun r=>some ([⟨.bool,.imm,r⟩],[]):=by
  show _=bindF _ _
  conv=>rhs;simp only [zC6,bindF_ifB,bindF_bindO,bindF_pure,bindF_none,bindF_onSum]
  kernel_rfl
theorem zC6.ok (N:Nat):ConOk Tryz.prog 9 [.one] (zC6.con N):=ok1 (g:=zC6.cfg N) (N:=N) (res:=[(false,.imm)]) tys_ok (zC6.cons N) mixed Tryz.func9 (zC6.ls N) rfl (zC6.b N)
theorem zC6.det (N:Nat):ConDet (zC6.con N):=det1
def zAO.con (N:Nat):Con:={ modes:=[.v],ptrs:=[false],fn:=fun ds k=>match ds with | [d0]=>castDm s24 .imm d0 fun x0=>bindO (zAO N x0) fun r=>k [⟨s24,(.own .imm),r⟩] [] | _=>none }
def zAO.cfg (N:Nat):Cfg:={ ty:=tys,keep:=[],flt:=[],elm:=elm0,live:=[],ord:=[],con:=[],loops:=[],joins:=[] }
theorem zAO.cons (N:Nat):ConsOk Tryz.prog (zAO.cfg N).con:=consOk_nil
theorem zAO.ls (N:Nat):LoopsOk Tryz.prog (zAO.cfg N) (fnBody Tryz.f61):=loopsL (l:=[]) (by kernel_rfl) trivial
theorem zAO.pu {R:Type} (N:Nat) (x0:den s24) (f:_→Option R):Psh (zAO N x0) (zAO.g N x0 f) f:=by
  unfold zAO zAO.g
  repeat' (first | exact psh_pure | exact psh_none | refine psh_ifB ?_ ?_ | refine psh_same ?_ ?_ | refine psh_bindO fun _=>?_)
theorem zAO.b (N:Nat) (x0:den s24):body (zAO.cfg N) N Tryz.f61 [.one] [.v] [(false,(.own .imm))] [⟨s24,.imm,x0⟩] (fun r i=>some (r,i))=zAO.g N x0 fun r=>some ([⟨s24,(.own .imm),r⟩],[]):=by kernel_rfl
theorem zAO.ok (N:Nat):ConOk Tryz.prog 61 [.one] (zAO.con N):=by
  refine conOk_mk (g:=zAO.cfg N) (N:=N) (res:=[(false,(.own .imm))]) tys_ok (zAO.cons N) mixed Tryz.func61 (zAO.ls N) rfl rfl ?_
  intro ds R k y h
  cases ds with
  | nil=>exact none_some h
  | cons d0 ds =>
  cases ds with
  | cons _ _=>exact none_some h
  | nil =>
  have h0:(castDm s24 .imm d0 fun x0=>bindO (zAO N x0) fun r=>k [⟨s24,(.own .imm),r⟩] [])=some y:=h
  clear h
  obtain ⟨x0,rfl,h1⟩:=castDm_eq h0
  exact con_fin' (zAO.b N x0) (zAO.pu N x0 _) h1
theorem zAO.det (N:Nat):ConDet (zAO.con N):=by
  intro ds R k y h
  cases ds with
  | nil=>exact none_some h
  | cons d0 ds =>
  cases ds with
  | cons _ _=>exact none_some h
  | nil =>
  have h0:(castDm s24 .imm d0 fun x0=>bindO (zAO N x0) fun r=>k [⟨s24,(.own .imm),r⟩] [])=some y:=h
  clear h
  obtain ⟨x0,rfl,h1⟩:=castDm_eq h0
  obtain ⟨r,e,h⟩:=bindO_some h1
  refine ⟨_,_,h,fun k'=>?_⟩
  show (castDm s24 .imm (⟨s24,.imm,x0⟩:Dy) fun x0=>bindO (zAO N x0) fun r=>k' [⟨s24,(.own .imm),r⟩] [])=_
  simp only [castDm_self]
  rw [e]
  rfl
def zCL.con (N:Nat):Con:={ modes:=[.v],ptrs:=[false],fn:=fn1 s25 .imm (zCL N) (fun r=>[⟨s25,(.pr (.own .imm) .imm),r⟩]) (fun r=>[]) }
def zCL.cfg (N:Nat):Cfg:={ ty:=tys,keep:=[5],flt:=[],elm:=elm0,live:=[],ord:=[(1,[0,1,3,4,5,6,2,7,8])],con:=[((61,[.one]),zAO.con N)],loops:=[],joins:=[] }
theorem zCL.cons (N:Nat):ConsOk Tryz.prog (zCL.cfg N).con:=(consOk_cons (hb61) (zAO.ok N) (zAO.det N) consOk_nil)
theorem zCL.ls (N:Nat):LoopsOk Tryz.prog (zCL.cfg N) (fnBody Tryz.f38):=loopsL (l:=[]) (by kernel_rfl) trivial
theorem zCL.b (N:Nat) (x0:den s25):body (zCL.cfg N) N Tryz.f38 [.one] [.v] [(false,(.pr (.own .imm) .imm))] [⟨s25,.imm,x0⟩] (fun r i=>some (r,i))=bindO (zCL N x0) fun r=>some ([⟨s25,(.pr (.own .imm) .imm),r⟩],[]):=by
  show _=bindF _ _
  conv=>rhs;simp only [zCL,bindF_ifB,bindF_bindO,bindF_pure,bindF_none,bindF_onSum]
  kernel_rfl
theorem zCL.ok (N:Nat):ConOk Tryz.prog 38 [.one] (zCL.con N):=ok1 (g:=zCL.cfg N) (N:=N) (res:=[(false,(.pr (.own .imm) .imm))]) tys_ok (zCL.cons N) mixed Tryz.func38 (zCL.ls N) rfl (zCL.b N)
theorem zCL.det (N:Nat):ConDet (zCL.con N):=det1
def zB6.con (N:Nat):Con:={ modes:=[.io],ptrs:=[false],fn:=fn1 s79 (.pr .imm (.pr (.own .imm) .imm)) (zB6 N) (fun r=>[⟨(.int .i64),.imm,r.1⟩]) (fun r=>[⟨s79,(.pr .imm (.pr (.own .imm) .imm)),r.2⟩]) }
def zB6.cfg (N:Nat):Cfg:={ ty:=tys,keep:=[],flt:=[],elm:=elm0,live:=[],ord:=[],con:=[],loops:=[],joins:=[] }
theorem zB6.cons (N:Nat):ConsOk Tryz.prog (zB6.cfg N).con:=consOk_nil
theorem zB6.ls (N:Nat):LoopsOk Tryz.prog (zB6.cfg N) (fnBody Tryz.f63):=loopsL (l:=[]) (by kernel_rfl) trivial
theorem zB6.b (N:Nat) (x0:den s79):body (zB6.cfg N) N Tryz.f63 [.one] [.io] [(false,.imm)] [⟨s79,(.pr .imm (.pr (.own .imm) .imm)),x0⟩] (fun r i=>some (r,i))=bindO (zB6 N x0) fun r=>some ([⟨(.int .i64),.imm,r.1⟩],[⟨s79,(.pr .imm (.pr (.own .imm) .imm)),r.2⟩]):=by
  show _=bindF _ _
  conv=>rhs;simp only [zB6,bindF_ifB,bindF_bindO,bindF_pure,bindF_none,bindF_onSum]
  kernel_rfl
theorem zB6.ok (N:Nat):ConOk Tryz.prog 63 [.one] (zB6.con N):=ok1 (g:=zB6.cfg N) (N:=N) (res:=[(false,.imm)]) tys_ok (zB6.cons N) mixed Tryz.func63 (zB6.ls N) rfl (zB6.b N)
theorem zB6.det (N:Nat):ConDet (zB6.con N):=det1
def zC3.con (N:Nat):Con:={ modes:=[.io],ptrs:=[false],fn:=fn1 s29 .imm (zC3 N) (fun r=>[⟨.bool,.imm,r.1⟩]) (fun r=>[⟨s29,.imm,r.2⟩]) }
def zC3.cfg (N:Nat):Cfg:={ ty:=tys,keep:=[],flt:=[],elm:=elm0,live:=[],ord:=[],con:=[],loops:=[],joins:=[] }
theorem zC3.cons (N:Nat):ConsOk Tryz.prog (zC3.cfg N).con:=consOk_nil
theorem zC3.ls (N:Nat):LoopsOk Tryz.prog (zC3.cfg N) (fnBody Tryz.f64):=loopsL (l:=[]) (by kernel_rfl) trivial
theorem zC3.b (N:Nat) (x0:den s29):body (zC3.cfg N) N Tryz.f64 [.one] [.io] [(false,.imm)] [⟨s29,.imm,x0⟩] (fun r i=>some (r,i))=bindO (zC3 N x0) fun r=>some ([⟨.bool,.imm,r.1⟩],[⟨s29,.imm,r.2⟩]):=by
  show _=bindF _ _
  conv=>rhs;simp only [zC3,bindF_ifB,bindF_bindO,bindF_pure,bindF_none,bindF_onSum]
  kernel_rfl
theorem zC3.ok (N:Nat):ConOk Tryz.prog 64 [.one] (zC3.con N):=ok1 (g:=zC3.cfg N) (N:=N) (res:=[(false,.imm)]) tys_ok (zC3.cons N) mixed Tryz.func64 (zC3.ls N) rfl (zC3.b N)
theorem zC3.det (N:Nat):ConDet (zC3.con N):=det1
def zAD.con (N:Nat):Con:={ modes:=[.io,.v],ptrs:=[],fn:=fn2 s79 (.pr .imm (.pr (.own .imm) .imm)) (.int .i64) .imm (zAD N) (fun r=>[]) (fun r=>[⟨s79,(.pr .imm (.pr (.own .imm) .imm)),r⟩]) }
def zAD.cfg (N:Nat):Cfg:={ ty:=tys,keep:=[],flt:=[],elm:=elm0,live:=[],ord:=[],con:=[],loops:=[],joins:=[] }
theorem zAD.cons (N:Nat):ConsOk Tryz.prog (zAD.cfg N).con:=consOk_nil
theorem zAD.ls (N:Nat):LoopsOk Tryz.prog (zAD.cfg N) (fnBody Tryz.f65):=loopsL (l:=[]) (by kernel_rfl) trivial
theorem zAD.b (N:Nat) (x0:den s79) (x1:den (.int .i64)):body (zAD.cfg N) N Tryz.f65 [.one,.one] [.io,.v] [] [⟨s79,(.pr .imm (.pr (.own .imm) .imm)),x0⟩,⟨(.int .i64),.imm,x1⟩] (fun r i=>some (r,i))=bindO (zAD N x0 x1) fun r=>some ([],[⟨s79,(.pr .imm (.pr (.own .imm) .imm)),r⟩]):=by
  show _=bindF _ _
  conv=>rhs;simp only [zAD,bindF_ifB,bindF_bindO,bindF_pure,bindF_none,bindF_onSum]
  kernel_rfl
theorem zAD.ok (N:Nat):ConOk Tryz.prog 65 [.one,.one] (zAD.con N):=ok2 (g:=zAD.cfg N) (N:=N) (res:=[]) tys_ok (zAD.cons N) mixed Tryz.func65 (zAD.ls N) rfl (zAD.b N)
theorem zAD.det (N:Nat):ConDet (zAD.con N):=det2
def zCJ.con (N:Nat):Con:={ modes:=[.io,.v],ptrs:=[false],fn:=fn2 s29 .imm (.int .i64) .imm (zCJ N) (fun r=>[⟨(.int .i64),.imm,r.1⟩]) (fun r=>[⟨s29,.imm,r.2⟩]) }
def zCJ.cfg (N:Nat):Cfg:={ ty:=tys,keep:=[11,13],flt:=[],elm:=elm0,live:=[],ord:=[],con:=[((45,[.one]),zAR.con N),((37,[.one,.one,.one]),zB5.con N)],loops:=[],joins:=[] }
theorem zCJ.cons (N:Nat):ConsOk Tryz.prog (zCJ.cfg N).con:=(consOk_cons (hb45) (zAR.ok N) (zAR.det N) (consOk_cons (hb37) (zB5.ok N) (zB5.det N) consOk_nil))
theorem zCJ.ls (N:Nat):LoopsOk Tryz.prog (zCJ.cfg N) (fnBody Tryz.f66):=loopsL (l:=[]) (by kernel_rfl) trivial
theorem zCJ.b (N:Nat) (x0:den s29) (x1:den (.int .i64)):body (zCJ.cfg N) N Tryz.f66 [.one,.one] [.io,.v] [(false,.imm)] [⟨s29,.imm,x0⟩,⟨(.int .i64),.imm,x1⟩] (fun r i=>some (r,i))=bindO (zCJ N x0 x1) fun r=>some ([⟨(.int .i64),.imm,r.1⟩],[⟨s29,.imm,r.2⟩]):=by
  show _=bindF _ _
  conv=>rhs;simp only [zCJ,bindF_ifB,bindF_bindO,bindF_pure,bindF_none,bindF_onSum]
  kernel_rfl
theorem zCJ.ok (N:Nat):ConOk Tryz.prog 66 [.one,.one] (zCJ.con N):=ok2 (g:=zCJ.cfg N) (N:=N) (res:=[(false,.imm)]) tys_ok (zCJ.cons N) mixed Tryz.func66 (zCJ.ls N) rfl (zCJ.b N)
theorem zCJ.det (N:Nat):ConDet (zCJ.con N):=det2
def zDG.con (N:Nat):Con:={ modes:=[.v],ptrs:=[false],fn:=fn1 .bool .imm (zDG N) (fun r=>[⟨(.int .i64),.imm,r⟩]) (fun r=>[]) }
def zDG.cfg (N:Nat):Cfg:={ ty:=tys,keep:=[],flt:=[],elm:=elm0,live:=[],ord:=[],con:=[],loops:=[],joins:=[] }
theorem zDG.cons (N:Nat):ConsOk Tryz.prog (zDG.cfg N).con:=consOk_nil
theorem zDG.ls (N:Nat):LoopsOk Tryz.prog (zDG.cfg N) (fnBody Tryz.f67):=loopsL (l:=[]) (by kernel_rfl) trivial
theorem zDG.b (N:Nat) (x0:den .bool):body (zDG.cfg N) N Tryz.f67 [.one] [.v] [(false,.imm)] [⟨.bool,.imm,x0⟩] (fun r i=>some (r,i))=bindO (zDG N x0) fun r=>some ([⟨(.int .i64),.imm,r⟩],[]):=by
  show _=bindF _ _
  conv=>rhs;simp only [zDG,bindF_ifB,bindF_bindO,bindF_pure,bindF_none,bindF_onSum]
  kernel_rfl
theorem zDG.ok (N:Nat):ConOk Tryz.prog 67 [.one] (zDG.con N):=ok1 (g:=zDG.cfg N) (N:=N) (res:=[(false,.imm)]) tys_ok (zDG.cons N) mixed Tryz.func67 (zDG.ls N) rfl (zDG.b N)
theorem zDG.det (N:Nat):ConDet (zDG.con N):=det1
def zCA.con (N:Nat):Con:={ modes:=[.io,.v,.v,.v],ptrs:=[false],fn:=fn4 s29 .imm (.int .i64) .imm (.int .i64) .imm (.int .i64) .imm (zCA N) (fun r=>[⟨(.int .i64),.imm,r.1⟩]) (fun r=>[⟨s29,.imm,r.2⟩]) }
def zCA.cfg (N:Nat):Cfg:={ ty:=tys,keep:=[19,28,34,40,46,73],flt:=[],elm:=elm0,live:=[],ord:=[],con:=[((67,[.one]),zDG.con N),((37,[.one,.one,.one]),zB5.con N)],loops:=[],joins:=[] }
theorem zCA.cons (N:Nat):ConsOk Tryz.prog (zCA.cfg N).con:=(consOk_cons (hb67) (zDG.ok N) (zDG.det N) (consOk_cons (hb37) (zB5.ok N) (zB5.det N) consOk_nil))
theorem zCA.ls (N:Nat):LoopsOk Tryz.prog (zCA.cfg N) (fnBody Tryz.f68):=loopsL (l:=[]) (by kernel_rfl) trivial
theorem zCA.b (N:Nat) (x0:den s29) (x1:den (.int .i64)) (x2:den (.int .i64)) (x3:den (.int .i64)):body (zCA.cfg N) N Tryz.f68 [.one,.one,.one,.one] [.io,.v,.v,.v] [(false,.imm)] [⟨s29,.imm,x0⟩,⟨(.int .i64),.imm,x1⟩,⟨(.int .i64),.imm,x2⟩,⟨(.int .i64),.imm,x3⟩] (fun r i=>some (r,i))=bindO (zCA N x0 x1 x2 x3) fun r=>some ([⟨(.int .i64),.imm,r.1⟩],[⟨s29,.imm,r.2⟩]):=by
  show _=bindF _ _
  conv=>rhs;simp only [zCA,bindF_ifB,bindF_bindO,bindF_pure,bindF_none,bindF_onSum]
  kernel_rfl
theorem zCA.ok (N:Nat):ConOk Tryz.prog 68 [.one,.one,.one,.one] (zCA.con N):=ok4 (g:=zCA.cfg N) (N:=N) (res:=[(false,.imm)]) tys_ok (zCA.cons N) mixed Tryz.func68 (zCA.ls N) rfl (zCA.b N)
theorem zCA.det (N:Nat):ConDet (zCA.con N):=det4
def zB8.con (N:Nat):Con:={ modes:=[.nl,.v],ptrs:=[false],fn:=fn2 s24 .imm (.int .i64) .imm (zB8 N) (fun r=>[⟨s24,(.own .imm),r⟩]) (fun r=>[]) }
def zB8.cfg (N:Nat):Cfg:={ ty:=tys,keep:=[],flt:=[],elm:=elm0,live:=[],ord:=[],con:=[],loops:=[],joins:=[] }
theorem zB8.cons (N:Nat):ConsOk Tryz.prog (zB8.cfg N).con:=consOk_nil
theorem zB8.ls (N:Nat):LoopsOk Tryz.prog (zB8.cfg N) (fnBody Tryz.f113):=loopsL (l:=[]) (by kernel_rfl) trivial
theorem zB8.b (N:Nat) (x0:den s24) (x1:den (.int .i64)):body (zB8.cfg N) N Tryz.f113 [.one,.one] [.nl,.v] [(false,(.own .imm))] [⟨s24,.imm,x0⟩,⟨(.int .i64),.imm,x1⟩] (fun r i=>some (r,i))=bindO (zB8 N x0 x1) fun r=>some ([⟨s24,(.own .imm),r⟩],[]):=by
  show _=bindF _ _
  conv=>rhs;simp only [zB8,bindF_ifB,bindF_bindO,bindF_pure,bindF_none,bindF_onSum]
  kernel_rfl
theorem zB8.ok (N:Nat):ConOk Tryz.prog 113 [.one,.one] (zB8.con N):=ok2 (g:=zB8.cfg N) (N:=N) (res:=[(false,(.own .imm))]) tys_ok (zB8.cons N) mixed Tryz.func113 (zB8.ls N) rfl (zB8.b N)
theorem zB8.det (N:Nat):ConDet (zB8.con N):=det2
def zA2.sk3:Skel:=⟨.pv s138::(dd 2 (.pv (.int .i64)::(dd 5 (.pv s138::(.pv (.int .i64)::(.pv (.int .i64)::(dd 24 []))))))),[]⟩
def zA2.xs3:List XS:=[⟨.exit 0,[0,3],⟨.pv s138::(dd 2 (.pv (.int .i64)::(dd 32 []))),[]⟩⟩]
def zA2.sk11:Skel:=⟨dd 6 (.ov 50 []::(dd 18 (.pv s138::(.pv (.int .i64)::(.pv (.int .i64)::(dd 8 [])))))),[⟨50,s24,(.own .imm),false,false⟩]⟩
def zA2.xs11:List XS:=[⟨.exit 2,[6],⟨dd 6 (.ov 50 []::(dd 29 [])),[⟨50,s24,(.own .imm),false,false⟩]⟩⟩]
def zA2.con (N:Nat):Con:={ modes:=[.v],ptrs:=[false],fn:=fn1 s138 .imm (zA2 N) (fun r=>[⟨s24,(.own .imm),r⟩]) (fun r=>[]) }
def zA2.cfg (N:Nat):Cfg:={ ty:=tys,keep:=[24],flt:=[],elm:=elm0,live:=[(11,[6,25,26,27]),(3,[0,3,9,10,11])],ord:=[],con:=[((113,[.one,.one]),zB8.con N)],loops:=[(3,loopCon N zA2.sk3 zA2.xs3 (fun {R}=>zA2.l3 (R:=R) N)),(11,loopCon N zA2.sk11 zA2.xs11 (fun {R}=>zA2.l11 (R:=R) N))],joins:=[] }
theorem zA2.cons (N:Nat):ConsOk Tryz.prog (zA2.cfg N).con:=(consOk_cons (hb113) (zB8.ok N) (zB8.det N) consOk_nil)
theorem zA2.h11 {R:Type} (N:Nat) (d:zA2.sk11.D) (kn:zA2.sk11.D→Option R) (kx:XD zA2.xs11→Option R):roundK (zA2.cfg N) N (nthLoop (fnBody Tryz.f108) 1) zA2.sk11 zA2.xs11 d kn kx=zA2.l11 N d kn kx:=by kernel_rfl
theorem zA2.i11 (N:Nat):LoopsOk Tryz.prog (zA2.cfg N) (nthLoop (fnBody Tryz.f108) 1):=loopsL (l:=[]) (by kernel_rfl) trivial
theorem zA2.o11 (N:Nat):LoopOk Tryz.prog (nthLoop (fnBody Tryz.f108) 1) (loopCon N zA2.sk11 zA2.xs11 (fun {R}=>zA2.l11 (R:=R) N)):=loop_ok (g:=zA2.cfg N) tys_ok (zA2.cons N) mixed (zA2.i11 N) (fun d kn kx=>zA2.h11 N d kn kx)
theorem zA2.h3 {R:Type} (N:Nat) (d:zA2.sk3.D) (kn:zA2.sk3.D→Option R) (kx:XD zA2.xs3→Option R):roundK (zA2.cfg N) N (nthLoop (fnBody Tryz.f108) 0) zA2.sk3 zA2.xs3 d kn kx=zA2.l3 N d kn kx:=by kernel_rfl
theorem zA2.i3 (N:Nat):LoopsOk Tryz.prog (zA2.cfg N) (nthLoop (fnBody Tryz.f108) 0):=loopsL (l:=[]) (by kernel_rfl) trivial
theorem zA2.o3 (N:Nat):LoopOk Tryz.prog (nthLoop (fnBody Tryz.f108) 0) (loopCon N zA2.sk3 zA2.xs3 (fun {R}=>zA2.l3 (R:=R) N)):=loop_ok (g:=zA2.cfg N) tys_ok (zA2.cons N) mixed (zA2.i3 N) (fun d kn kx=>zA2.h3 N d kn kx)
theorem zA2.ls (N:Nat):LoopsOk Tryz.prog (zA2.cfg N) (fnBody Tryz.f108):=loopsL (l:=[nthLoop (fnBody Tryz.f108) 0,nthLoop (fnBody Tryz.f108) 1]) (by kernel_rfl) ⟨loopOne (L0:=loopCon N zA2.sk3 zA2.xs3 (fun {R}=>zA2.l3 (R:=R) N)) (id:=3) (by kernel_rfl) (by kernel_rfl) (zA2.o3 N),⟨loopOne (L0:=loopCon N zA2.sk11 zA2.xs11 (fun {R}=>zA2.l11 (R:=R) N)) (id:=11) (by kernel_rfl) (by kernel_rfl) (zA2.o11 N),trivial⟩⟩
theorem zA2.q11 {R R':Type} {N n:Nat} {d} {k} {g:R→Option R'}:bindF (loopP (zA2.l11 N) n d k) g=loopP (zA2.l11 N) n d fun e=>bindF (k e) g:=bindF_loopP (fun d kn kx=>by simp only [zA2.l11,bindF_ifB,bindF_bindO,bindF_pure,bindF_none,bindF_onSum]) n d k
theorem zA2.q3 {R R':Type} {N n:Nat} {d} {k} {g:R→Option R'}:bindF (loopP (zA2.l3 N) n d k) g=loopP (zA2.l3 N) n d fun e=>bindF (k e) g:=bindF_loopP (fun d kn kx=>by simp only [zA2.l3,bindF_ifB,bindF_bindO,bindF_pure,bindF_none,bindF_onSum]) n d k
theorem zA2.b (N:Nat) (x0:den s138):body (zA2.cfg N) N Tryz.f108 [.one] [.v] [(false,(.own .imm))] [⟨s138,.imm,x0⟩] (fun r i=>some (r,i))=bindO (zA2 N x0) fun r=>some ([⟨s24,(.own .imm),r⟩],[]):=by
  show _=bindF _ _
  conv=>rhs;simp only [zA2,bindF_ifB,bindF_bindO,bindF_pure,bindF_none,bindF_onSum,zA2.q3,zA2.q11]
  kernel_rfl
theorem zA2.ok (N:Nat):ConOk Tryz.prog 108 [.one] (zA2.con N):=ok1 (g:=zA2.cfg N) (N:=N) (res:=[(false,(.own .imm))]) tys_ok (zA2.cons N) mixed Tryz.func108 (zA2.ls N) rfl (zA2.b N)
theorem zA2.det (N:Nat):ConDet (zA2.con N):=det1
end Go.AE.F
end
