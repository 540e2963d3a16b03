/- The printed functions are what the program comes to: contracts. -/
import Derived.Test.YthcbmbakpjelgaaGreatDoorLSendL2
noncomputable section
namespace Go.AE.F
open Go.AE Go.Proofs
set_option maxRecDepth 100000
def zB8.con (N:Nat):Con:={ modes:=[.io,.v],ptrs:=[],fn:=fn2 s117 (.pr (.pr .imm (.pr .imm (.pr (.own .imm) .imm))) .imm) (.int .i64) .imm (zB8 N) (fun r=>[]) (fun r=>[⟨s117,(.pr (.pr .imm (.pr .imm (.pr (.own .imm) .imm))) .imm),r⟩]) }
def zB8.cfg (N:Nat):Cfg:={ ty:=tys,keep:=[9,28],flt:=[],elm:=elm0,live:=[],ord:=[],con:=[((25,[.one,.one]),zCA.con N),((53,[.one]),zC2.con N)],loops:=[],joins:=[] }
theorem zB8.cons (N:Nat):ConsOk Tryz.prog TB (zB8.cfg N).con:=(consOk_cons (hb25) (zCA.ok N) (zCA.det N) (consOk_cons (hb53) (zC2.ok N) (zC2.det N) consOk_nil))
theorem zB8.ls (N:Nat):LoopsOk Tryz.prog TB (zB8.cfg N) (fnBody Tryz.f103):=loopsL (l:=[]) (by kernel_rfl) trivial
theorem zB8.b (N:Nat) (x0:den s117) (x1:den (.int .i64)):body (zB8.cfg N) N Tryz.f103 [.one,.one] [.io,.v] [] [⟨s117,(.pr (.pr .imm (.pr .imm (.pr (.own .imm) .imm))) .imm),x0⟩,⟨(.int .i64),.imm,x1⟩] (fun r i=>some (r,i))=bindO (zB8 N x0 x1) fun r=>some ([],[⟨s117,(.pr (.pr .imm (.pr .imm (.pr (.own .imm) .imm))) .imm),r⟩]):=by
 show _=bindF _ _
 conv=>rhs;simp only [zB8,bindF_ifB,bindF_bindO,bindF_pure,bindF_none,bindF_onSum]
 kernel_rfl
theorem zB8.ok (N:Nat):ConOk Tryz.prog TB 103 [.one,.one] (zB8.con N):=ok2 (g:=zB8.cfg N) (N:=N) (res:=[]) tys_ok (zB8.cons N) mixed Tryz.func103 (zB8.ls N) rfl (zB8.b N)
theorem zB8.det (N:Nat):ConDet (zB8.con N):=det2
def zAD.sk2:Skel:=⟨.ptr 0 []::(.pv (.int .i64)::(dd 2 (.pv (.int .i64)::(dd 33 [])))),[⟨0,s117,(.pr (.pr .imm (.pr .imm (.pr (.own .imm) .imm))) .imm),true,false⟩]⟩
def zAD.xs2:List XS:=[⟨.exit 0,[],⟨dd 38 [],[⟨0,s117,(.pr (.pr .imm (.pr .imm (.pr (.own .imm) .imm))) .imm),true,false⟩]⟩⟩]
def zAD.con (N:Nat):Con:={ modes:=[.io,.v],ptrs:=[],fn:=fn2 s117 (.pr (.pr .imm (.pr .imm (.pr (.own .imm) .imm))) .imm) (.int .i64) .imm (zAD N) (fun r=>[]) (fun r=>[⟨s117,(.pr (.pr .imm (.pr .imm (.pr (.own .imm) .imm))) .imm),r⟩]) }
def zAD.cfg (N:Nat):Cfg:={ ty:=tys,keep:=[24],flt:=[],elm:=elm0,live:=[(2,[0,1,4])],ord:=[(0,[0,1,2,3,4,5,6,7,8,9,10,11,12,13,14,15,16,17])],con:=[((103,[.one,.one]),zB8.con N)],loops:=[(2,loopCon N zAD.sk2 zAD.xs2 (fun {R}=>zAD.l2 (R:=R) N))],joins:=[] }
theorem zAD.cons (N:Nat):ConsOk Tryz.prog TB (zAD.cfg N).con:=(consOk_cons (hb103) (zB8.ok N) (zB8.det N) consOk_nil)
theorem zAD.h2 {R:Type} (N:Nat) (d:zAD.sk2.D) (kn:zAD.sk2.D->Option R) (kx:XD zAD.xs2->Option R):roundK (zAD.cfg N) N (nthLoop (fnBody Tryz.f102) 0) zAD.sk2 zAD.xs2 d kn kx=zAD.l2 N d kn kx:=by kernel_rfl
theorem zAD.i2 (N:Nat):LoopsOk Tryz.prog TB (zAD.cfg N) (nthLoop (fnBody Tryz.f102) 0):=loopsL (l:=[]) (by kernel_rfl) trivial
theorem zAD.o2 (N:Nat):LoopOk Tryz.prog TB (nthLoop (fnBody Tryz.f102) 0) (loopCon N zAD.sk2 zAD.xs2 (fun {R}=>zAD.l2 (R:=R) N)):=loop_ok (g:=zAD.cfg N) tys_ok (zAD.cons N) mixed (zAD.i2 N) (fun d kn kx=>zAD.h2 N d kn kx)
theorem zAD.ls (N:Nat):LoopsOk Tryz.prog TB (zAD.cfg N) (fnBody Tryz.f102):=loopsL (l:=[nthLoop (fnBody Tryz.f102) 0]) (by kernel_rfl) ⟨loopOne (L0:=loopCon N zAD.sk2 zAD.xs2 (fun {R}=>zAD.l2 (R:=R) N)) (id:=2) (by kernel_rfl) (by kernel_rfl) (zAD.o2 N),trivial⟩
theorem zAD.q2 {R R':Type} {N n:Nat} {d} {k} {g:R->Option R'}:bindF (loopP (zAD.l2 N) n d k) g=loopP (zAD.l2 N) n d fun e=>bindF (k e) g:=bindF_loopP (fun d kn kx=>by simp only [zAD.l2,bindF_ifB,bindF_bindO,bindF_pure,bindF_none,bindF_onSum]) n d k
theorem zAD.b (N:Nat) (x0:den s117) (x1:den (.int .i64)):body (zAD.cfg N) N Tryz.f102 [.one,.one] [.io,.v] [] [⟨s117,(.pr (.pr .imm (.pr .imm (.pr (.own .imm) .imm))) .imm),x0⟩,⟨(.int .i64),.imm,x1⟩] (fun r i=>some (r,i))=bindO (zAD N x0 x1) fun r=>some ([],[⟨s117,(.pr (.pr .imm (.pr .imm (.pr (.own .imm) .imm))) .imm),r⟩]):=by
 show _=bindF _ _
 conv=>rhs;simp only [zAD,bindF_ifB,bindF_bindO,bindF_pure,bindF_none,bindF_onSum,zAD.q2]
 kernel_rfl
theorem zAD.ok (N:Nat):ConOk Tryz.prog TB 102 [.one,.one] (zAD.con N):=ok2 (g:=zAD.cfg N) (N:=N) (res:=[]) tys_ok (zAD.cons N) mixed Tryz.func102 (zAD.ls N) rfl (zAD.b N)
theorem zAD.det (N:Nat):ConDet (zAD.con N):=det2
def zBH.con (N:Nat):Con:={ modes:=[.io,.v,.v],ptrs:=[],fn:=fn3 s117 (.pr (.pr .imm (.pr .imm (.pr (.own .imm) .imm))) .imm) s49 .imm (.int .i64) .imm (zBH N) (fun r=>[]) (fun r=>[⟨s117,(.pr (.pr .imm (.pr .imm (.pr (.own .imm) .imm))) .imm),r⟩]) }
def zBH.cfg (N:Nat):Cfg:={ ty:=tys,keep:=[13,17,40,57,74,86,97,109,110,126,140],flt:=[],elm:=elm0,live:=[],ord:=[(10,[0,1,2,3,4,5,6,7,8,9,10,11,12,13,14,15]),(12,[0,1,2,3,4,5,6,7,8,9,10,11,12,13,14,15]),(17,[0,1,2,3,4,5,6,7,8,9,10,11,12,13]),(19,[0,1,2,3,4,5,6,7,8,9,10]),(21,[0,1,2,3,4,5,6,7,8,9,10,11])],con:=[((101,[.one]),zB7.con N),((71,[.one,.one]),zBV.con N),((88,[.one,.one]),zCD.con N),((102,[.one,.one]),zAD.con N)],loops:=[],joins:=[] }
theorem zBH.cons (N:Nat):ConsOk Tryz.prog TB (zBH.cfg N).con:=(consOk_cons (hb101) (zB7.ok N) (zB7.det N) (consOk_cons (hb71) (zBV.ok N) (zBV.det N) (consOk_cons (hb88) (zCD.ok N) (zCD.det N) (consOk_cons (hb102) (zAD.ok N) (zAD.det N) consOk_nil))))
theorem zBH.ls (N:Nat):LoopsOk Tryz.prog TB (zBH.cfg N) (fnBody Tryz.f91):=loopsL (l:=[]) (by kernel_rfl) trivial
theorem zBH.b (N:Nat) (x0:den s117) (x1:den s49) (x2:den (.int .i64)):body (zBH.cfg N) N Tryz.f91 [.one,.one,.one] [.io,.v,.v] [] [⟨s117,(.pr (.pr .imm (.pr .imm (.pr (.own .imm) .imm))) .imm),x0⟩,⟨s49,.imm,x1⟩,⟨(.int .i64),.imm,x2⟩] (fun r i=>some (r,i))=bindO (zBH N x0 x1 x2) fun r=>some ([],[⟨s117,(.pr (.pr .imm (.pr .imm (.pr (.own .imm) .imm))) .imm),r⟩]):=by
 show _=bindF _ _
 conv=>rhs;simp only [zBH,bindF_ifB,bindF_bindO,bindF_pure,bindF_none,bindF_onSum]
 kernel_rfl
theorem zBH.ok (N:Nat):ConOk Tryz.prog TB 91 [.one,.one,.one] (zBH.con N):=ok3 (g:=zBH.cfg N) (N:=N) (res:=[]) tys_ok (zBH.cons N) mixed Tryz.func91 (zBH.ls N) rfl (zBH.b N)
theorem zBH.det (N:Nat):ConDet (zBH.con N):=det3
def zBK.con (N:Nat):Con:={ modes:=[.io],ptrs:=[],fn:=fn1 s117 (.pr (.pr .imm (.pr .imm (.pr (.own .imm) .imm))) .imm) (zBK N) (fun r=>[]) (fun r=>[⟨s117,(.pr (.pr .imm (.pr .imm (.pr (.own .imm) .imm))) .imm),r⟩]) }
def zBK.cfg (N:Nat):Cfg:={ ty:=tys,keep:=[],flt:=[],elm:=[],live:=[],ord:=[(1,[0,1,2,3,4,5,6,7,8,9,10,11]),(3,[1,2,3,4,5,6,7,8,9,10,11,0,12,13])],con:=[],loops:=[],joins:=[] }
theorem zBK.cons (N:Nat):ConsOk Tryz.prog TB (zBK.cfg N).con:=consOk_nil
theorem zBK.ls (N:Nat):LoopsOk Tryz.prog TB (zBK.cfg N) (fnBody Tryz.f92):=loopsL (l:=[]) (by kernel_rfl) trivial
theorem zBK.b (N:Nat) (x0:den s117):body (zBK.cfg N) N Tryz.f92 [.one] [.io] [] [⟨s117,(.pr (.pr .imm (.pr .imm (.pr (.own .imm) .imm))) .imm),x0⟩] (fun r i=>some (r,i))=bindO (zBK N x0) fun r=>some ([],[⟨s117,(.pr (.pr .imm (.pr .imm (.pr (.own .imm) .imm))) .imm),r⟩]):=by
 show _=bindF _ _
 conv=>rhs;simp only [zBK,bindF_ifB,bindF_bindO,bindF_pure,bindF_none,bindF_onSum]
 kernel_rfl
theorem zBK.ok (N:Nat):ConOk Tryz.prog TB 92 [.one] (zBK.con N):=ok1 (g:=zBK.cfg N) (N:=N) (res:=[]) tys_ok (zBK.cons N) mixed Tryz.func92 (zBK.ls N) rfl (zBK.b N)
theorem zBK.det (N:Nat):ConDet (zBK.con N):=det1
def zC4.con (N:Nat):Con:={ modes:=[.io,.v],ptrs:=[],fn:=fn2 s117 (.pr (.pr .imm (.pr .imm (.pr (.own .imm) .imm))) .imm) (.int .i64) .imm (zC4 N) (fun r=>[]) (fun r=>[⟨s117,(.pr (.pr .imm (.pr .imm (.pr (.own .imm) .imm))) .imm),r⟩]) }
def zC4.cfg (N:Nat):Cfg:={ ty:=tys,keep:=[13,46,77,107,124,130],flt:=[],elm:=elm0,live:=[],ord:=[(3,[0,1,2,3,4,5,6,7,8,9,10,11,12,13,14]),(11,[0,1,2,3,4,5,6,7,8,9,10,11,12,14,13,15,16,17,18,19]),(12,[0,1,2,3,4,5,6,7,8,9,10,11,12,13,14,15,16,17,18,19]),(15,[0,1,2,3,4,5,6,7,8,9,10,11,12,13,14]),(19,[0,1,2,3,4,5,6,7,8,9,10,11,12]),(20,[0,1,2,3,4,5,7,8,9,10,6,11,12,13]),(22,[0,1,2,3,4,5,6,7,8])],con:=[((80,[.one]),zC3.con N),((25,[.one,.one]),zCA.con N),((99,[.one]),zC1.con N),((92,[.one]),zBK.con N),((103,[.one,.one]),zB8.con N)],loops:=[],joins:=[] }
theorem zC4.cons (N:Nat):ConsOk Tryz.prog TB (zC4.cfg N).con:=(consOk_cons (hb80) (zC3.ok N) (zC3.det N) (consOk_cons (hb25) (zCA.ok N) (zCA.det N) (consOk_cons (hb99) (zC1.ok N) (zC1.det N) (consOk_cons (hb92) (zBK.ok N) (zBK.det N) (consOk_cons (hb103) (zB8.ok N) (zB8.det N) consOk_nil)))))
theorem zC4.ls (N:Nat):LoopsOk Tryz.prog TB (zC4.cfg N) (fnBody Tryz.f93):=loopsL (l:=[]) (by kernel_rfl) trivial
theorem zC4.b (N:Nat) (x0:den s117) (x1:den (.int .i64)):body (zC4.cfg N) N Tryz.f93 [.one,.one] [.io,.v] [] [⟨s117,(.pr (.pr .imm (.pr .imm (.pr (.own .imm) .imm))) .imm),x0⟩,⟨(.int .i64),.imm,x1⟩] (fun r i=>some (r,i))=bindO (zC4 N x0 x1) fun r=>some ([],[⟨s117,(.pr (.pr .imm (.pr .imm (.pr (.own .imm) .imm))) .imm),r⟩]):=by
 show _=bindF _ _
 conv=>rhs;simp only [zC4,bindF_ifB,bindF_bindO,bindF_pure,bindF_none,bindF_onSum]
 kernel_rfl
theorem zC4.ok (N:Nat):ConOk Tryz.prog TB 93 [.one,.one] (zC4.con N):=ok2 (g:=zC4.cfg N) (N:=N) (res:=[]) tys_ok (zC4.cons N) mixed Tryz.func93 (zC4.ls N) rfl (zC4.b N)
theorem zC4.det (N:Nat):ConDet (zC4.con N):=det2
def zAF.sk8:Skel:=⟨dd 4 (.ptr 50 []::(.ptr 51 []::(.pv s49::(.pv (.int .i64)::(dd 140 []))))),[⟨50,s24,(.pr .imm (.pr .imm (.pr (.own (.pr (.own .imm) .imm)) .imm))),true,false⟩,⟨51,s117,(.pr (.pr .imm (.pr .imm (.pr (.own .imm) .imm))) .imm),true,false⟩]⟩
def zAF.xs8:List XS:=[⟨.exit 0,[4,5],⟨dd 4 (.ptr 50 []::(.ptr 51 []::(dd 142 []))),[⟨50,s24,(.pr .imm (.pr .imm (.pr (.own (.pr (.own .imm) .imm)) .imm))),true,false⟩,⟨51,s117,(.pr (.pr .imm (.pr .imm (.pr (.own .imm) .imm))) .imm),true,false⟩]⟩⟩,⟨.ret,[4],⟨dd 4 (.ptr 50 []::(dd 143 [])),[⟨50,s24,(.pr .imm (.pr .imm (.pr (.own .imm) .imm))),true,false⟩]⟩⟩]
def zAF.sk18:Skel:=⟨dd 4 (.ptr 50 []::(.ptr 51 []::(.pv s49::(.pv (.int .i64)::(dd 1 (.pv (.int .i64)::(dd 138 []))))))),[⟨50,s24,(.pr .imm (.pr .imm (.pr (.own (.pr (.own .imm) .imm)) .imm))),true,false⟩,⟨51,s117,(.pr (.pr .imm (.pr .imm (.pr (.own .imm) .imm))) .imm),true,false⟩]⟩
def zAF.xs18:List XS:=[⟨.exit 3,[4,5,6,7,9],⟨dd 4 (.ptr 50 []::(.ptr 51 []::(.pv s49::(.pv (.int .i64)::(dd 1 (.pv (.int .i64)::(dd 138 []))))))),[⟨50,s24,(.pr .imm (.pr .imm (.pr (.own (.pr (.own .imm) .imm)) .imm))),true,false⟩,⟨51,s117,(.pr (.pr .imm (.pr .imm (.pr (.own .imm) .imm))) .imm),true,false⟩]⟩⟩]
def zAF.con (N:Nat):Con:={ modes:=[.v,.v],ptrs:=[false],fn:=fn2 s24 .imm .str .imm (zAF N) (fun r=>[⟨s24,(.pr .imm (.pr .imm (.pr (.own .imm) .imm))),r⟩]) (fun r=>[]) }
def zAF.cfg (N:Nat):Cfg:={ ty:=tys,keep:=[15,19,26,99,115,126,143],flt:=[],elm:=elm0,live:=[(18,[4,5,6,7,9]),(8,[4,5,6,7])],ord:=[(21,[0,1,2,3,4,5,6,7,8,9])],con:=[((89,[.one]),zB4.con N),((24,[.one]),zAM.con N),((90,[.one]),zAT.con N),((91,[.one,.one,.one]),zBH.con N),((92,[.one]),zBK.con N),((71,[.one,.one]),zBV.con N),((93,[.one,.one]),zC4.con N)],loops:=[(8,loopCon N zAF.sk8 zAF.xs8 (fun {R}=>zAF.l8 (R:=R) N)),(18,loopCon N zAF.sk18 zAF.xs18 (fun {R}=>zAF.l18 (R:=R) N))],joins:=[(9,[⟨.normal,[4,5,6,7],⟨dd 4 (.ptr 50 []::(.ptr 51 []::(.pv s49::(.pv (.int .i64)::(dd 140 []))))),[⟨50,s24,(.pr .imm (.pr .imm (.pr (.own (.pr (.own .imm) .imm)) .imm))),true,false⟩,⟨51,s117,(.pr (.pr .imm (.pr .imm (.pr (.own .imm) .imm))) .imm),true,false⟩]⟩⟩,⟨.ret,[4],⟨dd 4 (.ptr 50 []::(dd 143 [])),[⟨50,s24,(.pr .imm (.pr .imm (.pr (.own .imm) .imm))),true,false⟩]⟩⟩])] }
theorem zAF.cons (N:Nat):ConsOk Tryz.prog TB (zAF.cfg N).con:=(consOk_cons (hb89) (zB4.ok N) (zB4.det N) (consOk_cons (hb24) (zAM.ok N) (zAM.det N) (consOk_cons (hb90) (zAT.ok N) (zAT.det N) (consOk_cons (hb91) (zBH.ok N) (zBH.det N) (consOk_cons (hb92) (zBK.ok N) (zBK.det N) (consOk_cons (hb71) (zBV.ok N) (zBV.det N) (consOk_cons (hb93) (zC4.ok N) (zC4.det N) consOk_nil)))))))
theorem zAF.h18 {R:Type} (N:Nat) (d:zAF.sk18.D) (kn:zAF.sk18.D->Option R) (kx:XD zAF.xs18->Option R):roundK (zAF.cfg N) N (nthLoop (fnBody Tryz.f73) 1) zAF.sk18 zAF.xs18 d kn kx=zAF.l18 N d kn kx:=by kernel_rfl
theorem zAF.i18 (N:Nat):LoopsOk Tryz.prog TB (zAF.cfg N) (nthLoop (fnBody Tryz.f73) 1):=loopsL (l:=[]) (by kernel_rfl) trivial
theorem zAF.o18 (N:Nat):LoopOk Tryz.prog TB (nthLoop (fnBody Tryz.f73) 1) (loopCon N zAF.sk18 zAF.xs18 (fun {R}=>zAF.l18 (R:=R) N)):=loop_ok (g:=zAF.cfg N) tys_ok (zAF.cons N) mixed (zAF.i18 N) (fun d kn kx=>zAF.h18 N d kn kx)
theorem zAF.h8 {R:Type} (N:Nat) (d:zAF.sk8.D) (kn:zAF.sk8.D->Option R) (kx:XD zAF.xs8->Option R):roundK (zAF.cfg N) N (nthLoop (fnBody Tryz.f73) 0) zAF.sk8 zAF.xs8 d kn kx=zAF.l8 N d kn kx:=by kernel_rfl
theorem zAF.i8 (N:Nat):LoopsOk Tryz.prog TB (zAF.cfg N) (nthLoop (fnBody Tryz.f73) 0):=loopsL (l:=[nthLoop (fnBody Tryz.f73) 1]) (by kernel_rfl) ⟨loopOne (L0:=loopCon N zAF.sk18 zAF.xs18 (fun {R}=>zAF.l18 (R:=R) N)) (id:=18) (by kernel_rfl) (by kernel_rfl) (zAF.o18 N),trivial⟩
theorem zAF.o8 (N:Nat):LoopOk Tryz.prog TB (nthLoop (fnBody Tryz.f73) 0) (loopCon N zAF.sk8 zAF.xs8 (fun {R}=>zAF.l8 (R:=R) N)):=loop_ok (g:=zAF.cfg N) tys_ok (zAF.cons N) mixed (zAF.i8 N) (fun d kn kx=>zAF.h8 N d kn kx)
theorem zAF.ls (N:Nat):LoopsOk Tryz.prog TB (zAF.cfg N) (fnBody Tryz.f73):=loopsL (l:=[nthLoop (fnBody Tryz.f73) 0,nthLoop (fnBody Tryz.f73) 1]) (by kernel_rfl) ⟨loopOne (L0:=loopCon N zAF.sk8 zAF.xs8 (fun {R}=>zAF.l8 (R:=R) N)) (id:=8) (by kernel_rfl) (by kernel_rfl) (zAF.o8 N),⟨loopOne (L0:=loopCon N zAF.sk18 zAF.xs18 (fun {R}=>zAF.l18 (R:=R) N)) (id:=18) (by kernel_rfl) (by kernel_rfl) (zAF.o18 N),trivial⟩⟩
theorem zAF.q18 {R R':Type} {N n:Nat} {d} {k} {g:R->Option R'}:bindF (loopP (zAF.l18 N) n d k) g=loopP (zAF.l18 N) n d fun e=>bindF (k e) g:=bindF_loopP (fun d kn kx=>by simp only [zAF.l18,bindF_ifB,bindF_bindO,bindF_pure,bindF_none,bindF_onSum]) n d k
theorem zAF.q8 {R R':Type} {N n:Nat} {d} {k} {g:R->Option R'}:bindF (loopP (zAF.l8 N) n d k) g=loopP (zAF.l8 N) n d fun e=>bindF (k e) g:=bindF_loopP (fun d kn kx=>by simp only [zAF.l8,bindF_ifB,bindF_bindO,bindF_pure,bindF_none,bindF_onSum,zAF.q18]) n d k
theorem zAF.b (N:Nat) (x0:den s24) (x1:den .str):body (zAF.cfg N) N Tryz.f73 [.one,.one] [.v,.v] [(false,(.pr .imm (.pr .imm (.pr (.own .imm) .imm))))] [⟨s24,.imm,x0⟩,⟨.str,.imm,x1⟩] (fun r i=>some (r,i))=bindO (zAF N x0 x1) fun r=>some ([⟨s24,(.pr .imm (.pr .imm (.pr (.own .imm) .imm))),r⟩],[]):=by
 show _=bindF _ _
 conv=>rhs;simp only [zAF,bindF_ifB,bindF_bindO,bindF_pure,bindF_none,bindF_onSum,zAF.q8,zAF.q18]
 kernel_rfl
theorem zAF.ok (N:Nat):ConOk Tryz.prog TB 73 [.one,.one] (zAF.con N):=ok2 (g:=zAF.cfg N) (N:=N) (res:=[(false,(.pr .imm (.pr .imm (.pr (.own .imm) .imm))))]) tys_ok (zAF.cons N) mixed Tryz.func73 (zAF.ls N) rfl (zAF.b N)
theorem zAF.det (N:Nat):ConDet (zAF.con N):=det2
def zBL.con (N:Nat):Con:={ modes:=[.io],ptrs:=[false],fn:=fn1 s62 .imm (zBL N) (fun r=>[⟨s24,(.pr .imm (.pr .imm (.pr (.own .imm) .imm))),r.1⟩]) (fun r=>[⟨s62,.imm,r.2⟩]) }
def zBL.cfg (N:Nat):Cfg:={ ty:=tys,keep:=[5,8,12,23,24,25,27,29],flt:=[],elm:=elm0,live:=[],ord:=[(4,[0,1,2,3,4,5,6,7,8,9,10,11,12])],con:=[((34,[.one,.one]),zAC.con N),((70,[.one,.one]),zCF.con N),((39,[.one,.one]),zBC.con N),((74,[.one,.one]),zA8.con N),((73,[.one,.one]),zAF.con N)],loops:=[],joins:=[] }
theorem zBL.cons (N:Nat):ConsOk Tryz.prog TB (zBL.cfg N).con:=(consOk_cons (hb34) (zAC.ok N) (zAC.det N) (consOk_cons (hb70) (zCF.ok N) (zCF.det N) (consOk_cons (hb39) (zBC.ok N) (zBC.det N) (consOk_cons (hb74) (zA8.ok N) (zA8.det N) (consOk_cons (hb73) (zAF.ok N) (zAF.det N) consOk_nil)))))
theorem zBL.ls (N:Nat):LoopsOk Tryz.prog TB (zBL.cfg N) (fnBody Tryz.f40):=loopsL (l:=[]) (by kernel_rfl) trivial
theorem zBL.b (N:Nat) (x0:den s62):body (zBL.cfg N) N Tryz.f40 [.one] [.io] [(false,(.pr .imm (.pr .imm (.pr (.own .imm) .imm))))] [⟨s62,.imm,x0⟩] (fun r i=>some (r,i))=bindO (zBL N x0) fun r=>some ([⟨s24,(.pr .imm (.pr .imm (.pr (.own .imm) .imm))),r.1⟩],[⟨s62,.imm,r.2⟩]):=by
 show _=bindF _ _
 conv=>rhs;simp only [zBL,bindF_ifB,bindF_bindO,bindF_pure,bindF_none,bindF_onSum]
 kernel_rfl
theorem zBL.ok (N:Nat):ConOk Tryz.prog TB 40 [.one] (zBL.con N):=ok1 (g:=zBL.cfg N) (N:=N) (res:=[(false,(.pr .imm (.pr .imm (.pr (.own .imm) .imm))))]) tys_ok (zBL.cons N) mixed Tryz.func40 (zBL.ls N) rfl (zBL.b N)
theorem zBL.det (N:Nat):ConDet (zBL.con N):=det1
def zBR.con (N:Nat):Con:={ modes:=[.io],ptrs:=[false,false],fn:=fn1 s62 .imm (zBR N) (fun r=>[⟨s24,(.pr .imm (.pr .imm (.pr (.own .imm) .imm))),r.1⟩,⟨s24,(.pr .imm (.pr .imm (.pr (.own .imm) .imm))),r.2.1⟩]) (fun r=>[⟨s62,.imm,r.2.2⟩]) }
def zBR.cfg (N:Nat):Cfg:={ ty:=tys,keep:=[10,13,17,18,20,23,26,29,30,33,36,39,41,44,47],flt:=[],elm:=elm0,live:=[],ord:=[(5,[11,0,1,4,5,7,8,2,3,6,9,10,12]),(7,[0,2,1,3,4]),(9,[0,1,2,3,4]),(10,[0,1,2,3])],con:=[((34,[.one,.one]),zAC.con N),((36,[.one,.one]),zA7.con N),((37,[.one]),zBJ.con N),((35,[.one,.one,.one,.one,.one]),zAI.con N),((38,[.one]),zBS.con N),((39,[.one,.one]),zBC.con N),((40,[.one]),zBL.con N)],loops:=[],joins:=[] }
theorem zBR.cons (N:Nat):ConsOk Tryz.prog TB (zBR.cfg N).con:=(consOk_cons (hb34) (zAC.ok N) (zAC.det N) (consOk_cons (hb36) (zA7.ok N) (zA7.det N) (consOk_cons (hb37) (zBJ.ok N) (zBJ.det N) (consOk_cons (hb35) (zAI.ok N) (zAI.det N) (consOk_cons (hb38) (zBS.ok N) (zBS.det N) (consOk_cons (hb39) (zBC.ok N) (zBC.det N) (consOk_cons (hb40) (zBL.ok N) (zBL.det N) consOk_nil)))))))
theorem zBR.ls (N:Nat):LoopsOk Tryz.prog TB (zBR.cfg N) (fnBody Tryz.f13):=loopsL (l:=[]) (by kernel_rfl) trivial
theorem zBR.b (N:Nat) (x0:den s62):body (zBR.cfg N) N Tryz.f13 [.one] [.io] [(false,(.pr .imm (.pr .imm (.pr (.own .imm) .imm)))),(false,(.pr .imm (.pr .imm (.pr (.own .imm) .imm))))] [⟨s62,.imm,x0⟩] (fun r i=>some (r,i))=bindO (zBR N x0) fun r=>some ([⟨s24,(.pr .imm (.pr .imm (.pr (.own .imm) .imm))),r.1⟩,⟨s24,(.pr .imm (.pr .imm (.pr (.own .imm) .imm))),r.2.1⟩],[⟨s62,.imm,r.2.2⟩]):=by
 show _=bindF _ _
 conv=>rhs;simp only [zBR,bindF_ifB,bindF_bindO,bindF_pure,bindF_none,bindF_onSum]
 kernel_rfl
theorem zBR.ok (N:Nat):ConOk Tryz.prog TB 13 [.one] (zBR.con N):=ok1 (g:=zBR.cfg N) (N:=N) (res:=[(false,(.pr .imm (.pr .imm (.pr (.own .imm) .imm)))),(false,(.pr .imm (.pr .imm (.pr (.own .imm) .imm))))]) tys_ok (zBR.cons N) mixed Tryz.func13 (zBR.ls N) rfl (zBR.b N)
theorem zBR.det (N:Nat):ConDet (zBR.con N):=det1
def zCL.con (N:Nat):Con:={ modes:=[.v],ptrs:=[false,false],fn:=fn1 s22 .imm (zCL N) (fun r=>[⟨s24,(.pr .imm (.pr .imm (.pr (.own .imm) .imm))),r.1⟩,⟨s24,(.pr .imm (.pr .imm (.pr (.own .imm) .imm))),r.2⟩]) (fun r=>[]) }
def zCL.cfg (N:Nat):Cfg:={ ty:=tys,keep:=[6,8],flt:=[],elm:=elm0,live:=[],ord:=[],con:=[((12,[.one]),zAS.con N),((13,[.one]),zBR.con N)],loops:=[],joins:=[] }
theorem zCL.cons (N:Nat):ConsOk Tryz.prog TB (zCL.cfg N).con:=(consOk_cons (hb12) (zAS.ok N) (zAS.det N) (consOk_cons (hb13) (zBR.ok N) (zBR.det N) consOk_nil))
theorem zCL.ls (N:Nat):LoopsOk Tryz.prog TB (zCL.cfg N) (fnBody Tryz.f4):=loopsL (l:=[]) (by kernel_rfl) trivial
theorem zCL.b (N:Nat) (x0:den s22):body (zCL.cfg N) N Tryz.f4 [.one] [.v] [(false,(.pr .imm (.pr .imm (.pr (.own .imm) .imm)))),(false,(.pr .imm (.pr .imm (.pr (.own .imm) .imm))))] [⟨s22,.imm,x0⟩] (fun r i=>some (r,i))=bindO (zCL N x0) fun r=>some ([⟨s24,(.pr .imm (.pr .imm (.pr (.own .imm) .imm))),r.1⟩,⟨s24,(.pr .imm (.pr .imm (.pr (.own .imm) .imm))),r.2⟩],[]):=by
 show _=bindF _ _
 conv=>rhs;simp only [zCL,bindF_ifB,bindF_bindO,bindF_pure,bindF_none,bindF_onSum]
 kernel_rfl
theorem zCL.ok (N:Nat):ConOk Tryz.prog TB 4 [.one] (zCL.con N):=ok1 (g:=zCL.cfg N) (N:=N) (res:=[(false,(.pr .imm (.pr .imm (.pr (.own .imm) .imm)))),(false,(.pr .imm (.pr .imm (.pr (.own .imm) .imm))))]) tys_ok (zCL.cons N) mixed Tryz.func4 (zCL.ls N) rfl (zCL.b N)
theorem zCL.det (N:Nat):ConDet (zCL.con N):=det1
def zBA.con (N:Nat):Con:={ modes:=[.v,.v,.v],ptrs:=[false],fn:=fn3 (.int .i64) .imm (.int .i64) .imm (.int .i64) .imm (zBA N) (fun r=>[⟨.bool,.imm,r⟩]) (fun r=>[]) }
def zBA.cfg (N:Nat):Cfg:={ ty:=tys,keep:=[],flt:=[],elm:=elm0,live:=[],ord:=[],con:=[],loops:=[],joins:=[] }
theorem zBA.cons (N:Nat):ConsOk Tryz.prog TB (zBA.cfg N).con:=consOk_nil
theorem zBA.ls (N:Nat):LoopsOk Tryz.prog TB (zBA.cfg N) (fnBody Tryz.f58):=loopsL (l:=[]) (by kernel_rfl) trivial
theorem zBA.b (N:Nat) (x0:den (.int .i64)) (x1:den (.int .i64)) (x2:den (.int .i64)):body (zBA.cfg N) N Tryz.f58 [.one,.one,.one] [.v,.v,.v] [(false,.imm)] [⟨(.int .i64),.imm,x0⟩,⟨(.int .i64),.imm,x1⟩,⟨(.int .i64),.imm,x2⟩] (fun r i=>some (r,i))=bindO (zBA N x0 x1 x2) fun r=>some ([⟨.bool,.imm,r⟩],[]):=by
 show _=bindF _ _
 conv=>rhs;simp only [zBA,bindF_ifB,bindF_bindO,bindF_pure,bindF_none,bindF_onSum]
 kernel_rfl
theorem zBA.ok (N:Nat):ConOk Tryz.prog TB 58 [.one,.one,.one] (zBA.con N):=ok3 (g:=zBA.cfg N) (N:=N) (res:=[(false,.imm)]) tys_ok (zBA.cons N) mixed Tryz.func58 (zBA.ls N) rfl (zBA.b N)
theorem zBA.det (N:Nat):ConDet (zBA.con N):=det3
def zCM.con (N:Nat):Con:={ modes:=[.v],ptrs:=[false],fn:=fn1 (.int .i64) .imm (zCM N) (fun r=>[⟨.bool,.imm,r⟩]) (fun r=>[]) }
def zCM.cfg (N:Nat):Cfg:={ ty:=tys,keep:=[4],flt:=[],elm:=elm0,live:=[],ord:=[],con:=[((58,[.one,.one,.one]),zBA.con N)],loops:=[],joins:=[] }
theorem zCM.cons (N:Nat):ConsOk Tryz.prog TB (zCM.cfg N).con:=(consOk_cons (hb58) (zBA.ok N) (zBA.det N) consOk_nil)
theorem zCM.ls (N:Nat):LoopsOk Tryz.prog TB (zCM.cfg N) (fnBody Tryz.f56):=loopsL (l:=[]) (by kernel_rfl) trivial
theorem zCM.b (N:Nat) (x0:den (.int .i64)):body (zCM.cfg N) N Tryz.f56 [.one] [.v] [(false,.imm)] [⟨(.int .i64),.imm,x0⟩] (fun r i=>some (r,i))=bindO (zCM N x0) fun r=>some ([⟨.bool,.imm,r⟩],[]):=by
 show _=bindF _ _
 conv=>rhs;simp only [zCM,bindF_ifB,bindF_bindO,bindF_pure,bindF_none,bindF_onSum]
 kernel_rfl
theorem zCM.ok (N:Nat):ConOk Tryz.prog TB 56 [.one] (zCM.con N):=ok1 (g:=zCM.cfg N) (N:=N) (res:=[(false,.imm)]) tys_ok (zCM.cons N) mixed Tryz.func56 (zCM.ls N) rfl (zCM.b N)
theorem zCM.det (N:Nat):ConDet (zCM.con N):=det1
def zCN.con (N:Nat):Con:={ modes:=[.v],ptrs:=[false],fn:=fn1 (.int .i64) .imm (zCN N) (fun r=>[⟨.bool,.imm,r⟩]) (fun r=>[]) }
def zCN.cfg (N:Nat):Cfg:={ ty:=tys,keep:=[4],flt:=[],elm:=elm0,live:=[],ord:=[],con:=[((58,[.one,.one,.one]),zBA.con N)],loops:=[],joins:=[] }
theorem zCN.cons (N:Nat):ConsOk Tryz.prog TB (zCN.cfg N).con:=(consOk_cons (hb58) (zBA.ok N) (zBA.det N) consOk_nil)
theorem zCN.ls (N:Nat):LoopsOk Tryz.prog TB (zCN.cfg N) (fnBody Tryz.f57):=loopsL (l:=[]) (by kernel_rfl) trivial
theorem zCN.b (N:Nat) (x0:den (.int .i64)):body (zCN.cfg N) N Tryz.f57 [.one] [.v] [(false,.imm)] [⟨(.int .i64),.imm,x0⟩] (fun r i=>some (r,i))=bindO (zCN N x0) fun r=>some ([⟨.bool,.imm,r⟩],[]):=by
 show _=bindF _ _
 conv=>rhs;simp only [zCN,bindF_ifB,bindF_bindO,bindF_pure,bindF_none,bindF_onSum]
 kernel_rfl
theorem zCN.ok (N:Nat):ConOk Tryz.prog TB 57 [.one] (zCN.con N):=ok1 (g:=zCN.cfg N) (N:=N) (res:=[(false,.imm)]) tys_ok (zCN.cons N) mixed Tryz.func57 (zCN.ls N) rfl (zCN.b N)
theorem zCN.det (N:Nat):ConDet (zCN.con N):=det1
end Go.AE.F
end
