/- The printed functions are what the program comes to: contracts. -/
import Derived.Test.YtgljdfgbcfdmbaaGreatDoorLSendAllL2
noncomputable section
namespace Go.AE.F
open Go.AE Go.Proofs
set_option maxRecDepth 100000
def zB9.con (N:Nat):Con:={ modes:=[.io,.v],ptrs:=[],fn:=fn2 s115 (.pr (.pr .imm (.pr .imm (.pr (.own .imm) .imm))) .imm) (.int .i64) .imm (zB9 N) (fun r=>[]) (fun r=>[⟨s115,(.pr (.pr .imm (.pr .imm (.pr (.own .imm) .imm))) .imm),r⟩]) }
def zB9.cfg (N:Nat):Cfg:={ ty:=tys,keep:=[9,28],flt:=[],elm:=elm0,live:=[],ord:=[],con:=[((16,[.one,.one]),zCC.con N),((46,[.one]),zC2.con N)],loops:=[],joins:=[] }
theorem zB9.cons (N:Nat):ConsOk Tryz.prog TB (zB9.cfg N).con:=(consOk_cons (hb16) (zCC.ok N) (zCC.det N) (consOk_cons (hb46) (zC2.ok N) (zC2.det N) consOk_nil))
theorem zB9.ls (N:Nat):LoopsOk Tryz.prog TB (zB9.cfg N) (fnBody Tryz.f105):=loopsL (l:=[]) (by kernel_rfl) trivial
theorem zB9.b (N:Nat) (x0:den s115) (x1:den (.int .i64)):body (zB9.cfg N) N Tryz.f105 [.one,.one] [.io,.v] [] [⟨s115,(.pr (.pr .imm (.pr .imm (.pr (.own .imm) .imm))) .imm),x0⟩,⟨(.int .i64),.imm,x1⟩] (fun r i=>some (r,i))=bindO (zB9 N x0 x1) fun r=>some ([],[⟨s115,(.pr (.pr .imm (.pr .imm (.pr (.own .imm) .imm))) .imm),r⟩]):=by
 show _=bindF _ _
 conv=>rhs;simp only [zB9,bindF_ifB,bindF_bindO,bindF_pure,bindF_none,bindF_onSum]
 kernel_rfl
theorem zB9.ok (N:Nat):ConOk Tryz.prog TB 105 [.one,.one] (zB9.con N):=ok2 (g:=zB9.cfg N) (N:=N) (res:=[]) tys_ok (zB9.cons N) mixed Tryz.func105 (zB9.ls N) rfl (zB9.b N)
theorem zB9.det (N:Nat):ConDet (zB9.con N):=det2
def zAE.sk2:Skel:=⟨.ptr 0 []::(.pv (.int .i64)::(dd 2 (.pv (.int .i64)::(dd 33 [])))),[⟨0,s115,(.pr (.pr .imm (.pr .imm (.pr (.own .imm) .imm))) .imm),true,false⟩]⟩
def zAE.xs2:List XS:=[⟨.exit 0,[],⟨dd 38 [],[⟨0,s115,(.pr (.pr .imm (.pr .imm (.pr (.own .imm) .imm))) .imm),true,false⟩]⟩⟩]
def zAE.con (N:Nat):Con:={ modes:=[.io,.v],ptrs:=[],fn:=fn2 s115 (.pr (.pr .imm (.pr .imm (.pr (.own .imm) .imm))) .imm) (.int .i64) .imm (zAE N) (fun r=>[]) (fun r=>[⟨s115,(.pr (.pr .imm (.pr .imm (.pr (.own .imm) .imm))) .imm),r⟩]) }
def zAE.cfg (N:Nat):Cfg:={ ty:=tys,keep:=[24],flt:=[],elm:=elm0,live:=[(2,[0,1,4])],ord:=[(0,[0,1,2,3,4,5,6,7,8,9,10,11,12,13,14,15,16,17])],con:=[((105,[.one,.one]),zB9.con N)],loops:=[(2,loopCon N zAE.sk2 zAE.xs2 (fun {R}=>zAE.l2 (R:=R) N))],joins:=[] }
theorem zAE.cons (N:Nat):ConsOk Tryz.prog TB (zAE.cfg N).con:=(consOk_cons (hb105) (zB9.ok N) (zB9.det N) consOk_nil)
theorem zAE.h2 {R:Type} (N:Nat) (d:zAE.sk2.D) (kn:zAE.sk2.D->Option R) (kx:XD zAE.xs2->Option R):roundK (zAE.cfg N) N (nthLoop (fnBody Tryz.f104) 0) zAE.sk2 zAE.xs2 d kn kx=zAE.l2 N d kn kx:=by kernel_rfl
theorem zAE.i2 (N:Nat):LoopsOk Tryz.prog TB (zAE.cfg N) (nthLoop (fnBody Tryz.f104) 0):=loopsL (l:=[]) (by kernel_rfl) trivial
theorem zAE.o2 (N:Nat):LoopOk Tryz.prog TB (nthLoop (fnBody Tryz.f104) 0) (loopCon N zAE.sk2 zAE.xs2 (fun {R}=>zAE.l2 (R:=R) N)):=loop_ok (g:=zAE.cfg N) tys_ok (zAE.cons N) mixed (zAE.i2 N) (fun d kn kx=>zAE.h2 N d kn kx)
theorem zAE.ls (N:Nat):LoopsOk Tryz.prog TB (zAE.cfg N) (fnBody Tryz.f104):=loopsL (l:=[nthLoop (fnBody Tryz.f104) 0]) (by kernel_rfl) ⟨loopOne (L0:=loopCon N zAE.sk2 zAE.xs2 (fun {R}=>zAE.l2 (R:=R) N)) (id:=2) (by kernel_rfl) (by kernel_rfl) (zAE.o2 N),trivial⟩
theorem zAE.q2 {R R':Type} {N n:Nat} {d} {k} {g:R->Option R'}:bindF (loopP (zAE.l2 N) n d k) g=loopP (zAE.l2 N) n d fun e=>bindF (k e) g:=bindF_loopP (fun d kn kx=>by simp only [zAE.l2,bindF_ifB,bindF_bindO,bindF_pure,bindF_none,bindF_onSum]) n d k
theorem zAE.b (N:Nat) (x0:den s115) (x1:den (.int .i64)):body (zAE.cfg N) N Tryz.f104 [.one,.one] [.io,.v] [] [⟨s115,(.pr (.pr .imm (.pr .imm (.pr (.own .imm) .imm))) .imm),x0⟩,⟨(.int .i64),.imm,x1⟩] (fun r i=>some (r,i))=bindO (zAE N x0 x1) fun r=>some ([],[⟨s115,(.pr (.pr .imm (.pr .imm (.pr (.own .imm) .imm))) .imm),r⟩]):=by
 show _=bindF _ _
 conv=>rhs;simp only [zAE,bindF_ifB,bindF_bindO,bindF_pure,bindF_none,bindF_onSum,zAE.q2]
 kernel_rfl
theorem zAE.ok (N:Nat):ConOk Tryz.prog TB 104 [.one,.one] (zAE.con N):=ok2 (g:=zAE.cfg N) (N:=N) (res:=[]) tys_ok (zAE.cons N) mixed Tryz.func104 (zAE.ls N) rfl (zAE.b N)
theorem zAE.det (N:Nat):ConDet (zAE.con N):=det2
def zBG.con (N:Nat):Con:={ modes:=[.io,.v,.v],ptrs:=[],fn:=fn3 s115 (.pr (.pr .imm (.pr .imm (.pr (.own .imm) .imm))) .imm) s40 .imm (.int .i64) .imm (zBG N) (fun r=>[]) (fun r=>[⟨s115,(.pr (.pr .imm (.pr .imm (.pr (.own .imm) .imm))) .imm),r⟩]) }
def zBG.cfg (N:Nat):Cfg:={ ty:=tys,keep:=[13,17,40,57,74,86,97,109,110,126,140],flt:=[],elm:=elm0,live:=[],ord:=[(10,[0,1,2,3,4,5,6,7,8,9,10,11,12,13,14,15]),(12,[0,1,2,3,4,5,6,7,8,9,10,11,12,13,14,15]),(17,[0,1,2,3,4,5,6,7,8,9,10,11,12,13]),(19,[0,1,2,3,4,5,6,7,8,9,10]),(21,[0,1,2,3,4,5,6,7,8,9,10,11])],con:=[((103,[.one]),zB8.con N),((71,[.one,.one]),zBV.con N),((88,[.one,.one]),zCF.con N),((104,[.one,.one]),zAE.con N)],loops:=[],joins:=[] }
theorem zBG.cons (N:Nat):ConsOk Tryz.prog TB (zBG.cfg N).con:=(consOk_cons (hb103) (zB8.ok N) (zB8.det N) (consOk_cons (hb71) (zBV.ok N) (zBV.det N) (consOk_cons (hb88) (zCF.ok N) (zCF.det N) (consOk_cons (hb104) (zAE.ok N) (zAE.det N) consOk_nil))))
theorem zBG.ls (N:Nat):LoopsOk Tryz.prog TB (zBG.cfg N) (fnBody Tryz.f91):=loopsL (l:=[]) (by kernel_rfl) trivial
theorem zBG.b (N:Nat) (x0:den s115) (x1:den s40) (x2:den (.int .i64)):body (zBG.cfg N) N Tryz.f91 [.one,.one,.one] [.io,.v,.v] [] [⟨s115,(.pr (.pr .imm (.pr .imm (.pr (.own .imm) .imm))) .imm),x0⟩,⟨s40,.imm,x1⟩,⟨(.int .i64),.imm,x2⟩] (fun r i=>some (r,i))=bindO (zBG N x0 x1 x2) fun r=>some ([],[⟨s115,(.pr (.pr .imm (.pr .imm (.pr (.own .imm) .imm))) .imm),r⟩]):=by
 show _=bindF _ _
 conv=>rhs;simp only [zBG,bindF_ifB,bindF_bindO,bindF_pure,bindF_none,bindF_onSum]
 kernel_rfl
theorem zBG.ok (N:Nat):ConOk Tryz.prog TB 91 [.one,.one,.one] (zBG.con N):=ok3 (g:=zBG.cfg N) (N:=N) (res:=[]) tys_ok (zBG.cons N) mixed Tryz.func91 (zBG.ls N) rfl (zBG.b N)
theorem zBG.det (N:Nat):ConDet (zBG.con N):=det3
def zBK.con (N:Nat):Con:={ modes:=[.io],ptrs:=[],fn:=fn1 s115 (.pr (.pr .imm (.pr .imm (.pr (.own .imm) .imm))) .imm) (zBK N) (fun r=>[]) (fun r=>[⟨s115,(.pr (.pr .imm (.pr .imm (.pr (.own .imm) .imm))) .imm),r⟩]) }
def zBK.cfg (N:Nat):Cfg:={ ty:=tys,keep:=[],flt:=[],elm:=[],live:=[],ord:=[(1,[0,1,2,3,4,5,6,7,8,9,10,11]),(3,[1,2,3,4,5,6,7,8,9,10,11,0,12,13])],con:=[],loops:=[],joins:=[] }
theorem zBK.cons (N:Nat):ConsOk Tryz.prog TB (zBK.cfg N).con:=consOk_nil
theorem zBK.ls (N:Nat):LoopsOk Tryz.prog TB (zBK.cfg N) (fnBody Tryz.f92):=loopsL (l:=[]) (by kernel_rfl) trivial
theorem zBK.b (N:Nat) (x0:den s115):body (zBK.cfg N) N Tryz.f92 [.one] [.io] [] [⟨s115,(.pr (.pr .imm (.pr .imm (.pr (.own .imm) .imm))) .imm),x0⟩] (fun r i=>some (r,i))=bindO (zBK N x0) fun r=>some ([],[⟨s115,(.pr (.pr .imm (.pr .imm (.pr (.own .imm) .imm))) .imm),r⟩]):=by
 show _=bindF _ _
 conv=>rhs;simp only [zBK,bindF_ifB,bindF_bindO,bindF_pure,bindF_none,bindF_onSum]
 kernel_rfl
theorem zBK.ok (N:Nat):ConOk Tryz.prog TB 92 [.one] (zBK.con N):=ok1 (g:=zBK.cfg N) (N:=N) (res:=[]) tys_ok (zBK.cons N) mixed Tryz.func92 (zBK.ls N) rfl (zBK.b N)
theorem zBK.det (N:Nat):ConDet (zBK.con N):=det1
def zC6.con (N:Nat):Con:={ modes:=[.io,.v],ptrs:=[],fn:=fn2 s115 (.pr (.pr .imm (.pr .imm (.pr (.own .imm) .imm))) .imm) (.int .i64) .imm (zC6 N) (fun r=>[]) (fun r=>[⟨s115,(.pr (.pr .imm (.pr .imm (.pr (.own .imm) .imm))) .imm),r⟩]) }
def zC6.cfg (N:Nat):Cfg:={ ty:=tys,keep:=[13,46,77,107,124,130],flt:=[],elm:=elm0,live:=[],ord:=[(3,[0,1,2,3,4,5,6,7,8,9,10,11,12,13,14]),(11,[0,1,2,3,4,5,6,7,8,9,10,11,12,14,13,15,16,17,18,19]),(12,[0,1,2,3,4,5,6,7,8,9,10,11,12,13,14,15,16,17,18,19]),(15,[0,1,2,3,4,5,6,7,8,9,10,11,12,13,14]),(19,[0,1,2,3,4,5,6,7,8,9,10,11,12]),(20,[0,1,2,3,4,5,7,8,9,10,6,11,12,13]),(22,[0,1,2,3,4,5,6,7,8])],con:=[((77,[.one]),zC4.con N),((16,[.one,.one]),zCC.con N),((101,[.one]),zC1.con N),((92,[.one]),zBK.con N),((105,[.one,.one]),zB9.con N)],loops:=[],joins:=[] }
theorem zC6.cons (N:Nat):ConsOk Tryz.prog TB (zC6.cfg N).con:=(consOk_cons (hb77) (zC4.ok N) (zC4.det N) (consOk_cons (hb16) (zCC.ok N) (zCC.det N) (consOk_cons (hb101) (zC1.ok N) (zC1.det N) (consOk_cons (hb92) (zBK.ok N) (zBK.det N) (consOk_cons (hb105) (zB9.ok N) (zB9.det N) consOk_nil)))))
theorem zC6.ls (N:Nat):LoopsOk Tryz.prog TB (zC6.cfg N) (fnBody Tryz.f93):=loopsL (l:=[]) (by kernel_rfl) trivial
theorem zC6.b (N:Nat) (x0:den s115) (x1:den (.int .i64)):body (zC6.cfg N) N Tryz.f93 [.one,.one] [.io,.v] [] [⟨s115,(.pr (.pr .imm (.pr .imm (.pr (.own .imm) .imm))) .imm),x0⟩,⟨(.int .i64),.imm,x1⟩] (fun r i=>some (r,i))=bindO (zC6 N x0 x1) fun r=>some ([],[⟨s115,(.pr (.pr .imm (.pr .imm (.pr (.own .imm) .imm))) .imm),r⟩]):=by
 show _=bindF _ _
 conv=>rhs;simp only [zC6,bindF_ifB,bindF_bindO,bindF_pure,bindF_none,bindF_onSum]
 kernel_rfl
theorem zC6.ok (N:Nat):ConOk Tryz.prog TB 93 [.one,.one] (zC6.con N):=ok2 (g:=zC6.cfg N) (N:=N) (res:=[]) tys_ok (zC6.cons N) mixed Tryz.func93 (zC6.ls N) rfl (zC6.b N)
theorem zC6.det (N:Nat):ConDet (zC6.con N):=det2
def zAG.sk8:Skel:=⟨dd 4 (.ptr 50 []::(.ptr 51 []::(.pv s40::(.pv (.int .i64)::(dd 140 []))))),[⟨50,s24,(.pr .imm (.pr .imm (.pr (.own (.pr (.own .imm) .imm)) .imm))),true,false⟩,⟨51,s115,(.pr (.pr .imm (.pr .imm (.pr (.own .imm) .imm))) .imm),true,false⟩]⟩
def zAG.xs8:List XS:=[⟨.exit 0,[4,5],⟨dd 4 (.ptr 50 []::(.ptr 51 []::(dd 142 []))),[⟨50,s24,(.pr .imm (.pr .imm (.pr (.own (.pr (.own .imm) .imm)) .imm))),true,false⟩,⟨51,s115,(.pr (.pr .imm (.pr .imm (.pr (.own .imm) .imm))) .imm),true,false⟩]⟩⟩,⟨.ret,[4],⟨dd 4 (.ptr 50 []::(dd 143 [])),[⟨50,s24,(.pr .imm (.pr .imm (.pr (.own .imm) .imm))),true,false⟩]⟩⟩]
def zAG.sk18:Skel:=⟨dd 4 (.ptr 50 []::(.ptr 51 []::(.pv s40::(.pv (.int .i64)::(dd 1 (.pv (.int .i64)::(dd 138 []))))))),[⟨50,s24,(.pr .imm (.pr .imm (.pr (.own (.pr (.own .imm) .imm)) .imm))),true,false⟩,⟨51,s115,(.pr (.pr .imm (.pr .imm (.pr (.own .imm) .imm))) .imm),true,false⟩]⟩
def zAG.xs18:List XS:=[⟨.exit 3,[4,5,6,7,9],⟨dd 4 (.ptr 50 []::(.ptr 51 []::(.pv s40::(.pv (.int .i64)::(dd 1 (.pv (.int .i64)::(dd 138 []))))))),[⟨50,s24,(.pr .imm (.pr .imm (.pr (.own (.pr (.own .imm) .imm)) .imm))),true,false⟩,⟨51,s115,(.pr (.pr .imm (.pr .imm (.pr (.own .imm) .imm))) .imm),true,false⟩]⟩⟩]
def zAG.con (N:Nat):Con:={ modes:=[.v,.v],ptrs:=[false],fn:=fn2 s24 .imm .str .imm (zAG N) (fun r=>[⟨s24,(.pr .imm (.pr .imm (.pr (.own .imm) .imm))),r⟩]) (fun r=>[]) }
def zAG.cfg (N:Nat):Cfg:={ ty:=tys,keep:=[15,19,26,99,115,126,143],flt:=[],elm:=elm0,live:=[(18,[4,5,6,7,9]),(8,[4,5,6,7])],ord:=[(21,[0,1,2,3,4,5,6,7,8,9])],con:=[((89,[.one]),zB4.con N),((15,[.one]),zAN.con N),((90,[.one]),zAU.con N),((91,[.one,.one,.one]),zBG.con N),((92,[.one]),zBK.con N),((71,[.one,.one]),zBV.con N),((93,[.one,.one]),zC6.con N)],loops:=[(8,loopCon N zAG.sk8 zAG.xs8 (fun {R}=>zAG.l8 (R:=R) N)),(18,loopCon N zAG.sk18 zAG.xs18 (fun {R}=>zAG.l18 (R:=R) N))],joins:=[(9,[⟨.normal,[4,5,6,7],⟨dd 4 (.ptr 50 []::(.ptr 51 []::(.pv s40::(.pv (.int .i64)::(dd 140 []))))),[⟨50,s24,(.pr .imm (.pr .imm (.pr (.own (.pr (.own .imm) .imm)) .imm))),true,false⟩,⟨51,s115,(.pr (.pr .imm (.pr .imm (.pr (.own .imm) .imm))) .imm),true,false⟩]⟩⟩,⟨.ret,[4],⟨dd 4 (.ptr 50 []::(dd 143 [])),[⟨50,s24,(.pr .imm (.pr .imm (.pr (.own .imm) .imm))),true,false⟩]⟩⟩])] }
theorem zAG.cons (N:Nat):ConsOk Tryz.prog TB (zAG.cfg N).con:=(consOk_cons (hb89) (zB4.ok N) (zB4.det N) (consOk_cons (hb15) (zAN.ok N) (zAN.det N) (consOk_cons (hb90) (zAU.ok N) (zAU.det N) (consOk_cons (hb91) (zBG.ok N) (zBG.det N) (consOk_cons (hb92) (zBK.ok N) (zBK.det N) (consOk_cons (hb71) (zBV.ok N) (zBV.det N) (consOk_cons (hb93) (zC6.ok N) (zC6.det N) consOk_nil)))))))
theorem zAG.h18 {R:Type} (N:Nat) (d:zAG.sk18.D) (kn:zAG.sk18.D->Option R) (kx:XD zAG.xs18->Option R):roundK (zAG.cfg N) N (nthLoop (fnBody Tryz.f73) 1) zAG.sk18 zAG.xs18 d kn kx=zAG.l18 N d kn kx:=by kernel_rfl
theorem zAG.i18 (N:Nat):LoopsOk Tryz.prog TB (zAG.cfg N) (nthLoop (fnBody Tryz.f73) 1):=loopsL (l:=[]) (by kernel_rfl) trivial
theorem zAG.o18 (N:Nat):LoopOk Tryz.prog TB (nthLoop (fnBody Tryz.f73) 1) (loopCon N zAG.sk18 zAG.xs18 (fun {R}=>zAG.l18 (R:=R) N)):=loop_ok (g:=zAG.cfg N) tys_ok (zAG.cons N) mixed (zAG.i18 N) (fun d kn kx=>zAG.h18 N d kn kx)
theorem zAG.h8 {R:Type} (N:Nat) (d:zAG.sk8.D) (kn:zAG.sk8.D->Option R) (kx:XD zAG.xs8->Option R):roundK (zAG.cfg N) N (nthLoop (fnBody Tryz.f73) 0) zAG.sk8 zAG.xs8 d kn kx=zAG.l8 N d kn kx:=by kernel_rfl
theorem zAG.i8 (N:Nat):LoopsOk Tryz.prog TB (zAG.cfg N) (nthLoop (fnBody Tryz.f73) 0):=loopsL (l:=[nthLoop (fnBody Tryz.f73) 1]) (by kernel_rfl) ⟨loopOne (L0:=loopCon N zAG.sk18 zAG.xs18 (fun {R}=>zAG.l18 (R:=R) N)) (id:=18) (by kernel_rfl) (by kernel_rfl) (zAG.o18 N),trivial⟩
theorem zAG.o8 (N:Nat):LoopOk Tryz.prog TB (nthLoop (fnBody Tryz.f73) 0) (loopCon N zAG.sk8 zAG.xs8 (fun {R}=>zAG.l8 (R:=R) N)):=loop_ok (g:=zAG.cfg N) tys_ok (zAG.cons N) mixed (zAG.i8 N) (fun d kn kx=>zAG.h8 N d kn kx)
theorem zAG.ls (N:Nat):LoopsOk Tryz.prog TB (zAG.cfg N) (fnBody Tryz.f73):=loopsL (l:=[nthLoop (fnBody Tryz.f73) 0,nthLoop (fnBody Tryz.f73) 1]) (by kernel_rfl) ⟨loopOne (L0:=loopCon N zAG.sk8 zAG.xs8 (fun {R}=>zAG.l8 (R:=R) N)) (id:=8) (by kernel_rfl) (by kernel_rfl) (zAG.o8 N),⟨loopOne (L0:=loopCon N zAG.sk18 zAG.xs18 (fun {R}=>zAG.l18 (R:=R) N)) (id:=18) (by kernel_rfl) (by kernel_rfl) (zAG.o18 N),trivial⟩⟩
theorem zAG.q18 {R R':Type} {N n:Nat} {d} {k} {g:R->Option R'}:bindF (loopP (zAG.l18 N) n d k) g=loopP (zAG.l18 N) n d fun e=>bindF (k e) g:=bindF_loopP (fun d kn kx=>by simp only [zAG.l18,bindF_ifB,bindF_bindO,bindF_pure,bindF_none,bindF_onSum]) n d k
theorem zAG.q8 {R R':Type} {N n:Nat} {d} {k} {g:R->Option R'}:bindF (loopP (zAG.l8 N) n d k) g=loopP (zAG.l8 N) n d fun e=>bindF (k e) g:=bindF_loopP (fun d kn kx=>by simp only [zAG.l8,bindF_ifB,bindF_bindO,bindF_pure,bindF_none,bindF_onSum,zAG.q18]) n d k
theorem zAG.b (N:Nat) (x0:den s24) (x1:den .str):body (zAG.cfg N) N Tryz.f73 [.one,.one] [.v,.v] [(false,(.pr .imm (.pr .imm (.pr (.own .imm) .imm))))] [⟨s24,.imm,x0⟩,⟨.str,.imm,x1⟩] (fun r i=>some (r,i))=bindO (zAG N x0 x1) fun r=>some ([⟨s24,(.pr .imm (.pr .imm (.pr (.own .imm) .imm))),r⟩],[]):=by
 show _=bindF _ _
 conv=>rhs;simp only [zAG,bindF_ifB,bindF_bindO,bindF_pure,bindF_none,bindF_onSum,zAG.q8,zAG.q18]
 kernel_rfl
theorem zAG.ok (N:Nat):ConOk Tryz.prog TB 73 [.one,.one] (zAG.con N):=ok2 (g:=zAG.cfg N) (N:=N) (res:=[(false,(.pr .imm (.pr .imm (.pr (.own .imm) .imm))))]) tys_ok (zAG.cons N) mixed Tryz.func73 (zAG.ls N) rfl (zAG.b N)
theorem zAG.det (N:Nat):ConDet (zAG.con N):=det2
def zBL.con (N:Nat):Con:={ modes:=[.io],ptrs:=[false],fn:=fn1 s53 .imm (zBL N) (fun r=>[⟨s24,(.pr .imm (.pr .imm (.pr (.own .imm) .imm))),r.1⟩]) (fun r=>[⟨s53,.imm,r.2⟩]) }
def zBL.cfg (N:Nat):Cfg:={ ty:=tys,keep:=[5,8,12,23,24,25,27,29],flt:=[],elm:=elm0,live:=[],ord:=[(4,[0,1,2,3,4,5,6,7,8,9,10,11,12])],con:=[((33,[.one,.one]),zAD.con N),((18,[.one,.one]),zCB.con N),((38,[.one,.one]),zBC.con N),((74,[.one,.one]),zA8.con N),((73,[.one,.one]),zAG.con N)],loops:=[],joins:=[] }
theorem zBL.cons (N:Nat):ConsOk Tryz.prog TB (zBL.cfg N).con:=(consOk_cons (hb33) (zAD.ok N) (zAD.det N) (consOk_cons (hb18) (zCB.ok N) (zCB.det N) (consOk_cons (hb38) (zBC.ok N) (zBC.det N) (consOk_cons (hb74) (zA8.ok N) (zA8.det N) (consOk_cons (hb73) (zAG.ok N) (zAG.det N) consOk_nil)))))
theorem zBL.ls (N:Nat):LoopsOk Tryz.prog TB (zBL.cfg N) (fnBody Tryz.f39):=loopsL (l:=[]) (by kernel_rfl) trivial
theorem zBL.b (N:Nat) (x0:den s53):body (zBL.cfg N) N Tryz.f39 [.one] [.io] [(false,(.pr .imm (.pr .imm (.pr (.own .imm) .imm))))] [⟨s53,.imm,x0⟩] (fun r i=>some (r,i))=bindO (zBL N x0) fun r=>some ([⟨s24,(.pr .imm (.pr .imm (.pr (.own .imm) .imm))),r.1⟩],[⟨s53,.imm,r.2⟩]):=by
 show _=bindF _ _
 conv=>rhs;simp only [zBL,bindF_ifB,bindF_bindO,bindF_pure,bindF_none,bindF_onSum]
 kernel_rfl
theorem zBL.ok (N:Nat):ConOk Tryz.prog TB 39 [.one] (zBL.con N):=ok1 (g:=zBL.cfg N) (N:=N) (res:=[(false,(.pr .imm (.pr .imm (.pr (.own .imm) .imm))))]) tys_ok (zBL.cons N) mixed Tryz.func39 (zBL.ls N) rfl (zBL.b N)
theorem zBL.det (N:Nat):ConDet (zBL.con N):=det1
def zBR.con (N:Nat):Con:={ modes:=[.io],ptrs:=[false,false],fn:=fn1 s53 .imm (zBR N) (fun r=>[⟨s24,(.pr .imm (.pr .imm (.pr (.own .imm) .imm))),r.1⟩,⟨s24,(.pr .imm (.pr .imm (.pr (.own .imm) .imm))),r.2.1⟩]) (fun r=>[⟨s53,.imm,r.2.2⟩]) }
def zBR.cfg (N:Nat):Cfg:={ ty:=tys,keep:=[10,13,17,18,20,23,26,29,30,33,36,39,41,44,47],flt:=[],elm:=elm0,live:=[],ord:=[(5,[11,0,1,4,5,7,8,2,3,6,9,10,12]),(7,[0,2,1,3,4]),(9,[0,1,2,3,4]),(10,[0,1,2,3])],con:=[((33,[.one,.one]),zAD.con N),((35,[.one,.one]),zA7.con N),((36,[.one]),zBJ.con N),((34,[.one,.one,.one,.one,.one]),zAI.con N),((37,[.one]),zBQ.con N),((38,[.one,.one]),zBC.con N),((39,[.one]),zBL.con N)],loops:=[],joins:=[] }
theorem zBR.cons (N:Nat):ConsOk Tryz.prog TB (zBR.cfg N).con:=(consOk_cons (hb33) (zAD.ok N) (zAD.det N) (consOk_cons (hb35) (zA7.ok N) (zA7.det N) (consOk_cons (hb36) (zBJ.ok N) (zBJ.det N) (consOk_cons (hb34) (zAI.ok N) (zAI.det N) (consOk_cons (hb37) (zBQ.ok N) (zBQ.det N) (consOk_cons (hb38) (zBC.ok N) (zBC.det N) (consOk_cons (hb39) (zBL.ok N) (zBL.det N) consOk_nil)))))))
theorem zBR.ls (N:Nat):LoopsOk Tryz.prog TB (zBR.cfg N) (fnBody Tryz.f13):=loopsL (l:=[]) (by kernel_rfl) trivial
theorem zBR.b (N:Nat) (x0:den s53):body (zBR.cfg N) N Tryz.f13 [.one] [.io] [(false,(.pr .imm (.pr .imm (.pr (.own .imm) .imm)))),(false,(.pr .imm (.pr .imm (.pr (.own .imm) .imm))))] [⟨s53,.imm,x0⟩] (fun r i=>some (r,i))=bindO (zBR N x0) fun r=>some ([⟨s24,(.pr .imm (.pr .imm (.pr (.own .imm) .imm))),r.1⟩,⟨s24,(.pr .imm (.pr .imm (.pr (.own .imm) .imm))),r.2.1⟩],[⟨s53,.imm,r.2.2⟩]):=by
 show _=bindF _ _
 conv=>rhs;simp only [zBR,bindF_ifB,bindF_bindO,bindF_pure,bindF_none,bindF_onSum]
 kernel_rfl
theorem zBR.ok (N:Nat):ConOk Tryz.prog TB 13 [.one] (zBR.con N):=ok1 (g:=zBR.cfg N) (N:=N) (res:=[(false,(.pr .imm (.pr .imm (.pr (.own .imm) .imm)))),(false,(.pr .imm (.pr .imm (.pr (.own .imm) .imm))))]) tys_ok (zBR.cons N) mixed Tryz.func13 (zBR.ls N) rfl (zBR.b N)
theorem zBR.det (N:Nat):ConDet (zBR.con N):=det1
def zC5.con (N:Nat):Con:={ modes:=[.v],ptrs:=[false],fn:=fn1 s22 .imm (zC5 N) (fun r=>[⟨s24,(.pr .imm (.pr .imm (.pr (.own .imm) .imm))),r⟩]) (fun r=>[]) }
def zC5.cfg (N:Nat):Cfg:={ ty:=tys,keep:=[7,10],flt:=[],elm:=elm0,live:=[],ord:=[],con:=[((12,[.one]),zAQ.con N),((13,[.one]),zBR.con N)],loops:=[],joins:=[] }
theorem zC5.cons (N:Nat):ConsOk Tryz.prog TB (zC5.cfg N).con:=(consOk_cons (hb12) (zAQ.ok N) (zAQ.det N) (consOk_cons (hb13) (zBR.ok N) (zBR.det N) consOk_nil))
theorem zC5.ls (N:Nat):LoopsOk Tryz.prog TB (zC5.cfg N) (fnBody Tryz.f4):=loopsL (l:=[]) (by kernel_rfl) trivial
theorem zC5.b (N:Nat) (x0:den s22):body (zC5.cfg N) N Tryz.f4 [.one] [.v] [(false,(.pr .imm (.pr .imm (.pr (.own .imm) .imm))))] [⟨s22,.imm,x0⟩] (fun r i=>some (r,i))=bindO (zC5 N x0) fun r=>some ([⟨s24,(.pr .imm (.pr .imm (.pr (.own .imm) .imm))),r⟩],[]):=by
 show _=bindF _ _
 conv=>rhs;simp only [zC5,bindF_ifB,bindF_bindO,bindF_pure,bindF_none,bindF_onSum]
 kernel_rfl
theorem zC5.ok (N:Nat):ConOk Tryz.prog TB 4 [.one] (zC5.con N):=ok1 (g:=zC5.cfg N) (N:=N) (res:=[(false,(.pr .imm (.pr .imm (.pr (.own .imm) .imm))))]) tys_ok (zC5.cons N) mixed Tryz.func4 (zC5.ls N) rfl (zC5.b N)
theorem zC5.det (N:Nat):ConDet (zC5.con N):=det1
def zB7.con (N:Nat):Con:={ modes:=[.v,.v,.v],ptrs:=[false],fn:=fn3 (.int .i64) .imm (.int .i64) .imm (.int .i64) .imm (zB7 N) (fun r=>[⟨.bool,.imm,r⟩]) (fun r=>[]) }
def zB7.cfg (N:Nat):Cfg:={ ty:=tys,keep:=[],flt:=[],elm:=elm0,live:=[],ord:=[],con:=[],loops:=[],joins:=[] }
theorem zB7.cons (N:Nat):ConsOk Tryz.prog TB (zB7.cfg N).con:=consOk_nil
theorem zB7.ls (N:Nat):LoopsOk Tryz.prog TB (zB7.cfg N) (fnBody Tryz.f20):=loopsL (l:=[]) (by kernel_rfl) trivial
theorem zB7.b (N:Nat) (x0:den (.int .i64)) (x1:den (.int .i64)) (x2:den (.int .i64)):body (zB7.cfg N) N Tryz.f20 [.one,.one,.one] [.v,.v,.v] [(false,.imm)] [⟨(.int .i64),.imm,x0⟩,⟨(.int .i64),.imm,x1⟩,⟨(.int .i64),.imm,x2⟩] (fun r i=>some (r,i))=bindO (zB7 N x0 x1 x2) fun r=>some ([⟨.bool,.imm,r⟩],[]):=by
 show _=bindF _ _
 conv=>rhs;simp only [zB7,bindF_ifB,bindF_bindO,bindF_pure,bindF_none,bindF_onSum]
 kernel_rfl
theorem zB7.ok (N:Nat):ConOk Tryz.prog TB 20 [.one,.one,.one] (zB7.con N):=ok3 (g:=zB7.cfg N) (N:=N) (res:=[(false,.imm)]) tys_ok (zB7.cons N) mixed Tryz.func20 (zB7.ls N) rfl (zB7.b N)
theorem zB7.det (N:Nat):ConDet (zB7.con N):=det3
def zCJ.con (N:Nat):Con:={ modes:=[.v],ptrs:=[false],fn:=fn1 (.int .i64) .imm (zCJ N) (fun r=>[⟨.bool,.imm,r⟩]) (fun r=>[]) }
def zCJ.cfg (N:Nat):Cfg:={ ty:=tys,keep:=[4],flt:=[],elm:=elm0,live:=[],ord:=[],con:=[((20,[.one,.one,.one]),zB7.con N)],loops:=[],joins:=[] }
theorem zCJ.cons (N:Nat):ConsOk Tryz.prog TB (zCJ.cfg N).con:=(consOk_cons (hb20) (zB7.ok N) (zB7.det N) consOk_nil)
theorem zCJ.ls (N:Nat):LoopsOk Tryz.prog TB (zCJ.cfg N) (fnBody Tryz.f31):=loopsL (l:=[]) (by kernel_rfl) trivial
theorem zCJ.b (N:Nat) (x0:den (.int .i64)):body (zCJ.cfg N) N Tryz.f31 [.one] [.v] [(false,.imm)] [⟨(.int .i64),.imm,x0⟩] (fun r i=>some (r,i))=bindO (zCJ N x0) fun r=>some ([⟨.bool,.imm,r⟩],[]):=by
 show _=bindF _ _
 conv=>rhs;simp only [zCJ,bindF_ifB,bindF_bindO,bindF_pure,bindF_none,bindF_onSum]
 kernel_rfl
theorem zCJ.ok (N:Nat):ConOk Tryz.prog TB 31 [.one] (zCJ.con N):=ok1 (g:=zCJ.cfg N) (N:=N) (res:=[(false,.imm)]) tys_ok (zCJ.cons N) mixed Tryz.func31 (zCJ.ls N) rfl (zCJ.b N)
theorem zCJ.det (N:Nat):ConDet (zCJ.con N):=det1
def zCK.con (N:Nat):Con:={ modes:=[.v],ptrs:=[false],fn:=fn1 (.int .i64) .imm (zCK N) (fun r=>[⟨.bool,.imm,r⟩]) (fun r=>[]) }
def zCK.cfg (N:Nat):Cfg:={ ty:=tys,keep:=[4],flt:=[],elm:=elm0,live:=[],ord:=[],con:=[((20,[.one,.one,.one]),zB7.con N)],loops:=[],joins:=[] }
theorem zCK.cons (N:Nat):ConsOk Tryz.prog TB (zCK.cfg N).con:=(consOk_cons (hb20) (zB7.ok N) (zB7.det N) consOk_nil)
theorem zCK.ls (N:Nat):LoopsOk Tryz.prog TB (zCK.cfg N) (fnBody Tryz.f32):=loopsL (l:=[]) (by kernel_rfl) trivial
theorem zCK.b (N:Nat) (x0:den (.int .i64)):body (zCK.cfg N) N Tryz.f32 [.one] [.v] [(false,.imm)] [⟨(.int .i64),.imm,x0⟩] (fun r i=>some (r,i))=bindO (zCK N x0) fun r=>some ([⟨.bool,.imm,r⟩],[]):=by
 show _=bindF _ _
 conv=>rhs;simp only [zCK,bindF_ifB,bindF_bindO,bindF_pure,bindF_none,bindF_onSum]
 kernel_rfl
theorem zCK.ok (N:Nat):ConOk Tryz.prog TB 32 [.one] (zCK.con N):=ok1 (g:=zCK.cfg N) (N:=N) (res:=[(false,.imm)]) tys_ok (zCK.cons N) mixed Tryz.func32 (zCK.ls N) rfl (zCK.b N)
theorem zCK.det (N:Nat):ConDet (zCK.con N):=det1
end Go.AE.F
end
