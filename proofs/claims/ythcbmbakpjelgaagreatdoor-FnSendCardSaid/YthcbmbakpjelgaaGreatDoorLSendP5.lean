/- Plain laws of those functions. -/
import Derived.Test.YthcbmbakpjelgaaGreatDoorLSendP4
namespace Go.AE.F
open Go.AE
def halfG (g:GridT) (i:Nat):Bool:=decide (0 < (i:Int) % g.2.1) && wideC (cellD g (i - 1))
def flG (g:GridT) (i:Nat) (ov:Bool):Option Bool :=
 if halfG g i=true then some ov else if (cellD g i).1=[] then (if (cellD g i).2.1=0 then some true else none) else if ov=true then none else some ov
def flatI (g:GridT):Nat->Nat->Bool->Bool
 | 0,_,_=>true
 | m+1,i,ov=>match flG g i (if (i:Int) % g.2.1=0 then false else ov) with
  | none=>false
  | some o=>flatI g m (i+1) o
def flatR (g:GridT):Nat->Nat->Bool->Bool
 | 0,_,_=>true
 | m+1,i,ov=>match flG g i ov with
  | none=>false
  | some o=>flatR g m (i+1) o
def rowsF (g:GridT) (C:Nat):Nat->Nat->Bool
 | 0,_=>true
 | m+1,r=>flatR g C (r * C) false && rowsF g C m (r+1)
theorem zGD {r C c:Nat} (h:c < C):((r * C+c:Nat):Int) % (C:Int)=(c:Int):=by
 rw [← Int.natCast_emod,Nat.add_comm,Nat.add_mul_mod_self_right,Nat.mod_eq_of_lt h]
theorem zMK (g:GridT) (C:Nat) (hC:g.2.1=(C:Int)) (r rest:Nat):∀ (m c:Nat) (ov:Bool),c+m=C->0 < c->flatI g (m+rest) (r * C+c) ov=(flatR g m (r * C+c) ov && flatI g rest ((r+1) * C) true):=by
 have nxt:∀ ov,flatI g rest ((r+1) * C) ov=flatI g rest ((r+1) * C) true:=by
  intro ov
  cases rest with
  | zero=>rfl
  | succ n =>
   have:(((r+1) * C:Nat):Int) % g.2.1=0:=by rw [hC,← Int.natCast_emod,Nat.mul_mod_left];rfl
   simp only [flatI,this,if_true]
 intro m
 induction m with
 | zero =>
  intro c ov h1 h2
  have:r * C+c=(r+1) * C:=by rw [Nat.succ_mul];omega
  rw [this,Nat.zero_add,nxt]
  rfl
 | succ m ih =>
  intro c ov h1 h2
  have hm:((r * C+c:Nat):Int) % g.2.1=(c:Int):=by rw [hC];exact zGD (by omega)
  rw [show m+1+rest=(m+rest)+1 by omega]
  simp only [flatI,flatR,hm]
  rw [if_neg (by omega)]
  cases flG g (r * C+c) ov with
  | none=>rfl
  | some o=>exact ih (c+1) o (by omega) (by omega)
theorem zFL (g:GridT) (C:Nat) (hC:g.2.1=(C:Int)) (h0:0 < C):∀ (m r:Nat) (ov:Bool),flatI g (m * C) (r * C) ov=rowsF g C m r:=by
 intro m
 induction m with
 | zero=>intro r ov;rw [Nat.zero_mul];rfl
 | succ m ih =>
  intro r ov
  obtain ⟨c,rfl⟩:∃ c,C=c+1:=⟨C - 1,by omega⟩
  have hm:((r * (c+1):Nat):Int) % g.2.1=0:=by rw [hC,← Int.natCast_emod,Nat.mul_mod_left];rfl
  have e:(m+1) * (c+1)=(c+m * (c+1))+1:=by rw [Nat.succ_mul];omega
  rw [e]
  simp only [flatI,hm,if_true,rowsF,flatR]
  cases h:flG g (r * (c+1)) false with
  | none=>rfl
  | some o =>
   simp only []
   have:=zMK g (c+1) hC r (m * (c+1)) c 1 o (by omega) (by omega)
   rw [this,ih (r+1) true]
def flatG (g:GridT):Bool:=gridG g && !g.2.2.2.2.2.1 && decide (g.2.2.2.2.2.2.1=0) && flatI g g.2.2.1.length 0 false
theorem zLN (N:Nat) (hN:10 < N) (g:GridT) (hC:2<=g.2.1) (i:Nat) (hi:i < g.2.2.1.length) (hl:g.2.2.1.length<=2000):zAV N g (i:Int)=some (halfG g i):=by
 unfold zAV halfG
 rw [pEq_f (by omega),ifB_f,zFP (by omega),pGt_d]
 by_cases h:(i:Int) % g.2.1 > 0
 ·have h1:1<=i:=by
   rcases Nat.eq_zero_or_pos i with q | q
   ·subst q;simp at h
   ·exact q
  rw [decide_eq_true h,ifB_t,zCX (by omega) (by omega),show (i:Int) - 1=((i - 1:Nat):Int) by omega,zCT (by omega:i - 1 < g.2.2.1.length),zA2,zEC N _ hN,zA2,zA2,← zD5 (by omega),Bool.true_and]
 ·rw [decide_eq_false h,ifB_f,zA2,Bool.false_and]
theorem zIV (N:Nat) (g:GridT) (hC:2<=g.2.1) (i:Nat) (hi:i < g.2.2.1.length) (hl:g.2.2.1.length<=2000):zCA N g (i:Int)=some (halfG g i):=by
 unfold zCA halfG
 rw [pEq_f (by omega),ifB_f,zFP (by omega),pGt_d]
 by_cases h:(i:Int) % g.2.1 > 0
 ·have h1:1<=i:=by
   rcases Nat.eq_zero_or_pos i with q | q
   ·subst q;simp at h
   ·exact q
  rw [decide_eq_true h,ifB_t,zCX (by omega) (by omega),show (i:Int) - 1=((i - 1:Nat):Int) by omega,zCT (by omega:i - 1 < g.2.2.1.length),zA2,zD6,zA2,zA2,← zD5 (by omega),Bool.true_and]
 ·rw [decide_eq_false h,ifB_f,zA2,Bool.false_and]
theorem zGT (N:Nat) (hN:10 < N) (g:GridT) (hC:2<=g.2.1/\g.2.1<=80) (hl:g.2.2.1.length<=2000) (i:Nat) (hlt:i < g.2.2.1.length) (ov:Bool) {R:Type} (kn:Bool×Int×Int×GridT×Unit->Option R) (kx:Unit ⊕ (Bool×Unit)->Option R) :
  zAO.l5 N (ov,(g.2.2.1.length:Int),(i:Int),g,()) kn kx=match flG g i (if (i:Int) % g.2.1=0 then false else ov) with
   | none=>kx (.inr (false,()))
   | some o=>kn (o,(g.2.2.1.length:Int),((i+1:Nat):Int),g,()):=by
 have hx:idx g.2.2.1 (i:Int)=some (cellD g i):=by rw [zCT hlt,zD5 hlt]
 have e2:pAdd .i64 (i:Int) 1=((i+1:Nat):Int):=zC6 (by omega) (by omega)
 unfold zAO.l5;simp only []
 rw [pLt_t (by omega),ifB_t,pEq_f (by omega:¬ g.2.1=0),ifB_f,zFP (by omega),pEq_d,hx,zLN N hN g hC.1 i hlt hl]
 simp only [zA2,zF3,zCZ,pNe_d,flG]
 by_cases h0:(i:Int) % g.2.1=0
 ·rw [decide_eq_true h0,ifB_t]
  simp only [h0,if_true]
  cases hh:halfG g i with
  | true=>rw [ifB_t,zA2];simp only [onSum,e2,if_true]
  | false =>
   rw [ifB_f]
   by_cases he:(cellD g i).1=[]
   ·simp only [he,decide_true,Bool.not_true,ifB_f,Bool.false_eq_true,if_false,if_true]
    by_cases ha:(cellD g i).2.1=0
    ·simp only [ha,decide_true,Bool.not_true,ifB_f,zA2,onSum,e2,if_true]
    ·simp only [ha,decide_false,Bool.not_false,ifB_t,zA2,onSum,if_false]
   ·simp only [he,decide_false,Bool.not_false,ifB_t,Bool.false_eq_true,if_false,zA2,onSum,e2]
 ·rw [decide_eq_false h0,ifB_f]
  simp only [h0,if_false]
  cases hh:halfG g i with
  | true=>rw [ifB_t,zA2];simp only [onSum,e2,if_true]
  | false =>
   rw [ifB_f]
   by_cases he:(cellD g i).1=[]
   ·simp only [he,decide_true,Bool.not_true,ifB_f,Bool.false_eq_true,if_false,if_true]
    by_cases ha:(cellD g i).2.1=0
    ·simp only [ha,decide_true,Bool.not_true,ifB_f,zA2,onSum,e2,if_true]
    ·simp only [ha,decide_false,Bool.not_false,ifB_t,zA2,onSum,if_false]
   ·simp only [he,decide_false,Bool.not_false,ifB_t,Bool.false_eq_true,if_false]
    cases ov with
    | true=>simp only [ifB_t,zA2,onSum,if_true]
    | false=>simp only [ifB_f,zA2,onSum,e2,if_false,Bool.false_eq_true]
theorem zGJ (N:Nat) (hN:10 < N) (g:GridT) (hC:2<=g.2.1/\g.2.1<=80) (hl:g.2.2.1.length<=2000) {R:Type} (k:Unit ⊕ (Bool×Unit)->Option R):∀ (m i f:Nat) (ov:Bool),g.2.2.1.length - i=m->i<=g.2.2.1.length->m < f ->
  loopP (zAO.l5 N) f (ov,(g.2.2.1.length:Int),(i:Int),g,()) k=if flatI g m i ov=true then k (.inl ()) else k (.inr (false,())):=by
 intro m
 induction m with
 | zero =>
  intro i f ov hm hi hf
  obtain ⟨f,rfl⟩:=zCU hf
  rw [zCO];unfold zAO.l5;simp only []
  rw [pLt_f (by omega),ifB_f];rfl
 | succ m ih =>
  intro i f ov hm hi hf
  obtain ⟨f,rfl⟩:=zCU hf
  rw [zCO,zGT N hN g hC hl i (by omega),flatI]
  cases flG g i (if (i:Int) % g.2.1=0 then false else ov) with
  | none=>simp
  | some o=>exact ih (i+1) f o (by omega) (by omega) (by omega)
theorem zGP (N:Nat) (g:GridT) (C:Nat) (hC:g.2.1=(C:Int)) (h2:2<=C/\C<=80) (hl:g.2.2.1.length<=2000) (r c:Nat) (hlt:r * C+c < g.2.2.1.length) (hc:c < C) (ov:Bool) {R:Type} (kn:Int×Bool×Int×GridT×Unit->Option R) (kx:(Int×GridT×Unit) ⊕ (Bool×Unit)->Option R) :
  zA4.l8 N ((r:Int),ov,(c:Int),g,()) kn kx=match flG g (r * C+c) ov with
   | none=>kx (.inr (false,()))
   | some o=>kn ((r:Int),o,((c+1:Nat):Int),g,()):=by
 have hx:idx g.2.2.1 (((r * C+c:Nat)):Int)=some (cellD g (r * C+c)):=by rw [zCT hlt,zD5 hlt]
 have e2:pAdd .i64 (c:Int) 1=((c+1:Nat):Int):=zC6 (by omega) (by omega)
 have e0:((r * C:Nat):Int)=(r:Int) * (C:Int):=by push_cast;rfl
 have e1:pAdd .i64 (pMul .i64 (r:Int) g.2.1) (c:Int)=((r * C+c:Nat):Int):=by
  rw [hC,zDA (by omega) (by omega),zC6 (by omega) (by omega)];push_cast;rfl
 unfold zA4.l8;simp only []
 rw [pLt_t (by omega),ifB_t,e1,zIV N g (by omega) _ hlt hl,zA2]
 simp only [flG]
 cases hh:halfG g (r * C+c) with
 | true=>rw [ifB_t,zA2];simp only [onSum,e2,if_true]
 | false =>
  rw [ifB_f,hx]
  simp only [zA2,zCP,pEq_d,pNe_d]
  by_cases he:(cellD g (r * C+c)).1=[]
  ·simp only [he,List.length_nil,Int.natCast_zero,decide_true,ifB_t,Bool.false_eq_true,if_false,if_true]
   by_cases ha:(cellD g (r * C+c)).2.1=0
   ·simp only [ha,decide_true,Bool.not_true,ifB_f,zA2,onSum,e2,if_true]
   ·simp only [ha,decide_false,Bool.not_false,ifB_t,zA2,onSum,if_false]
  ·have hne:¬ (((cellD g (r * C+c)).1.length:Int)=0):=by
    have:0 < (cellD g (r * C+c)).1.length:=List.length_pos_iff.2 he
    omega
   simp only [he,hne,decide_false,ifB_f,Bool.false_eq_true,if_false]
   cases ov with
   | true=>simp only [ifB_t,zA2,onSum,if_true]
   | false=>simp only [ifB_f,zA2,onSum,e2,if_false,Bool.false_eq_true]
theorem zHR (N:Nat) (g:GridT) (C:Nat) (hC:g.2.1=(C:Int)) (h2:2<=C/\C<=80) (hl:g.2.2.1.length<=2000) (r:Nat) (hr:(r+1) * C<=g.2.2.1.length) {R:Type} (k:(Int×GridT×Unit) ⊕ (Bool×Unit)->Option R) :
  ∀ (m c f:Nat) (ov:Bool),c+m=C->m < f ->
  loopP (zA4.l8 N) f ((r:Int),ov,(c:Int),g,()) k=if flatR g m (r * C+c) ov=true then k (.inl ((r:Int),g,())) else k (.inr (false,())):=by
 have hr2:(r+1) * C=r * C+C:=Nat.succ_mul r C
 intro m
 induction m with
 | zero =>
  intro c f ov hm hf
  obtain ⟨f,rfl⟩:=zCU hf
  rw [zCO];unfold zA4.l8;simp only []
  rw [pLt_f (by omega),ifB_f];rfl
 | succ m ih =>
  intro c f ov hm hf
  obtain ⟨f,rfl⟩:=zCU hf
  rw [zCO,zGP N g C hC h2 hl r c (by omega) (by omega),flatR]
  cases flG g (r * C+c) ov with
  | none=>simp
  | some o=>exact ih (c+1) f o (by omega) (by omega)
theorem zGN (N:Nat) (g:GridT) (C Rn:Nat) (hC:g.2.1=(C:Int)) (hR:g.1=(Rn:Int)) (h2:2<=C/\C<=80) (h3:Rn<=24) (hl:g.2.2.1.length=Rn * C) (hN:100 < N) {R:Type} (k:Unit ⊕ (Bool×Unit)->Option R) :
  ∀ (m r f:Nat),Rn - r=m->r<=Rn->m < f->loopP (zA4.l4 N) f ((r:Int),g,()) k=if rowsF g C m r=true then k (.inl ()) else k (.inr (false,())):=by
 have hb:Rn * C<=24 * 80:=Nat.mul_le_mul h3 h2.2
 intro m
 induction m with
 | zero =>
  intro r f hm hr hf
  obtain ⟨f,rfl⟩:=zCU hf
  rw [zCO];unfold zA4.l4;simp only []
  rw [pLt_f (by omega),ifB_f];rfl
 | succ m ih =>
  intro r f hm hr hf
  obtain ⟨f,rfl⟩:=zCU hf
  have e2:pAdd .i64 (r:Int) 1=((r+1:Nat):Int):=zC6 (by omega) (by omega)
  have st:∀ kn,zA4.l4 N ((r:Int),g,()) kn k=loopP (zA4.l8 N) N ((r:Int),false,0,g,()) (onSum (fun d=>let x58:=d.1;let x59:=d.2.1;kn ((pAdd Go.IntKind.i64 x58 1),x59,())) (fun d=>let x60:=d.1;k (.inr (x60,())))):=fun kn=>by
   unfold zA4.l4;simp only []
   rw [pLt_t (by omega),ifB_t]
  rw [zCO,st]
  have hr1:(r+1) * C<=g.2.2.1.length:=by rw [hl];exact Nat.mul_le_mul_right _ (by omega)
  have:=zHR N g C hC h2 (by omega) r hr1 (onSum (fun d=>let x58:=d.1;let x59:=d.2.1;loopP (zA4.l4 N) f ((pAdd Go.IntKind.i64 x58 1),x59,()) k) (fun d=>let x60:=d.1;k (.inr (x60,())))) C 0 N false (by omega) (by omega)
  refine Eq.trans this ?_
  rw [Nat.add_zero,rowsF]
  cases hh:flatR g C (r * C) false with
  | true =>
   simp only [if_true,Bool.true_and,onSum,e2]
   exact ih (r+1) f (by omega) (by omega) (by omega)
  | false=>simp [onSum]
theorem zED (N:Nat) (g:GridT) (hN:2100 < N) (hl:g.2.2.1.length<=1048576) (hc:∀ x∈g.2.2.1,x.1.length<=1048576/\x.1.length+20 < N):zAO N g=some (flatG g):=by
 unfold zAO flatG
 rw [zEF N g hN hl hc]
 simp only [zA2,zDH,zCZ,pNe_d]
 cases hg:gridG g with
 | false=>simp [ifB_t]
 | true =>
  have hh:headG g=true:=by unfold gridG at hg;rw [Bool.and_eq_true] at hg;exact hg.1
  obtain ⟨b1,b2,b3,b4,b5,_⟩:=zD1.1 hh
  have hm:=zEN (a:=g.1) (b:=g.2.1) (by omega) (by omega) (by omega) (by omega)
  simp only [Bool.not_true,Bool.false_or,Bool.true_and]
  cases h1:g.2.2.2.2.2.1 with
  | true=>simp [ifB_t]
  | false =>
   by_cases h2:g.2.2.2.2.2.2.1=0
   ·simp only [h2,decide_true,Bool.not_true,Bool.or_self,ifB_f,Bool.not_false,Bool.true_and]
    rw [show zBE N g.2.2.1=some (pLen g.2.2.1) from rfl,zA2,zCP]
    refine Eq.trans (zGJ N (by omega) g ⟨b3,b4⟩ (by omega) _ _ 0 N false rfl (by omega) (by omega)) ?_
    rw [Nat.sub_zero]
    split
    ·rename_i h;rw [h];rfl
    ·rename_i h;simp only [Bool.not_eq_true] at h;rw [h];rfl
   ·simp [h2,ifB_t]
theorem zDF (N:Nat) (g:GridT) (hN:2100 < N) (hl:g.2.2.1.length<=1048576):zA4 N g=some (flatG g):=by
 unfold zA4 flatG
 rw [zEG N g (by omega) hl]
 simp only [zA2,zDH,zCZ,pNe_d]
 cases hg:gridG g with
 | false=>simp [ifB_t]
 | true =>
  have hh:headG g=true:=by unfold gridG at hg;rw [Bool.and_eq_true] at hg;exact hg.1
  obtain ⟨b1,b2,b3,b4,b5,_⟩:=zD1.1 hh
  have hm:=zEN (a:=g.1) (b:=g.2.1) (by omega) (by omega) (by omega) (by omega)
  simp only [Bool.not_true,Bool.false_or,Bool.true_and]
  cases h1:g.2.2.2.2.2.1 with
  | true=>simp [ifB_t]
  | false =>
   by_cases h2:g.2.2.2.2.2.2.1=0
   ·simp only [h2,decide_true,Bool.not_true,Bool.or_self,ifB_f,Bool.not_false,Bool.true_and]
    have eC:g.2.1=((g.2.1.toNat:Nat):Int):=by omega
    have eR:g.1=((g.1.toNat:Nat):Int):=by omega
    have eL:g.2.2.1.length=g.1.toNat * g.2.1.toNat:=by
     have:((g.1.toNat * g.2.1.toNat:Nat):Int)=g.1 * g.2.1:=by push_cast;rw [← eC,← eR]
     omega
    refine Eq.trans (zGN N g g.2.1.toNat g.1.toNat eC eR ⟨by omega,by omega⟩ (by omega) eL (by omega) _ _ 0 N rfl (by omega) (by omega)) ?_
    have:=zFL g g.2.1.toNat eC (by omega) g.1.toNat 0 false
    rw [Nat.zero_mul,← eL] at this
    rw [Nat.sub_zero,this]
    split
    ·rename_i h;rw [h];rfl
    ·rename_i h;simp only [Bool.not_eq_true] at h;rw [h];rfl
   ·simp [h2,ifB_t]
end Go.AE.F
