/- Plain laws of those functions. -/
import Derived.Test.YthcbmbakpjelgaaGreatDoorLSendP23
namespace Go.AE.F
open Go.AE
def numP (x:Int):Prop:=x=59 \/ (48<=x/\x<=57)
theorem zNE (N:Nat) (pts:List Int) (hl:pts.length<=100000) (hN:pts.length < N) (hp:∀ x∈pts,numP x):Tot (fun l:List Int=>2<=l.length/\∀ x∈l,0<=x/\x<=99999) (zB7 N pts):=by
 unfold zB7
 refine zEO (fun m (d:List Int×Int×Int×List Int×Unit)=>∃ (i k:Nat) (L:List Int) (v:Int),d.1=pts/\d.2.1=(k:Int)/\d.2.2.1=(i:Int)/\d.2.2.2.1=L ++ [v]/\i<=pts.length/\pts.length<=m+i/\k<=i/\L.length<=i/\(∀ x∈L,0<=x/\x<=99999)/\0<=v/\v<=9999/\(k=0->v=0)/\(k=1->v<=9)/\(k=2->v<=99)/\(k=3->v<=999))
  (fun (e:List Int×Unit)=>1<=e.1.length/\e.1.length<=200000/\∀ x∈e.1,0<=x/\x<=99999) ?_ ?_ N pts.length _ hN ⟨0,0,[],0,rfl,rfl,rfl,rfl,by omega,by omega,by omega,by simp,(fun _ h=>by cases h),by omega,by omega,fun _=>rfl,by omega,by omega,by omega⟩
 ·intro e ⟨e1,e2,e3⟩
  refine Tot.fit (by simp;omega) (Tot.ret ⟨by simp [pApp];omega,fun x hx=>?_⟩)
  unfold pApp at hx
  rcases List.mem_append.1 hx with z | z
  ·exact e3 x z
  ·have:x=0:=by simpa using z
   omega
 ·intro m d kn kx ⟨i,k,L,v,d1,d2,d3,d4,d5,d6,d7,d8,d9,v0,v1,k0,k1,k2,k3⟩ hn hx
  unfold zB7.l4
  simp only [d1,d2,d3,d4,zCP (xs:=pts)]
  have el:pSub .i64 (pLen (L ++ [v])) 1=(L.length:Int):=by rw [zCP,List.length_append,List.length_singleton,zCX (by omega) (by omega)];omega
  refine Tot.ite (fun hh=>?_) (fun _=>hx _ ⟨by simp,by simp;omega,fun x hm=>?_⟩)
  ·have hlt:i < pts.length:=by rw [pLt_d] at hh;have:=of_decide_eq_true hh;omega
   have hpi:=hp _ (List.getElem_mem hlt)
   rw [zCT hlt,zA2]
   have ei:pAdd .i64 (i:Int) 1=((i+1:Nat):Int):=zC6 (by omega) (by omega)
   by_cases h59:pts[i]=59
   ·rw [pEq_t h59,ifB_t,zD0 (by simp;omega),ifB_t,zA2]
    simp only [ei]
    refine hn (m - 1) _ (by omega) ⟨i+1,0,L ++ [v],0,rfl,rfl,rfl,rfl,by omega,by omega,by omega,by simp;omega,fun x hm=>?_,by omega,by omega,fun _=>rfl,by omega,by omega,by omega⟩
    rcases List.mem_append.1 hm with z | z
    ·exact d9 x z
    ·have:x=v:=by simpa using z
     omega
   ·have hdig:48<=pts[i]/\pts[i]<=57:=by rcases hpi with z | z;exact absurd z h59;exact z
    rw [pEq_f h59,ifB_f,el]
    simp only [zDW,zA2,zFC]
    have ev:pSub .i64 (pAdd .i64 (pMul .i64 10 v) pts[i]) 48=10 * v+pts[i] - 48:=by
     rw [zDA (by omega) (by omega),zC6 (by omega) (by omega),zCX (by omega) (by omega)]
    have ek:pAdd .i64 (k:Int) 1=((k+1:Nat):Int):=zC6 (by omega) (by omega)
    rw [ev,ek]
    by_cases hk:4 < k+1
    ·rw [pGt_t (by omega),ifB_t,zA2]
     simp only [ei]
     exact hn (m - 1) _ (by omega) ⟨i+1,k+1,L,0,rfl,rfl,rfl,rfl,by omega,by omega,by omega,by omega,d9,by omega,by omega,by omega,by omega,by omega,by omega⟩
    ·rw [pGt_f (by omega),ifB_f,zA2]
     simp only [ei]
     refine hn (m - 1) _ (by omega) ⟨i+1,k+1,L,10 * v+pts[i] - 48,rfl,rfl,rfl,rfl,by omega,by omega,by omega,by omega,d9,by omega,?_,by omega,?_,?_,?_⟩
     ·have:k=0 \/ k=1 \/ k=2 \/ k=3:=by omega
      rcases this with z | z | z | z
      ·have:=k0 z;omega
      ·have:=k1 z;omega
      ·have:=k2 z;omega
      ·have:=k3 z;omega
     ·intro z;have:=k0 (by omega);omega
     ·intro z;have:=k1 (by omega);omega
     ·intro z;have:=k2 (by omega);omega
  ·rcases List.mem_append.1 hm with z | z
   ·exact d9 x z
   ·have:x=v:=by simpa using z
    omega
section
variable {N:Nat} {R C:Nat} (hC:2<=C/\C<=80) (hR:1<=R/\R<=24)
include hC hR
theorem zON (hN:60000 < N) (s:GridT×Unit) (h:GI R C s.1) (pts:List Int) (hl:pts.length<=50000) (hp:∀ x∈pts,numP x) (e:Int):Tot (fun s':GridT×Unit=>GI R C s'.1) (zBH N s pts e):=by
 have _:=hC
 have _:=hR
 have hb:=zEQ hC hR
 have hb:=hb
 have mm:∀ x y:Int,zCD N x y=some (if x < y then x else y):=fun x y=>by
  unfold zCD
  by_cases q:x < y
  ·rw [pLt_t q,ifB_t,if_pos q]
  ·rw [pLt_f (by omega),ifB_f,if_neg q]
 have mx:∀ x y:Int,zBV N x y=some (if y < x then x else y):=fun x y=>by
  unfold zBV
  by_cases q:y < x
  ·rw [pGt_t q,ifB_t,if_pos q]
  ·rw [pGt_f (by omega),ifB_f,if_neg q]
 unfold zBH
 refine Tot.bind (zNE N pts (by omega) (by omega) hp) fun l ⟨l1,l2⟩=>?_
 have hl0:=l2 _ (List.getElem_mem (show 0 < l.length by omega))
 have hl1:=l2 _ (List.getElem_mem (show 1 < l.length by omega))
 have i0:idx l 0=some l[0]:=zCT (i:=0) (by omega)
 have i1:idx l 1=some l[1]:=zCT (i:=1) (by omega)
 generalize l[0]=x0 at *
 generalize l[1]=x1 at *
 simp only [i0,i1,zA2,mm,mx]
 obtain ⟨h1,h2,h3,h4,h5,h6,h7,h8⟩:=h
 have hg:GI R C s.1:=⟨h1,h2,h3,h4,h5,h6,h7,h8⟩
 generalize hn:(if x0 < 1 then (1:Int) else x0)=n
 have hn1:1<=n/\n<=99999:=by rw [← hn];split <;> omega
 refine Tot.ite (fun _=>Tot.both (Tot.ret ⟨h1,h2,h3,h4,h5,h6,h7,h8⟩) (Tot.ret hg)) fun _=>?_
 rw [h1,h2]
 have er1:pSub .i64 (R:Int) 1=(R:Int) - 1:=zCX (by omega) (by omega)
 have ec1:pSub .i64 (C:Int) 1=(C:Int) - 1:=zCX (by omega) (by omega)
 have e1:pSub .i64 s.1.2.2.2.1 n=s.1.2.2.2.1 - n:=zCX (by omega) (by omega)
 have e2:pAdd .i64 s.1.2.2.2.1 n=s.1.2.2.2.1+n:=zC6 (by omega) (by omega)
 have e3:pAdd .i64 s.1.2.2.2.2.1 n=s.1.2.2.2.2.1+n:=zC6 (by omega) (by omega)
 have e4:pSub .i64 s.1.2.2.2.2.1 n=s.1.2.2.2.2.1 - n:=zCX (by omega) (by omega)
 rw [er1,ec1,e1,e2,e3,e4]
 refine Tot.ite (fun _=>Tot.ret ⟨rfl,rfl,h3,h4,?_,?_,h7,h8⟩) fun _=>?_
 ·show 0<=(if s.1.2.2.2.1 - n < 0 then (0:Int) else _);split <;> omega
 ·show (if s.1.2.2.2.1 - n < 0 then (0:Int) else _) < _;split <;> omega
 refine Tot.ite (fun _=>Tot.ret ⟨rfl,rfl,h3,h4,?_,?_,h7,h8⟩) fun _=>?_
 ·show 0<=(if (R:Int) - 1 < s.1.2.2.2.1+n then _ else _);split <;> omega
 ·show (if (R:Int) - 1 < s.1.2.2.2.1+n then _ else _) < _;split <;> omega
 refine Tot.ite (fun _=>Tot.ret ⟨rfl,rfl,h3,h4,h5,h6,?_,?_⟩) fun _=>?_
 ·show 0<=(if (C:Int) - 1 < s.1.2.2.2.2.1+n then _ else _);split <;> omega
 ·show (if (C:Int) - 1 < s.1.2.2.2.2.1+n then _ else _) < _;split <;> omega
 refine Tot.ite (fun _=>Tot.ret ⟨rfl,rfl,h3,h4,h5,h6,?_,?_⟩) fun _=>?_
 ·show 0<=(if s.1.2.2.2.2.1 - n < 0 then (0:Int) else _);split <;> omega
 ·show (if s.1.2.2.2.2.1 - n < 0 then (0:Int) else _) < _;split <;> omega
 refine Tot.ite (fun _=>Tot.ret ⟨rfl,rfl,h3,h4,?_,?_,?_,?_⟩) fun _=>?_
 ·show 0<=pSub .i64 (if (R:Int) < n then _ else _) 1;split <;> rw [zCX (by omega) (by omega)] <;> omega
 ·show pSub .i64 (if (R:Int) < n then _ else _) 1 < _;split <;> rw [zCX (by omega) (by omega)] <;> omega
 ·show 0<=pSub .i64 (if (C:Int) < (if x1 < 1 then (1:Int) else x1) then _ else _) 1
  generalize hy:(if x1 < 1 then (1:Int) else x1)=y
  have:1<=y/\y<=99999:=by rw [← hy];split <;> omega
  split <;> rw [zCX (by omega) (by omega)] <;> omega
 ·show pSub .i64 (if (C:Int) < (if x1 < 1 then (1:Int) else x1) then _ else _) 1 < _
  generalize hy:(if x1 < 1 then (1:Int) else x1)=y
  have:1<=y/\y<=99999:=by rw [← hy];split <;> omega
  split <;> rw [zCX (by omega) (by omega)] <;> omega
 have done:∀ to:Nat,to<=R * C->Tot (fun s':GridT×Unit=>GI R C s'.1) (bindO (zAD N s (to:Int)) fun y36=>some ((y36.1.1,(y36.1.2.1,(y36.1.2.2.1,(y36.1.2.2.2.1,(y36.1.2.2.2.2.1,(false,y36.1.2.2.2.2.2.2)))))),y36.2)):=fun to hto =>
  Tot.bind (zJX hC hR (by omega) s hg to hto) fun t ⟨g,_⟩=>Tot.ret ⟨g.rows,g.cols,g.len,g.ci,g.r0,g.r1,g.c0,g.c1⟩
 refine Tot.ite (fun _=>?_) fun _=>?_
 ·have:pMul .i64 (R:Int) (C:Int)=((R * C:Nat):Int):=by
   have e:(R:Int) * (C:Int)=((R * C:Nat):Int):=by simp
   rw [zDA (by omega) (by omega),e]
  rw [this]
  exact done (R * C) (Nat.le_refl _)
 refine Tot.ite (fun _=>?_) fun _=>Tot.ret hg
 obtain ⟨r,hr⟩:∃ r:Nat,s.1.2.2.2.1=(r:Int):=⟨s.1.2.2.2.1.toNat,by omega⟩
 have hm:(r+1) * C<=R * C:=Nat.mul_le_mul_right C (by omega)
 have:pMul .i64 (pAdd .i64 s.1.2.2.2.1 1) (C:Int)=(((r+1) * C:Nat):Int):=by
  have e:((r:Int)+1) * (C:Int)=(((r+1) * C:Nat):Int):=by simp
  rw [hr,zC6 (by omega) (by omega),zDA (by rw [e];omega) (by rw [e];omega),e]
 rw [this]
 exact done _ hm
end
end Go.AE.F
namespace Go.AE.F
open Go.AE
theorem zIR (N:Nat) (s:ByteArray) (hl:s.size<=60000) (hN:60010 < N):Tot (fun l:List Int=>l.length<=s.size) (zAT N s):=by
 unfold zAT
 refine zEO (fun m (d:ByteArray×Int×List Int×Unit)=>∃ i:Nat,d.1=s/\d.2.1=(i:Int)/\i<=s.size/\s.size<=m+i/\d.2.2.1.length<=i) (fun (e:List Int×Unit)=>e.1.length<=s.size) (fun e he=>Tot.ret he) ?_ N s.size _ (by omega) ⟨0,rfl,rfl,by omega,by omega,by simp⟩
 intro m d kn kx ⟨i,d1,d2,d3,d4,d5⟩ hn hx
 unfold zAT.l3
 have hps:pSize s=(s.size:Int):=rfl
 simp only [d1,d2,hps]
 refine Tot.ite (fun hh=>?_) (fun _=>hx _ (by show d.2.2.1.length<=_;omega))
 have hlt:i < s.size:=by rw [pLt_d] at hh;have:=of_decide_eq_true hh;omega
 rw [pLe_t (by omega),ifB_t,pLe_t (by omega),ifB_t,pLe_t (Int.le_refl _),ifB_t]
 have hsz:(ssub s (i:Int) (s.size:Int)).size=s.size - i:=by
  unfold ssub
  rw [Int.toNat_natCast,Int.toNat_natCast,ByteArray.size_extract];omega
 obtain ⟨⟨p,w⟩,h1,h2,h3,h4⟩:=zJT N (ssub s (i:Int) (s.size:Int)) (by omega) (by omega)
 simp only at h3 h4
 rw [h1,zA2]
 simp only []
 refine Tot.fit (by simp;omega) ?_
 obtain ⟨w',rfl⟩:∃ w':Nat,w=(w':Int):=⟨w.toNat,by omega⟩
 exact hn (m - w') _ (by omega) ⟨i+w',rfl,by show pAdd .i64 (i:Int) (w':Int)=_;rw [zC6 (by omega) (by omega)];omega,by omega,by omega,by simp [pApp];omega⟩
theorem zNV (N:Nat) (g:GridT) (hl:g.2.2.1.length<=2000) (hN:2100 < N) (hc:∀ c∈g.2.2.1,c.1.length<=1048576):zB4 N g=some g:=by
 unfold zB4
 refine (zDS (step:=zB4.l3 N) (fun i=>((i:Int),g,(0,(0,([],(0,(0,(false,(0,()))))))),g.2.2.1.take i,())) g.2.2.1.length _ (g,(0,(0,([],(0,(0,(false,(0,()))))))),g.2.2.1,()) (fun i kn hi=>?_) (fun kn=>?_) N (by omega)).trans rfl
 ·unfold zB4.l3
  simp only [zCP]
  have hci:=hc _ (List.getElem_mem hi)
  rw [pLt_t (by omega),ifB_t,zCT hi,zA2,zA2,zIQ N _ (by omega),zA2,zD0 (by rw [List.length_take];simp;omega),ifB_t,zC6 (by omega) (by omega),List.take_succ_eq_append_getElem hi]
  rfl
 ·unfold zB4.l3
  simp only [zCP]
  rw [pLt_f (by omega),ifB_f,List.take_of_length_le (Nat.le_refl _)]
theorem zOX {g:GridT} (h:gridG g=true):∃ R C:Nat,(2<=C/\C<=80)/\(1<=R/\R<=24)/\GI R C g:=by
 unfold gridG at h
 simp only [Bool.and_eq_true] at h
 obtain ⟨hh,ha⟩:=h
 obtain ⟨b1,b2,b3,b4,b5,b6,b7,b8,b9,_⟩:=zD1.1 hh
 refine ⟨g.1.toNat,g.2.1.toNat,by omega,by omega,by omega,by omega,?_,fun i hi=>?_,b6,by omega,b8,by omega⟩
 ·have e:((g.1.toNat * g.2.1.toNat:Nat):Int)=g.1 * g.2.1:=by
   rw [Int.natCast_mul,Int.toNat_of_nonneg (by omega),Int.toNat_of_nonneg (by omega)]
  omega
 ·have hn:=List.all_eq_true.1 ha i (by rw [List.mem_range];exact hi)
  unfold nbrG at hn
  rw [zD5 hi] at hn
  simp only [Bool.and_eq_true,Bool.or_eq_true,Bool.not_eq_true',decide_eq_false_iff_not,decide_eq_true_eq] at hn
  refine ⟨?_,fun hw q=>?_⟩
  ·have:=hn.1
   unfold cellG at this
   simp only [Bool.and_eq_true,decide_eq_true_eq] at this
   exact this.1.1.1
  ·rcases hn.2 with z | z
   ·rw [hw] at z;cases z
   ·apply z.1.1
    have:g.2.1=((g.2.1.toNat:Nat):Int):=by omega
    rw [this,← Int.natCast_emod,q];rfl
def gSmall (g:GridT):Prop:=1<=g.2.2.1.length/\g.2.2.1.length<=1920/\∀ c∈g.2.2.1,c.1.length<=4
theorem zHQ {R C:Nat} (hC:2<=C/\C<=80) (hR:1<=R/\R<=24) {g:GridT} (h:GI R C g):gSmall g:=by
 have hb:=zEQ hC hR
 have h1:1 * 2<=R * C:=Nat.mul_le_mul hR.1 hC.1
 have hl:=h.len
 refine ⟨by omega,by omega,fun c hc=>?_⟩
 obtain ⟨i,hi,rfl⟩:=List.getElem_of_mem hc
 exact (h.ci i hi).1
theorem zNB (N:Nat) (hN:100000 < N) (g:GridT) (hg:gridG g=true) (s:ByteArray) (hs:s.size<=20000):Tot gSmall (zAF N g s):=by
  obtain ⟨R,C,hC,hR,hi⟩:=zOX hg
  have hsm:=zHQ hC hR hi
  unfold zAF
  have hps:pSize s=(s.size:Int):=rfl
  rw [hps,pGt_f (by omega),ifB_f,zNV N g (by have:=hsm.2.1;omega) (by omega) (fun c hc=>by have:=hsm.2.2 c hc;omega),zA2,zEG N g (by omega) (by have:=hsm.2.1;omega),zA2,hg,zCZ,Bool.not_true,ifB_f]
  refine Tot.bind (zIR N s (by omega) (by omega)) fun pts hpl=>?_
  refine zEO (fun m (d:List Int×Int×GridT×(GridT×Unit)×Unit)=>∃ i:Nat,d.1=pts/\d.2.1=(i:Int)/\pts.length<=m+i/\i<=pts.length+2/\GI R C d.2.2.2.1.1)
    (fun (e:(GridT×(GridT×Unit)×Unit) ⊕ (GridT×Unit))=>match e with | .inl a=>GI R C a.2.1.1 | .inr b=>GI R C b.1) ?_ ?_ N pts.length _ (by omega) ⟨0,rfl,rfl,by omega,by omega,hi⟩
  · intro e he
    cases e with
    | inl a=>exact Tot.ret (zHQ hC hR he)
    | inr b=>exact Tot.ret (zHQ hC hR he)
  · intro m d kn kx ⟨i,d1,d2,d3,d4,d5⟩ hn hx
    unfold zAF.l8
    simp only [d1,d2]
    rw [zCP]
    refine Tot.ite (fun hh=>?_) (fun _=>hx _ d5)
    have hlt:i < pts.length:=by rw [pLt_d] at hh;have:=of_decide_eq_true hh;omega
    have ei:pAdd .i64 (i:Int) 1=((i+1:Nat):Int):=zC6 (by omega) (by omega)
    have ei2:pAdd .i64 ((i+1:Nat):Int) 1=((i+2:Nat):Int):=zC6 (by omega) (by omega)
    rw [ei,ei2,zCT hlt,zA2]
    generalize hp:pts[i]=p
    let K : (List Int × Int × GridT × (GridT × Unit) × Unit) ⊕ (GridT × Unit) -> Option GridT := onSum (fun d =>
          let x108:=d.1;
          let x109:=d.2.1;
          let x110:=d.2.2.1;
          let x111:=d.2.2.2.1;
          kn (x108,(pAdd Go.IntKind.i64 x109 1),x110,x111,())) (
        fun d =>
        let x112:=d.1;
        kx (.inr (x112,())))
    have go:∀ (j:Nat) (z:GridT) (t:GridT×Unit),i<=j->j<=pts.length+1->GI R C t.1->Tot gSmall (K (.inl (pts,(j:Int),z,t,()))):=fun j z t h1 h2 ht=>by
      show Tot gSmall (kn (pts,pAdd .i64 (j:Int) 1,z,t,()))
      rw [zC6 (by omega) (by omega)]
      exact hn (m - 1) _ (by omega) ⟨j+1,rfl,rfl,by omega,by omega,ht⟩
    have stop:∀ t:GridT×Unit,GI R C t.1->Tot gSmall (K (.inr (t.1,()))):=fun t ht=>hx _ ht
    show Tot gSmall (bindO _ K)
    have lift:∀ {o:Option ((List Int×Int×GridT×(GridT×Unit)×Unit) ⊕ (GridT×Unit))},Tot (fun x=>Tot gSmall (K x)) o->Tot gSmall (bindO o K):=fun {o} ho=>Tot.bind ho fun x hx=>hx
    refine lift ?_
    refine Tot.ite (fun _=>?_) (fun _=>?_)
    · refine Tot.ite (fun _=>Tot.ret (stop _ d5)) (fun h2=>?_)
      have hlt2:i+1 < pts.length:=by rw [pGe_d] at h2;have:=of_decide_eq_false h2;omega
      rw [zCT hlt2,zA2]
      refine Tot.ite (fun _=>Tot.ret (go (i+1) _ _ (by omega) (by omega) d5)) (fun _=>?_)
      refine zEO (fun m2 (e:List Int×Int×Int×GridT×(GridT×Unit)×Unit)=>∃ j:Nat,e.1=pts/\e.2.1=(j:Int)/\e.2.2.1=((i+2:Nat):Int)/\i+2<=j/\j<=pts.length/\pts.length<=m2+j/\GI R C e.2.2.2.2.1.1/\∀ k (hk:k < pts.length),i+2<=k->k < j->numP pts[k])
        (fun (e:List Int×Int×Int×GridT×(GridT×Unit)×Unit)=>∃ j:Nat,e.1=pts/\e.2.1=(j:Int)/\e.2.2.1=((i+2:Nat):Int)/\i+2<=j/\j<=pts.length/\GI R C e.2.2.2.2.1.1/\∀ k (hk:k < pts.length),i+2<=k->k < j->numP pts[k]) ?_ ?_ N pts.length _ (by omega) ⟨i+2,rfl,rfl,rfl,by omega,by omega,by omega,d5,fun k _ h1 h2=>absurd h1 (by omega)⟩
      · intro e ⟨j,g1,g2,g3,g4,g5,g6,g7⟩
        simp only [g1,g2,g3]
        rw [zCP]
        refine Tot.ite (fun hj=>?_) (fun _=>Tot.ret (go j _ _ (by omega) (by omega) g6))
        have hjl:j < pts.length:=by rw [pLt_d] at hj;have:=of_decide_eq_true hj;omega
        rw [pLe_t (by omega),ifB_t,pLe_t (by omega),ifB_t,pLe_t (by omega),ifB_t,zCT hjl,zA2]
        have hsub:∀ x∈sub pts ((i+2:Nat):Int) (j:Int),numP x:=fun x hx=>by
          unfold sub at hx
          rw [Int.toNat_natCast,Int.toNat_natCast] at hx
          obtain ⟨k,hk,rfl⟩:=List.getElem_of_mem hx
          rw [List.getElem_drop,List.getElem_take]
          rw [List.length_drop,List.length_take] at hk
          exact g7 _ (by omega) (by omega) (by omega)
        have hsl:(sub pts ((i+2:Nat):Int) (j:Int)).length<=50000:=by
          unfold sub
          rw [List.length_drop,List.length_take];omega
        exact Tot.bind (zON hC hR (by omega) _ g6 _ hsl hsub pts[j]) fun t ht=>Tot.ret (go j _ _ (by omega) (by omega) ht)
      · intro m2 e kn2 kx2 ⟨j,g1,g2,g3,g4,g5,g5b,g6,g7⟩ hn2 hx2
        unfold zAF.l18
        simp only [g1,g2,g3]
        rw [zCP]
        by_cases hjl:j < pts.length
        · rw [pLt_t (by omega),ifB_t]
          simp only [zCT hjl,zA2]
          have hcond:(bindO (ifB (pGe pts[j] 48) (some (pLe pts[j] 57)) (some false)) fun y93=>bindO (ifB y93 (some true) (some (pEq pts[j] 59))) fun y95=>some y95)=some (decide (pts[j]=59 \/ (48<=pts[j]/\pts[j]<=57))):=by
            simp only [pGe_d,pLe_d,pEq_d,zD4,zDH,zA2]
            congr 1
            by_cases q1:pts[j]=59
            · simp [q1]
            · by_cases q2:48<=pts[j] <;> by_cases q3:pts[j]<=57 <;> simp [q1,q2,q3]
          rw [hcond,zA2]
          refine Tot.ite (fun hq=>?_) (fun _=>hx2 _ ⟨j,rfl,rfl,rfl,g4,g5,g6,g7⟩)
          refine hn2 (m2 - 1) _ (by omega) ⟨j+1,rfl,by show pAdd .i64 (j:Int) 1=_;rw [zC6 (by omega) (by omega)];rfl,rfl,by omega,by omega,by omega,g6,fun k hk h1 h2=>?_⟩
          by_cases hkj:k=j
          · subst hkj;exact (of_decide_eq_true hq:pts[k]=59 \/ (48<=pts[k]/\pts[k]<=57))
          · exact g7 k hk h1 (by omega)
        · rw [pLt_f (by omega),ifB_f,zA2,ifB_f]
          exact hx2 _ ⟨j,rfl,rfl,rfl,g4,g5,g6,g7⟩
    have gi:=d5
    obtain ⟨q1,q2,q3,q4,q5,q6,q7,q8⟩:=gi
    refine Tot.ite (fun _=>Tot.ret (go i _ _ (by omega) (by omega) ⟨q1,q2,q3,q4,q5,q6,by show (0:Int)<=0;omega,by show (0:Int) < C;omega⟩)) (fun _=>?_)
    refine Tot.ite (fun _=>Tot.bind (zHJ hC hR _ d5) fun t ⟨ht,_⟩=>Tot.ret (go i _ _ (by omega) (by omega) ht)) (fun _=>?_)
    refine Tot.ite (fun _=>?_) (fun _=>?_)
    · unfold zBV
      have e8:pSub .i64 d.2.2.2.1.1.2.2.2.2.1 1=d.2.2.2.1.1.2.2.2.2.1 - 1:=zCX (by omega) (by omega)
      rw [e8]
      by_cases hz:0 > d.2.2.2.1.1.2.2.2.2.1 - 1
      · rw [pGt_t hz,ifB_t,zA2]
        exact Tot.ret (go i _ _ (by omega) (by omega) ⟨q1,q2,q3,q4,q5,q6,by show (0:Int)<=0;omega,by show (0:Int) < C;omega⟩)
      · rw [pGt_f (by omega),ifB_f,zA2]
        exact Tot.ret (go i _ _ (by omega) (by omega) ⟨q1,q2,q3,q4,q5,q6,by show 0<=d.2.2.2.1.1.2.2.2.2.1 - 1;omega,by show d.2.2.2.1.1.2.2.2.2.1 - 1 < _;omega⟩)
    · refine Tot.bind (P:=TT) (Tot.both (Tot.ret trivial) (Tot.ret trivial)) fun _ _=>?_
      refine Tot.ite (fun _=>Tot.bind (zOS hC hR _ d5 p) fun t ht=>Tot.ret (go i _ _ (by omega) (by omega) ht)) (fun _=>Tot.ret (go i _ _ (by omega) (by omega) d5))
end Go.AE.F
