/- Plain laws of those functions. -/
import Derived.Test.YthcbmbakpjelgaaGreatDoorLSendP21
namespace Go.AE.F
open Go.AE
theorem zJB {A:Type} (l:List A) {a b:Nat} (h:a<=b) (hb:b<=l.length):l.drop a=(l.take b).drop a ++ l.drop b:=by
 conv=>lhs;rw [← List.take_append_drop b l]
 rw [List.drop_append_of_le_length (by rw [List.length_take];omega)]
theorem zJH {A:Type} (l:List A) {a b:Nat} (h:a<=b):l.take b=l.take a ++ (l.take b).drop a:=by
 conv=>lhs;rw [← List.take_append_drop a (l.take b)]
 rw [List.take_take,Nat.min_eq_left h]
def sendPts (o g:GridT) (C:Nat) (us:Nat->List UnitT):Nat->Nat->List Int
 | 0,_=>[]
 | m+1,r=>(if gRow o C r=gRow g C r then [] else rowP r (us r)) ++ sendPts o g C us m (r+1)
theorem zI1 {o g:GridT} {C R:Nat} {us:Nat->List UnitT} (h:∀ r,r < R->rowL g C r=encs (rowP r (us r))):∀ (m r:Nat) (out:List Int),r+m<=R->sendF o g C m r out=out ++ encs (sendPts o g C us m r)
 | 0,r,out,_=>by simp [sendF,sendPts,encs]
 | m+1,r,out,hr=>by
  rw [sendF,zI1 h m (r+1) _ (by omega),sendPts,zEP]
  by_cases e:gRow o C r=gRow g C r
  ·rw [if_pos e,if_pos e];simp [encs]
  ·rw [if_neg e,if_neg e,h r (by omega),List.append_assoc]
theorem zGX {o g:GridT} {C R:Nat} (hR:R<=24) {us:Nat->List UnitT} (hu:∀ r,r < R->∀ u∈us r,uOk u):∀ (m r:Nat),r+m<=R->∀ p∈sendPts o g C us m r,ptG p=true
 | 0,_,_,_,h=>by cases h
 | m+1,r,hr,p,h=>by
  rw [sendPts] at h
  rcases List.mem_append.1 h with z | z
  ·split at z
   ·cases z
   ·unfold rowP at z
    simp only [List.mem_append] at z
    rcases z with ((z | z) | z) | z
    ·exact zFB (zH9 (by omega) (by omega) p z)
    ·exact zFB (zO7 p z)
    ·exact (zH6 (hu r (by omega)) (by omega)).1 p z
    ·split at z
     ·cases z
     ·exact zFB (zJ5 (by omega) p z)
  ·exact zGX hR hu m (r+1) (by omega) p z
theorem zJ9:∀ us:List UnitT,us.length<=wR us
 | []=>Nat.le_refl _
 | u::t=>by
  have e:wR (u::t)=(uC u).length+wR t:=by unfold wR rowUC;simp
  have h1:1<=(uC u).length:=by rw [zEL];simp
  have:=zJ9 t
  rw [e,List.length_cons];omega
theorem zKV (r c:Nat):(goP r c).length<=8:=by
 unfold goP
 have h1:=zF1 (r+1)
 have h2:=zF1 (c+1)
 simp only [List.length_cons,List.length_append,List.length_nil];omega
theorem zNI {r C:Nat} (hC:C<=80) {us:List UnitT} (hu:∀ u∈us,uOk u) (hw:wR us<=C):(rowP r us).length<=800:=by
 unfold rowP
 have h1:=zKV r 0
 have h2:=zJ4 (a:=0) hu
 have h3:=zJ9 us
 have hm:(if (ptsU 0 us).2=0 then [] else mP 0).length<=4:=by split <;> simp [mP,digs]
 simp only [List.length_append]
 have hk:kP.length=3:=rfl
 omega
theorem zGI {o g:GridT} {C R:Nat} (hC:C<=80) {us:Nat->List UnitT} (hu:∀ r,r < R->(∀ u∈us r,uOk u)/\wR (us r)<=C):∀ (m r:Nat),r+m<=R->(sendPts o g C us m r).length<=800 * m
 | 0,_,_=>by simp [sendPts]
 | m+1,r,hr=>by
  have h1:=zGI (o:=o) (g:=g) hC hu m (r+1) (by omega)
  have h2:=zNI (r:=r) hC (hu r (by omega)).1 (hu r (by omega)).2
  rw [sendPts,List.length_append]
  split
  ·simp;omega
  ·omega
theorem zOL (r:Nat) (us:List UnitT):rowP r us≠[]:=by unfold rowP goP;simp
theorem zOZ {N:Nat} (hN:200 < N) {R C:Nat} (hC:2<=C/\C<=80) (hR:R<=24) {o g:GridT} (ho:o.2.2.1.length=R * C) (hg:g.2.2.1.length=R * C) (us:Nat->List UnitT) (hu:∀ r,r < R->(∀ u∈us r,uOk u)/\wR (us r)<=C/\gRow g C r=rowPad C (us r)) :
  ∀ (m r:Nat) (row col:Int) (hang:Bool),r+m=R->∃ row' col' hang' n,Go1 N (sendPts o g C us m r) (gS R C (g.2.2.1.take (r * C) ++ o.2.2.1.drop (r * C)) row col hang 0) (gS R C g.2.2.1 row' col' hang' 0) n/\(sendPts o g C us m r=[]->row'=row/\col'=col/\hang'=hang):=by
 have hRC:R * C<=24 * 80:=Nat.mul_le_mul hR hC.2
 intro m
 induction m with
 | zero =>
  intro r row col hang hr
  have hrR:r=R:=by omega
  refine ⟨row,col,hang,0,?_,fun _=>⟨rfl,rfl,rfl⟩⟩
  rw [hrR,List.take_of_length_le (by omega),List.drop_eq_nil_of_le (by omega),List.append_nil]
  exact Go1.nil N _
 | succ m ih =>
  intro r row col hang hr
  have hlt:r < R:=by omega
  have h1:(r+1) * C<=R * C:=Nat.mul_le_mul_right C hlt
  have h2:(r+1) * C=r * C+C:=Nat.succ_mul r C
  obtain ⟨u1,u2,u3⟩:=hu r hlt
  have eo:o.2.2.1.drop (r * C)=gRow o C r ++ o.2.2.1.drop ((r+1) * C):=zJB _ (by omega) (by omega)
  have eg:g.2.2.1.take ((r+1) * C)=g.2.2.1.take (r * C) ++ gRow g C r:=zJH _ (by omega)
  have hX:(g.2.2.1.take (r * C)).length=r * C:=by rw [List.length_take];omega
  have hro:(gRow o C r).length=C:=zDQ (by omega)
  rw [sendPts]
  by_cases e:gRow o C r=gRow g C r
  ·rw [if_pos e,List.nil_append]
   have em:g.2.2.1.take (r * C) ++ o.2.2.1.drop (r * C)=g.2.2.1.take ((r+1) * C) ++ o.2.2.1.drop ((r+1) * C):=by rw [eo,eg,e,List.append_assoc]
   rw [em]
   exact ih (r+1) row col hang (by omega)
  ·rw [if_neg e]
   have hl:(g.2.2.1.take (r * C) ++ (gRow o C r ++ o.2.2.1.drop ((r+1) * C))).length<=2000:=by
    simp only [List.length_append,hX,hro,List.length_drop];omega
   obtain ⟨n1,s1⟩:=zP2 hN hC hlt hR hX hro hl (us r) u1 u2 row col hang
   obtain ⟨row',col',hang',n2,s2,_⟩:=ih (r+1) (r:Int) (colJ C (wR (us r))) (hangJ C (wR (us r))) (by omega)
   rw [eg,u3,List.append_assoc] at s2
   rw [eo]
   refine ⟨row',col',hang',n1+n2,Go1.app s1 s2,fun q=>?_⟩
   exact absurd (List.append_eq_nil_iff.1 q).1 (zOL _ _)
theorem zH1 (N:Nat) (g:GridT) (hl:g.2.2.1.length<=2000) (hN:2100 < N) (hc:∀ c∈g.2.2.1,c.1.length<=1048576):zB3 N g=some g:=by
 unfold zB3
 rw [zCP]
 refine (zDS (step:=zB3.l4 N) (fun i=>(g.2.2.1,(g.2.2.1.length:Int),(i:Int),(0,(0,([],(0,(0,(false,(0,()))))))),(g.1,(g.2.1,(g.2.2.1.take i,g.2.2.2))),())) g.2.2.1.length _ ((0,(0,([],(0,(0,(false,(0,()))))))),g,()) (fun i kn hi=>?_) (fun kn=>?_) N (by omega)).trans rfl
 ·unfold zB3.l4
  simp only []
  have hci:=hc _ (List.getElem_mem hi)
  rw [pLt_t (by omega),ifB_t,zCT hi,zA2,zIU N _ (by omega),zA2,zD0 (by rw [List.length_take];simp;omega),ifB_t,zC6 (by omega) (by omega),List.take_succ_eq_append_getElem hi]
  rfl
 ·unfold zB3.l4
  simp only []
  rw [pLt_f (by omega),ifB_f,List.take_of_length_le (Nat.le_refl _)]
theorem zL7 {g:GridT} (h:flatG g=true) {R C:Nat} (hR:g.1=(R:Int)) (hC:g.2.1=(C:Int)):g=gS R C g.2.2.1 g.2.2.2.1 g.2.2.2.2.1 false 0:=by
 unfold flatG at h
 simp only [Bool.and_eq_true,Bool.not_eq_true',decide_eq_true_eq] at h
 obtain ⟨⟨⟨_,h1⟩,h2⟩,_⟩:=h
 obtain ⟨a,b,c,d,e,f,i,j⟩:=g
 simp only at hR hC h1 h2 ⊢
 subst hR hC h1 h2
 rfl
theorem zNO (N:Nat) (hN:40000 < N) (o g:GridT) (ho:flatG o=true) (hg:flatG g=true) (e1:o.1=g.1) (e2:o.2.1=g.2.1) (hs:(sendG o g).size<=20000):zB1 N o (sendG o g)=some g:=by
 obtain ⟨R,C,hR,hC,r1,r2,c1,c2,hgl,hgl2,hcg,b1,b2,b3,b4⟩:=zE1 hg
 obtain ⟨R',C',hR',hC',_,_,_,_,hol,hol2,hco,_,_,_,_⟩:=zE1 ho
 have hRR:R'=R:=by omega
 have hCC:C'=C:=by omega
 subst hRR hCC
 have hun:∀ r,r < R'->∃ us,gRow g C' r=rowPad C' us/\wR us<=C'/\∀ u∈us,uOk u:=fun r hr=>zJN hg hR hC ⟨c1,c2⟩ hgl r hr
 let us:Nat->List UnitT:=fun r=>if h:r < R' then Classical.choose (hun r h) else []
 have hus:∀ r,r < R'->(∀ u∈us r,uOk u)/\wR (us r)<=C'/\gRow g C' r=rowPad C' (us r):=fun r hr=>by
  have:=Classical.choose_spec (hun r hr)
  have e:us r=Classical.choose (hun r hr):=dif_pos hr
  rw [e]
  exact ⟨this.2.2,this.2.1,this.1⟩
 clear_value us
 have hsf:sendF o g C' R' 0 []=encs (sendPts o g C' us R' 0):=by
  have:=zI1 (o:=o) (g:=g) (C:=C') (R:=R') (us:=us) (fun r hr=>zNS (by omega) (hus r hr).1 (hus r hr).2.2) R' 0 [] (by omega)
  rw [this,List.nil_append]
 have hpt:=zGX (o:=o) (g:=g) (C:=C') r2 (fun r hr=>(hus r hr).1) R' 0 (by omega)
 have hpl:=zGI (o:=o) (g:=g) (C:=C') c2 (fun r hr=>⟨(hus r hr).1,(hus r hr).2.1⟩) R' 0 (by omega)
 obtain ⟨row',col',hang',n,hgo,hsame⟩:=zOZ (N:=N) (by omega) ⟨c1,c2⟩ r2 hol hgl us hus R' 0 o.2.2.2.1 o.2.2.2.2.1 false (by omega)
 rw [Nat.zero_mul,List.take_zero,List.drop_zero,List.nil_append,← zL7 ho hR' hC'] at hgo
 have htext:∃ P n' ,sendG o g=bytesOf (encs P)/\(∀ p∈P,ptG p=true)/\P.length<=30000/\∃ row2 col2 hang2,Go1 N P o (gS R' C' g.2.2.1 row2 col2 hang2 0) n'/\(row2=g.2.2.2.1/\col2=g.2.2.2.2.1/\hang2=false):=by
  unfold sendG
  have hcond:(flatG o && flatG g && decide (o.1=g.1) && decide (o.2.1=g.2.1))=true:=by rw [ho,hg,decide_eq_true e1,decide_eq_true e2];rfl
  rw [if_pos hcond]
  have ec:g.2.1.toNat=C':=by omega
  have er:g.1.toNat=R':=by omega
  simp only [ec,er,hsf]
  have erow:((g.2.2.2.1.toNat:Nat):Int)=g.2.2.2.1:=by omega
  have ecol:((g.2.2.2.2.1.toNat:Nat):Int)=g.2.2.2.2.1:=by omega
  split
  ·refine ⟨sendPts o g C' us R' 0 ++ goP g.2.2.2.1.toNat g.2.2.2.2.1.toNat,n+1,?_,fun p hp=>?_,?_,_,_,_,Go1.app hgo (zMX (by omega) r2 c2 _ _ _ _ _ g.2.2.2.1.toNat g.2.2.2.2.1.toNat (by omega) (by omega)),erow,ecol,rfl⟩
   ·rw [zEP,zOR (by omega) (by omega),zEE (l:=goP _ _) (fun x hx=>(zH9 (by omega) (by omega) x hx).2)]
   ·rcases List.mem_append.1 hp with z | z
    ·exact hpt p z
    ·exact zFB (zH9 (by omega) (by omega) p z)
   ·have:=zKV g.2.2.2.1.toNat g.2.2.2.2.1.toNat
    rw [List.length_append];omega
  ·rename_i hno
   have h0:sendPts o g C' us R' 0=[]:=by
    cases hz:sendPts o g C' us R' 0 with
    | nil=>rfl
    | cons p t =>
     exfalso
     apply hno
     left
     rw [hz]
     intro q
     have e:encs (p::t)=enc p ++ encs t:=by unfold encs;simp
     rw [e] at q
     have:=zMN p
     rw [(List.append_eq_nil_iff.1 q).1] at this
     simp at this
   have hrow:o.2.2.2.1=g.2.2.2.1:=Classical.byContradiction fun q=>hno (.inr (.inl q))
   have hcol:o.2.2.2.2.1=g.2.2.2.2.1:=Classical.byContradiction fun q=>hno (.inr (.inr q))
   obtain ⟨q1,q2,q3⟩:=hsame h0
   exact ⟨_,n,rfl,hpt,by omega,_,_,_,hgo,by rw [q1,hrow],by rw [q2,hcol],q3⟩
 obtain ⟨P,n',eP,hP1,hP2,row2,col2,hang2,hgo2,q1,q2,q3⟩:=htext
 subst q1 q2 q3
 have hgrid:gridG o=true:=by unfold flatG at ho;simp only [Bool.and_eq_true] at ho;exact ho.1.1.1
 unfold zB1
 have hlong:zCR N [sendG o g]=some false:=by
  rw [zJP N _ (by omega),decide_eq_false]
  have:(sendG o g).data.toList.length=(sendG o g).size:=rfl
  omega
 have hsm:∀ {x:GridT},flatG x=true->∀ c∈x.2.2.1,c.1.length<=4:=fun {x} hx c hc=>by
  obtain ⟨_,_,_,_,_,_,_,_,_,_,h,_⟩:=zE1 hx
  exact (h c hc).1
 rw [hlong,zA2,ifB_f,zEF N o (by omega) (by omega) (fun c hc=>by have:=hsm ho c hc;omega),zA2,hgrid,zCZ,Bool.not_true,zA2,ifB_f,zH1 N o (by omega) (by omega) (fun c hc=>by have:=hsm ho c hc;omega),zA2,eP,zI5 N P hP1 (by omega) (by omega),zA2]
 have hnl:=hgo2.1
 obtain ⟨f,rfl⟩:∃ f,N=(f+1)+n':=⟨N - 1 - n',by omega⟩
 have:=hgo2.2 [] (0,(0,([],(0,(0,(false,(0,()))))))) (f+1) (fun d =>
   let x46:=d.1;
   let x47:=d.2.1;
   bindO (zB3 (f+1+n') x47) fun y48 =>
   some y48) (by simp;omega)
 rw [List.append_nil] at this
 refine this.trans ?_
 rw [zCO]
 unfold zB1.l5
 simp only []
 have hz:pLen ([]:List Int)=0:=rfl
 rw [hz,pGt_f (by omega),ifB_f,← zL7 hg hR hC]
 rw [zH1 _ g (by omega) (by omega) (fun c hc=>by have:=hsm hg c hc;omega),zA2]
end Go.AE.F
