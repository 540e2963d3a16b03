/- Plain laws of those functions. -/
import Derived.Test.YthcbmbakpjelgaaGreatDoorLSendP15
namespace Go.AE.F
open Go.AE
def viewErr (k:Int):ViewT:=((0,(0,([],(0,(0,(false,(0,()))))))),(0,(k,())))
def cursG (p:List Int) (b:BufT) (C:Int):Int×Int×Unit:=spotM C (layM C (b.1.take b.2.1.toNat) (layM C p (0,0)))
def topG (p:List Int) (b:BufT) (R C:Int):Nat:=((cursG p b C).1 - R+1).toNat
def allG (p:List Int) (b:BufT) (reg:Bool) (C:Nat):List (List UnitT):=(laidS C p b reg).1 ++ [(laidS C p b reg).2]
def viewOk (p:List Int) (b:BufT) (reg:Bool) (R C:Int):ViewT :=
 (gV R.toNat C.toNat ((viewW R.toNat (topG p b R C) (allG p b reg C.toNat)).flatMap (rowPad C.toNat)) ((cursG p b C).1 - (topG p b R C:Int)) (cursG p b C).2.1,((topG p b R C:Int),0,()))
def viewG (p:List Int) (b:BufT) (reg:Bool) (R C:Int):ViewT :=
 if 400 < p.length then viewErr 2 else if (viewedG p b C && (decide (1<=R) && decide (R<=24)))=true then viewOk p b reg R C else viewErr 1
theorem zLK {C:Nat} (hC:2<=C) (p:List Int) (b:BufT) (reg:Bool):LaidOk C (laidS C p b reg):=zF0 hC _ _ (zF0 hC _ _ (zIE C) _) _
theorem zOO (C:Nat) (p:List Int) (b:BufT) (reg:Bool):szS (laidS C p b reg)<=4 * p.length+4 * b.1.length:=by
 have h1:=zF8 C (fun _=>0) p ([],[]) p.length
 have h2:=zF8 C (regA b reg) b.1 (layN C (fun _=>0) p ([],[]) p.length) b.1.length
 have h0:szS (([],[]):LaidT)=0:=rfl
 unfold laidS;omega
theorem zH2 {p:List Int} {b:BufT} {C:Int} (hv:viewedG p b C=true):0<=(cursG p b C).1/\(cursG p b C).1<=5000/\0<=(cursG p b C).2.1/\(cursG p b C).2.1 < C/\∃ n:Nat,b.2.1=(n:Int)/\n<=b.1.length:=by
 unfold viewedG at hv
 simp only [Bool.and_eq_true,decide_eq_true_eq] at hv
 obtain ⟨⟨hp,hb⟩,hC⟩:=hv
 obtain ⟨hb0,hb1,hb2,hb3,hb4⟩:=zFF.1 hb
 have hpl:=zEJ hp
 have hbl:=zEJ hb0
 have ho0:rcOk C (0,0):=⟨by show (0:Int)<=0;omega,by show (0:Int)<=0;omega,by show (0:Int)<=C;omega⟩
 obtain ⟨q1,q2⟩:=zIM hC.1 p ho0 p.length (Nat.le_refl _)
 rw [List.take_length] at q1 q2
 have q2:(layM C p (0,0)).1<=0+2 * (p.length:Int):=q2
 obtain ⟨k1,k2⟩:=zIM hC.1 b.1 q1 b.2.1.toNat (by omega)
 have:=zN7 k1 hC.1
 refine ⟨this.1,?_,this.2.1,this.2.2,b.2.1.toNat,by omega,by omega⟩
 unfold cursG spotM
 split <;> simp only [] <;> omega
theorem zI6 (N:Nat) (hN:20000 < N) (p:List Int) (b:BufT) (reg:Bool) (R C:Int) (hp1:p.length<=100000) (hp2:p.length < N) (hb1:b.1.length<=100000) (hb2:b.1.length < N) :
  zDC N p b reg R C=some (viewG p b reg R C)/\zAI N p b reg R C=some (viewG p b reg R C):=by
 unfold zDC zAI viewG zG6
 rw [zA2,zCP]
 by_cases h4:400 < p.length
 ·rw [pGt_t (by omega),ifB_t,ifB_t,if_pos h4];exact ⟨rfl,rfl⟩
 rw [pGt_f (by omega),ifB_f,ifB_f,if_neg h4]
 have hsz:zC7 N R C=some (decide (1<=R) && decide (R<=24) && decide (2<=C) && decide (C<=80)):=by
  unfold zC7
  simp only [zD4,zA2,pGe_d,pLe_d,ge_iff_le]
 have hrw:zCM N R=some (decide (1<=R) && decide (R<=24)):=by unfold zCM;rw [zCQ,zA2]
 rw [zKK N p b C hp2 hp1 hb2 hb1,zA2,hrw,zA2,zCZ,zCZ,zDH,zA2]
 rw [zE6 N p (by omega),zA2,zCZ,zFU N b (by omega),zA2,zCZ,hsz,zA2,zCZ,zDH,zA2,zDH,zA2]
 have ec:((!ptsG p || !bufG b) || !(decide (1<=R) && decide (R<=24) && decide (2<=C) && decide (C<=80)))=!(viewedG p b C && (decide (1<=R) && decide (R<=24))):=by
  unfold viewedG
  cases ptsG p <;> cases bufG b <;> cases decide (1<=R) <;> cases decide (R<=24) <;> cases decide (2<=C) <;> cases decide (C<=80) <;> rfl
 rw [ec,← Bool.not_and]
 cases hv:(viewedG p b C && (decide (1<=R) && decide (R<=24))) with
 | false=>exact ⟨rfl,rfl⟩
 | true =>
  rw [Bool.not_true,ifB_f,ifB_f,if_pos rfl]
  simp only [Bool.and_eq_true,decide_eq_true_eq] at hv
  obtain ⟨hv1,hR⟩:=hv
  obtain ⟨c1,c2,c3,c4,n,hn,hn2⟩:=zH2 hv1
  have hv0:=hv1
  unfold viewedG at hv0
  simp only [Bool.and_eq_true,decide_eq_true_eq] at hv0
  obtain ⟨⟨hp,hb⟩,hC⟩:=hv0
  have hpl:=zEJ hp
  have hbl:=zEJ (zFF.1 hb).1
  obtain ⟨Cn,rfl⟩:∃ Cn:Nat,C=(Cn:Int):=⟨C.toNat,by omega⟩
  obtain ⟨Rn,rfl⟩:∃ Rn:Nat,R=(Rn:Int):=⟨R.toNat,by omega⟩
  have hCn:2<=Cn/\Cn<=80:=by omega
  have hS:=zLK hCn.1 p b reg
  have hz:=zOO Cn p b reg
  have hlen:=zID (laidS Cn p b reg)
  have hng:newG (Rn:Int) (Cn:Int)=gV Rn Cn (repE (Rn * Cn)) 0 0:=by
   unfold newG
   rw [decide_eq_true hR.1,decide_eq_true hR.2,decide_eq_true hC.1,decide_eq_true hC.2,Bool.and_self,Bool.and_self,Bool.and_self,if_pos rfl]
   have:((Rn:Int) * (Cn:Int)).toNat=Rn * Cn:=by rw [show (Rn:Int) * (Cn:Int)=((Rn * Cn:Nat):Int) by simp,Int.toNat_natCast]
   rw [this];rfl
  have hcur:idx (spotsM (Cn:Int) b.1 (layM (Cn:Int) p (0,0)) (b.1.length+1)) b.2.1=some (cursG p b (Cn:Int)):=by
   rw [hn,zN9 _ _ _ _ _ (by omega)];unfold cursG;rw [hn,Int.toNat_natCast]
  have htop:(topG p b (Rn:Int) (Cn:Int):Int)=if 0 < (cursG p b (Cn:Int)).1 - (Rn:Int)+1 then (cursG p b (Cn:Int)).1 - (Rn:Int)+1 else 0:=by
   unfold topG;split <;> omega
  have htl:topG p b (Rn:Int) (Cn:Int)<=5000:=by unfold topG;omega
  have e1:pAdd .i64 (pSub .i64 (cursG p b (Cn:Int)).1 (Rn:Int)) 1=(cursG p b (Cn:Int)).1 - (Rn:Int)+1:=by rw [zCX (by omega) (by omega),zC6 (by omega) (by omega)]
  have e2:pSub .i64 (cursG p b (Cn:Int)).1 (topG p b (Rn:Int) (Cn:Int):Int)=(cursG p b (Cn:Int)).1 - (topG p b (Rn:Int) (Cn:Int):Int):=zCX (by omega) (by omega)
  constructor
  ·rw [zIK N (by omega) Cn hCn p (by omega) b hb reg,zA2,zG7,zA2,hng]
   have hsp:(layQ Cn (laidS Cn p b reg) (spotsM (Cn:Int) b.1 (layM (Cn:Int) p (0,0)) (b.1.length+1))).2.2.2.2.2.1=spotsM (Cn:Int) b.1 (layM (Cn:Int) p (0,0)) (b.1.length+1):=rfl
   have hse:(layQ Cn (laidS Cn p b reg) (spotsM (Cn:Int) b.1 (layM (Cn:Int) p (0,0)) (b.1.length+1))).2.2.2.1=seenS (laidS Cn p b reg):=rfl
   have emax:pMax ((cursG p b (Cn:Int)).1 - (Rn:Int)+1) 0=(topG p b (Rn:Int) (Cn:Int):Int):=by unfold pMax topG;split <;> omega
   rw [hsp,hse,hcur,zA2,e1,emax,zCP]
   refine (zGM N (by omega) Rn Cn hCn (by omega) _ ?_ ?_ _ htl _ _ _).trans ?_
   ·unfold szS at hz;omega
   ·rw [zH0]
    refine zG9 _ 0 (by rw [List.length_append,List.length_singleton];omega) (fun us h=>?_)
    rcases List.mem_append.1 h with z | z
    ·exact (hS.1 us z).1
    ·have:us=(laidS Cn p b reg).2:=by simpa using z
     rw [this];exact hS.2.1
   ·simp only []
    rw [e2,zOU _ hS]
    rfl
  ·rw [zIJ N (by omega) Cn hCn p (by omega) b hb reg,zA2]
   simp only []
   rw [hcur,zA2,zE7,zA2,hng,e1]
   have emax:zBV N 0 ((cursG p b (Cn:Int)).1 - (Rn:Int)+1)=some (topG p b (Rn:Int) (Cn:Int):Int):=by
    unfold zBV topG
    by_cases h:(cursG p b (Cn:Int)).1 - (Rn:Int)+1 < 0
    ·rw [pGt_t (by omega),ifB_t,Int.toNat_of_nonpos (by omega)];rfl
    ·rw [pGt_f (by omega),ifB_f,Int.toNat_of_nonneg (by omega)]
   rw [emax,zA2,e2]
   refine (zGQ N (by omega) Rn Cn hCn (by omega) _ hS _ htl (by omega) _ _ _ _).trans ?_
   rfl
def goodP (s:Int):Prop:=ptG s=true/\ctlG s=false
theorem zJL (p:Int) (h:ptG p=true):∀ s∈shG p,goodP s:=by
 unfold shG
 split
 ·rename_i hc
  have hx:goodP (pXor .i64 p 64):=by
   unfold ctlG at hc
   simp only [Bool.or_eq_true,decide_eq_true_eq] at hc
   unfold ptG at h
   simp only [Bool.and_eq_true,decide_eq_true_eq] at h
   have key:∀ x:Int,0<=x->x < 128->(decide (x < 32) || decide (x=127))=true->(ptG (pXor .i64 x 64) && !ctlG (pXor .i64 x 64))=true:=fun x h0 h1 h2 =>
    zFJ (P:=fun x=>(decide (x < 32) || decide (x=127))=true->(ptG (pXor .i64 x 64) && !ctlG (pXor .i64 x 64))=true) (n:=128) (by decide +kernel) h0 h1 h2
   have:=key p h.1.1 (by omega) (by simp only [Bool.or_eq_true,decide_eq_true_eq];exact hc)
   simp only [Bool.and_eq_true,Bool.not_eq_true'] at this
   exact this
  intro s hs
  simp only [List.mem_cons,List.not_mem_nil,or_false] at hs
  rcases hs with rfl | rfl
  ·exact ⟨by decide,by decide⟩
  ·exact hx
 ·rename_i hc
  intro s hs
  simp only [List.mem_cons,List.not_mem_nil,or_false] at hs
  subst hs
  exact ⟨h,by simpa using hc⟩
theorem zNP {s a:Int} (h:goodP s) (h0:wG s≠0) (ha:0<=a/\a<=3):cellG ([s],a,())=true:=by
 unfold cellG
 have:okP 0 s=true:=by unfold okP;rw [h.1,h.2,decide_eq_false h0];rfl
 rw [decide_eq_true (by simp:([s]:List Int).length<=4),decide_eq_true ha.1,decide_eq_true ha.2]
 simp [List.range,List.range.loop,this]
theorem zKX {l:List Int} {a s:Int} (hc:cellG (l,a,())=true) (hl:l≠[]) (h4:l.length < 4) (h:goodP s) (h0:wG s=0):cellG (l ++ [s],a,())=true:=by
 unfold cellG at hc ⊢
 simp only [Bool.and_eq_true,decide_eq_true_eq,List.all_eq_true,List.mem_range] at hc ⊢
 obtain ⟨⟨⟨_,h2⟩,h3⟩,h5⟩:=hc
 refine ⟨⟨⟨by simp;omega,h2⟩,h3⟩,fun i hi=>?_⟩
 simp only [List.length_append,List.length_singleton] at hi
 have hpos:0 < l.length:=List.length_pos_iff.2 hl
 by_cases hil:i < l.length
 ·have:=h5 i hil
  rwa [List.getD_eq_getElem?_getD,List.getElem?_append_left hil,← List.getD_eq_getElem?_getD]
 ·have:i=l.length:=by omega
  subst this
  rw [List.getD_eq_getElem?_getD,List.getElem?_append_right (Nat.le_refl _)]
  simp only [Nat.sub_self,List.getElem?_cons_zero,Option.getD_some]
  unfold okP
  rw [h.1,h.2,decide_eq_true h0,decide_eq_false (by omega)];rfl
def uOk (u:UnitT):Prop:=cellG (cellU u)=true/\u.1≠[]
def laidG (S:LaidT):Prop:=(∀ us∈S.1,∀ u∈us,uOk u)/\∀ u∈S.2,uOk u
theorem zL3 {C:Nat} {s a:Int} (hs:goodP s) (ha:0<=a/\a<=3) {S:LaidT} (h:laidG S):laidG (addU C s a S):=by
 obtain ⟨h1,h2⟩:=h
 unfold addU
 by_cases h0:wG s=0
 ·rw [if_pos h0]
  refine ⟨h1,fun u hu=>?_⟩
  have hu:u∈modLast s S.2:=hu
  rcases List.eq_nil_or_concat S.2 with e | ⟨l,x,e⟩
  ·rw [e,zE2] at hu;cases hu
  ·rw [List.concat_eq_append] at e
   rw [e,zD7] at hu
   rw [e] at h2
   rcases List.mem_append.1 hu with z | z
   ·exact h2 u (List.mem_append_left _ z)
   ·have:u=modU s x:=by simpa using z
    subst this
    have hx:=h2 x (by simp)
    unfold modU
    split
    ·rename_i h4
     exact ⟨zKX hx.1 hx.2 h4 hs h0,by simp⟩
    ·exact hx
 ·rw [if_neg h0]
  have hn:uOk ([s],a):=⟨zNP hs h0 ha,by simp⟩
  split
  ·refine ⟨fun us hus=>?_,fun u hu=>?_⟩
   ·rcases List.mem_append.1 hus with z | z
    ·exact h1 us z
    ·have:us=S.2:=by simpa using z
     subst this;exact h2
   ·have:u=([s],a):=by simpa using hu
    subst this;exact hn
  ·refine ⟨h1,fun u hu=>?_⟩
   rcases List.mem_append.1 hu with z | z
   ·exact h2 u z
   ·have:u=([s],a):=by simpa using z
    subst this;exact hn
theorem zHV {C:Nat} {a:Int} (ha:0<=a/\a<=3):∀ (l:List Int) (S:LaidT),(∀ s∈l,goodP s)->laidG S->laidG (l.foldl (fun S s=>addU C s a S) S)
 | [],_,_,h=>h
 | s::l,S,hl,h=>zHV ha l _ (fun x hx=>hl x (List.mem_cons_of_mem _ hx)) (zL3 (hl s (by simp)) ha h)
theorem zIS {C:Nat} {p a:Int} (hp:ptG p=true) (ha:0<=a/\a<=3) {S:LaidT} (h:laidG S):laidG (pointU C p a S):=by
 unfold pointU
 split
 ·refine ⟨fun us hus=>?_,fun u hu=>by cases hu⟩
  rcases List.mem_append.1 hus with z | z
  ·exact h.1 us z
  ·have:us=S.2:=by simpa using z
   subst this;exact h.2
 ·exact zHV ha _ _ (zJL p hp) h
theorem zGG {C:Nat} {at':Nat->Int} (ha:∀ i,0<=at' i/\at' i<=3) {l:List Int} (hl:∀ p∈l,ptG p=true) {S:LaidT} (h:laidG S):∀ i,i<=l.length->laidG (layN C at' l S i)
 | 0,_=>h
 | i+1,hi=>by
  rw [layN,zEB (by omega)]
  exact zIS (hl _ (List.getElem_mem _)) (ha i) (zGG ha hl h i (by omega))
theorem zKN (C:Nat) {p:List Int} {b:BufT} (hp:∀ x∈p,ptG x=true) (hb:∀ x∈b.1,ptG x=true) (reg:Bool):laidG (laidS C p b reg):=by
 have ha:∀ i,0<=regA b reg i/\regA b reg i<=3:=fun i=>by rcases zNA b reg i with h | h <;> omega
 exact zGG ha hb (zGG (fun _=>⟨Int.le_refl _,by omega⟩) hp ⟨fun _ h=>by (cases h),fun _ h=>by (cases h)⟩ _ (Nat.le_refl _)) _ (Nat.le_refl _)
def okL:List CellT->Prop
 | []=>True
 | c::t=>cellG c=true/\(wideC c=true->∃ d t',t=d::t'/\d.1=[]/\d.2.1=c.2.1)/\okL t
theorem zKM:∀ {l:List CellT},okL l->∀ (i:Nat) (h:i < l.length),cellG l[i]=true/\(wideC l[i]=true->∃ h2:i+1 < l.length,l[i+1].1=[]/\l[i+1].2.1=l[i].2.1)
 | [],_,_,h=>by cases h
 | c::t,⟨h1,h2,_⟩,0,_=>⟨h1,fun hw=>by
   obtain ⟨d,t',e,e1,e2⟩:=h2 hw
   subst e
   exact ⟨by simp,e1,e2⟩⟩
 | c::t,⟨_,_,h3⟩,i+1,h=>by
  obtain ⟨g1,g2⟩:=zKM h3 i (by simpa using h)
  refine ⟨g1,fun hw=>?_⟩
  obtain ⟨h2,e⟩:=g2 hw
  exact ⟨by simp;omega,e⟩
theorem zKL:∀ m,okL (repE m)
 | 0=>trivial
 | m+1=>⟨rfl,(fun h=>by cases h),zKL m⟩
theorem zMI {a:Int} (c:CellT) (h:cellG c=true) (e:c.2.1=a):cellG ([],a,())=true:=by
 unfold cellG at h ⊢
 simp only [Bool.and_eq_true,decide_eq_true_eq] at h
 subst e
 rw [decide_eq_true h.1.1.2,decide_eq_true h.1.2];rfl
theorem zLX (m:Nat):∀ (us:List UnitT),(∀ u∈us,uOk u)->okL (rowUC us ++ repE m)
 | [],_=>zKL m
 | u::t,h=>by
  have ih:=zLX m t (fun x hx=>h x (List.mem_cons_of_mem _ hx))
  have hu:=h u (by simp)
  have e:rowUC (u::t) ++ repE m=uC u ++ (rowUC t ++ repE m):=by unfold rowUC;simp
  rw [e]
  unfold uC
  cases hw:wideC (cellU u) with
  | false=>rw [if_neg (by simp)];exact ⟨hu.1,(fun q=>by rw [hw] at q;cases q),ih⟩
  | true=>rw [if_pos rfl];exact ⟨hu.1,fun _=>⟨_,_,rfl,rfl,rfl⟩,zMI _ hu.1 rfl,(fun q=>by cases q),ih⟩
def flL:Bool->Bool->List CellT->Bool
 | _,_,[]=>true
 | true,ov,c::t=>flL (wideC c) ov t
 | false,ov,c::t=>if c.1=[] then (if c.2.1=0 then flL (wideC c) true t else false) else if ov=true then false else flL (wideC c) ov t
theorem zL1:∀ (m:Nat) (ov:Bool),flL false ov (repE m)=true
 | 0,_=>rfl
 | m+1,ov=>zL1 m true
theorem zL9 (m:Nat):∀ (us:List UnitT),(∀ u∈us,uOk u)->flL false false (rowUC us ++ repE m)=true
 | [],_=>zL1 m false
 | u::t,h=>by
  have ih:=zL9 m t (fun x hx=>h x (List.mem_cons_of_mem _ hx))
  have hu:=h u (by simp)
  have e:rowUC (u::t) ++ repE m=uC u ++ (rowUC t ++ repE m):=by unfold rowUC;simp
  have hne:(cellU u).1≠[]:=hu.2
  rw [e]
  unfold uC
  cases hw:wideC (cellU u) with
  | false =>
   rw [if_neg (by simp)]
   show flL false false (cellU u::(rowUC t ++ repE m))=true
   rw [flL,if_neg hne,if_neg (by simp),hw];exact ih
  | true =>
   rw [if_pos rfl]
   show flL false false (cellU u::([],u.2,())::(rowUC t ++ repE m))=true
   rw [flL,if_neg hne,if_neg (by simp),hw]
   exact ih
theorem zJA {C:Nat}:∀ (l:List (List UnitT)),(∀ us∈l,wR us<=C)->∀ (r c:Nat) (h:r < l.length),c < C->(l.flatMap (rowPad C))[r * C+c]?=(rowPad C l[r])[c]?
 | [],_,_,_,h,_=>by cases h
 | us::l,hw,0,c,_,hc=>by
  have hl:=zDU (hw us (by simp))
  rw [List.flatMap_cons,Nat.zero_mul,Nat.zero_add,List.getElem?_append_left (by omega)];rfl
 | us::l,hw,r+1,c,h,hc=>by
  have hl:=zDU (hw us (by simp))
  have:=zJA l (fun x hx=>hw x (List.mem_cons_of_mem _ hx)) r c (by simpa using h) hc
  rw [List.flatMap_cons,Nat.succ_mul,List.getElem?_append_right (by omega),hl,show r * C+C+c - C=r * C+c by omega,this];rfl
theorem zIF (g:GridT) (C r:Nat) (hC:g.2.1=(C:Int)) (row:List CellT) (hl:row.length=C) (hg:∀ c (h:c < row.length),cellD g (r * C+c)=row[c]):∀ (m c:Nat) (ov:Bool),c+m=C->flatR g m (r * C+c) ov=flL (decide (0 < c) && wideC (row.getD (c - 1) ([],0,()))) ov (row.drop c):=by
 intro m
 induction m with
 | zero=>intro c ov hc;rw [List.drop_eq_nil_of_le (by omega)];unfold flL;rfl
 | succ m ih =>
  intro c ov hc
  have hlt:c < row.length:=by omega
  have hm:((r * C+c:Nat):Int) % g.2.1=(c:Int):=by rw [hC];exact zGD (by omega)
  have hh:halfG g (r * C+c)=(decide (0 < c) && wideC (row.getD (c - 1) ([],0,()))):=by
   unfold halfG
   rw [hm]
   by_cases h0:0 < c
   ·rw [decide_eq_true (by omega:(0:Int) < (c:Int)),decide_eq_true h0,show r * C+c - 1=r * C+(c - 1) by omega,hg (c - 1) (by omega),List.getD_eq_getElem?_getD,List.getElem?_eq_getElem (by omega:c - 1 < row.length)];rfl
   ·rw [decide_eq_false (by omega),decide_eq_false h0];rfl
  have nx:∀ o,flatR g m (r * C+(c+1)) o=flL (wideC row[c]) o (row.drop (c+1)):=fun o=>by
   rw [ih (c+1) o (by omega),decide_eq_true (by omega:0 < c+1),show c+1 - 1=c by omega,List.getD_eq_getElem?_getD,List.getElem?_eq_getElem hlt];rfl
  rw [flatR,zDX hlt]
  unfold flG
  rw [hh,hg c hlt]
  cases (decide (0 < c) && wideC (row.getD (c - 1) ([],0,()))) with
  | true=>simp only [if_true];rw [flL];exact nx ov
  | false =>
   rw [if_neg (by simp),flL]
   by_cases he:row[c].1=[]
   ·rw [if_pos he,if_pos he]
    by_cases ha:row[c].2.1=0
    ·rw [if_pos ha,if_pos ha];exact nx true
    ·rw [if_neg ha,if_neg ha]
   ·rw [if_neg he,if_neg he]
    cases ov with
    | true=>simp
    | false=>simp only [Bool.false_eq_true,if_false];exact nx false
end Go.AE.F
