/- Plain laws of those functions. -/
import Derived.Test.YtgljdfgbcfdmbaaGreatDoorLSendAllP24
namespace Go.AE.F
open Go.AE
theorem zJP {p:List Int} {b:BufT} {reg:Bool} {R C:Int} (hv:viewedG p b C=true) (hR:1<=R/\R<=24):flatG (viewOk p b reg R C).1=true/\gridG (viewOk p b reg R C).1=true/\(viewOk p b reg R C).1.2.2.1.length<=1920:=by
 obtain ⟨c1,c2,c3,c4,n,hn,hn2⟩:=zH4 hv
 have hv0:=hv
 unfold viewedG at hv0
 simp only [Bool.and_eq_true,decide_eq_true_eq] at hv0
 obtain ⟨⟨hp,hb⟩,hC⟩:=hv0
 have hpl:=zEL hp
 obtain ⟨Cn,rfl⟩:∃ Cn:Nat,C=(Cn:Int):=⟨C.toNat,by omega⟩
 obtain ⟨Rn,rfl⟩:∃ Rn:Nat,R=(Rn:Int):=⟨R.toNat,by omega⟩
 have hCn:2<=Cn/\Cn<=80:=by omega
 have hS:=zLC hCn.1 p b reg
 have pts:∀ {l:List Int},ptsG l=true->∀ x∈l,ptG x=true:=fun {l} h x hx=>by
  unfold ptsG at h
  simp only [Bool.and_eq_true,List.all_eq_true] at h
  exact h.2 x hx
 have hG:=zKC Cn (pts hp) (pts (zFI.1 hb).1) reg
 have hw:∀ us∈viewW Rn (topG p b (Rn:Int) (Cn:Int)) (allG p b reg Cn),wR us<=Cn/\∀ u∈us,uOk u:=fun us h=>by
  rcases zGB h with z | z
  ·rw [z];exact ⟨Nat.zero_le _,fun _ h=>by cases h⟩
  ·unfold allG at z
   rcases List.mem_append.1 z with z | z
   ·exact ⟨(hS.1 us z).1,hG.1 us z⟩
   ·have:us=(laidS Cn p b reg).2:=by simpa using z
    rw [this];exact ⟨hS.2.1,hG.2⟩
 have htop:(topG p b (Rn:Int) (Cn:Int):Int)=if 0 < (cursG p b (Cn:Int)).1 - (Rn:Int)+1 then (cursG p b (Cn:Int)).1 - (Rn:Int)+1 else 0:=by
  unfold topG;split <;> omega
 have hlw:=zG3 Rn (topG p b (Rn:Int) (Cn:Int)) (allG p b reg Cn)
 have key:=zHX Rn Cn (by omega) hCn _ hlw (fun us h=>(hw us h).1) (fun us h=>(hw us h).2) ((cursG p b (Cn:Int)).1 - (topG p b (Rn:Int) (Cn:Int):Int)) (cursG p b (Cn:Int)).2.1 (by split at htop <;> omega) (by omega)
 refine ⟨key.1,key.2,?_⟩
 show ((viewW Rn (topG p b (Rn:Int) (Cn:Int)) (allG p b reg Cn)).flatMap (rowPad Cn)).length<=1920
 rw [zFE (fun us h=>(hw us h).1),hlw]
 exact (Nat.mul_le_mul (show Rn<=24 by omega) hCn.2:Rn * Cn<=24 * 80)
theorem zJO {g:GridT} (h:flatG g=true):∀ x∈g.2.2.1,x.1.length<=4:=fun x hx=>by
 obtain ⟨_,_,_,_,_,_,_,_,_,_,hc,_⟩:=zDY h
 exact (hc x hx).1
theorem zHS (N:Nat) (hN:2100 < N) (g:GridT) (hl:g.2.2.1.length<=2000) (hc:∀ c∈g.2.2.1,c.1.length<=4):zCM N g g=some true:=by
 unfold zCM
 have hb:pBeq g.2.2.2.2.2.1 g.2.2.2.2.2.1=true:=by unfold pBeq;simp
 rw [pEq_t rfl,ifB_t,pEq_t rfl,zA2,ifB_t,zFV N _ _ hl (by omega) (fun c h=>by have:=hc c h;omega),zA2,zA2,decide_eq_true rfl,ifB_t,pEq_t rfl,zA2,ifB_t,pEq_t rfl,zA2,ifB_t,hb,zA2,ifB_t,pEq_t rfl,zA2]
end Go.AE.F
namespace Go.AE.F
open Go.AE
theorem zJ0 (C:Nat):∀ n,(List.replicate n ([]:List UnitT)).flatMap (rowPad C)=repE (n * C)
 | 0=>by simp
 | n+1=>by
  rw [List.replicate_succ,List.flatMap_cons,zJ0 C n,zGZ,Nat.succ_mul,Nat.add_comm]
  exact List.replicate_append_replicate
theorem zFN {r c:Int} (hr:1<=r/\r<=24) (hc:2<=c/\c<=80):flatG (newG r c)=true/\gridG (newG r c)=true/\(newG r c).1=r/\(newG r c).2.1=c:=by
 obtain ⟨R,rfl⟩:∃ R:Nat,r=(R:Int):=⟨r.toNat,by omega⟩
 obtain ⟨C,rfl⟩:∃ C:Nat,c=(C:Int):=⟨c.toNat,by omega⟩
 have key:=zHX R C (by omega) (by omega) (List.replicate R []) (by simp) (fun us h=>by rw [(List.mem_replicate.1 h).2];exact Nat.zero_le _) (fun us h u hu=>by rw [(List.mem_replicate.1 h).2] at hu;cases hu) 0 0 (by omega) (by omega)
 rw [zJ0] at key
 have e:newG (R:Int) (C:Int)=gV R C (repE (R * C)) 0 0:=by
  unfold newG
  rw [decide_eq_true hr.1,decide_eq_true hr.2,decide_eq_true hc.1,decide_eq_true hc.2,Bool.and_self,Bool.and_self,Bool.and_self,if_pos rfl]
  have:((R:Int) * (C:Int)).toNat=R * C:=by rw [show (R:Int) * (C:Int)=((R * C:Nat):Int) by simp,Int.toNat_natCast]
  rw [this];rfl
 rw [e]
 exact ⟨key.1,key.2,rfl,rfl⟩
theorem pickM (N:Nat) (s:SrcT) (l:List ByteArray) (hs:srcOk s) (h0:0 < l.length) (hk:l.length<=1048576):Tot (fun r:ByteArray×SrcT=>srcOk r.2/\r.1∈l) (zBZ N s l):=by
 obtain ⟨x,s',h1,h2,h3⟩:=zOR N s l hs h0 hk
 exact ⟨_,h1,h2,h3⟩
theorem zNY (N:Nat) (hN:10 < N) (p:Int) (h:ptG p=true):Tot (fun b:ByteArray=>b.size<=4) (zAW N [p]):=by
 rw [zE7 N [p] (fun x hx=>(List.mem_singleton.1 hx) ▸ h) (by simp) (by simp;omega)]
 refine Tot.ret ?_
 have e:encs [p]=enc p:=by unfold encs;simp
 rw [zD9,e]
 exact zIK p
theorem zJI (N:Nat) (hN:2000 < N) (s:SrcT) (hs:srcOk s) (n:Int) (h0:0<=n) (h1:n<=1000):Tot (fun r:ByteArray×SrcT=>srcOk r.2/\(r.1.size:Int)<=20 * n) (zA8 N s n):=by
 unfold zA8
 refine zEQ (fun m (d:Int×ByteArray×SrcT×Unit)=>0<=d.1/\d.1<=n/\d.1<=m/\(d.2.1.size:Int)<=20 * (n - d.1)/\srcOk d.2.2.1) (fun (e:ByteArray×SrcT×Unit)=>srcOk e.2.1/\(e.1.size:Int)<=20 * n) (fun e he=>Tot.ret he) ?_ N n.toNat _ (by omega) ⟨h0,Int.le_refl _,by show n<=((n.toNat:Nat):Int);omega,by show ((ByteArray.mk #[]).size:Int)<=20 * (n - n);have:(ByteArray.mk #[]).size=0:=rfl;omega,hs⟩
 intro m d kn kx ⟨d0,d1,d2,d3,d4⟩ hn hx
 unfold zA8.l2
 simp only []
 refine Tot.ite (fun hh=>?_) (fun hh=>hx _ ⟨d4,by rw [pGt_d] at hh;have:=of_decide_eq_false hh;show (d.2.1.size:Int)<=_;omega⟩)
 have hpos:0 < d.1:=by rw [pGt_d] at hh;exact of_decide_eq_true hh
 refine Tot.bind (P:=fun x:Int×ByteArray×SrcT×Unit=>x.1=d.1/\srcOk x.2.2.1/\x.2.1.size<=d.2.1.size+20) ?_ fun x ⟨x1,x2,x3⟩=>hn (m - 1) _ (by omega) ⟨?_,?_,?_,?_,x2⟩
 ·have sz:∀ {a b:ByteArray},(pCat a b).size=a.size+b.size:=fun {a b}=>zD7 a b
  have c2:(ByteArray.mk #[27,91]).size=2:=rfl
  have c1:(ByteArray.mk #[59]).size=1:=rfl
  have c72:(ByteArray.mk #[72]).size=1:=rfl
  have hd:d.2.1.size<=20000:=by omega
  have fit:∀ {a b:ByteArray} {A:Type} {P:A->Prop} {o:Option A},a.size+b.size<=68719476736->Tot P o->Tot P (ifB (pFitS a b) o none):=fun {a b A P o} h1 h2=>by rw [zDK h1];exact h2
  refine Tot.bind (nT N _ 12 d4 (by omega)) fun q hq=>?_
  refine Tot.ite (fun _=>?_) fun _=>?_
  ·refine fit (by omega) ?_
   refine Tot.bind (nT N _ 5 hq.1 (by omega)) fun a ha=>?_
   have ha2:=ha.2.2.2 (by omega)
   obtain ⟨an,han⟩:∃ an:Nat,a.1=(an:Int):=⟨a.1.toNat,by have:=ha.2.1;omega⟩
   rw [han,(zE0 N an (by omega) (by omega)).2,zA2]
   have hdz:=zD4 an
   refine fit (by rw [sz];omega) ?_
   refine Tot.bind (pickM N _ _ ha.1 (by simp) (by simp)) fun b hb=>?_
   have hbz:b.1.size<=8:=(by decide:∀ x∈[(ByteArray.mk #[65]),(ByteArray.mk #[66]),(ByteArray.mk #[67]),(ByteArray.mk #[68]),(ByteArray.mk #[74]),(ByteArray.mk #[75]),(ByteArray.mk #[109]),(ByteArray.mk #[109]),(ByteArray.mk #[120])],x.size<=8) b.1 hb.2
   refine fit (by rw [sz,sz];omega) (Tot.ret ⟨rfl,hb.1,?_⟩)
   show (pCat (pCat (pCat d.2.1 _) _) _).size<=_
   rw [sz,sz,sz];omega
  refine Tot.ite (fun _=>?_) fun _=>?_
  ·refine fit (by omega) ?_
   refine Tot.bind (nT N _ 6 hq.1 (by omega)) fun a ha=>?_
   have ha2:=ha.2.2.2 (by omega)
   obtain ⟨an,han⟩:∃ an:Nat,a.1=(an:Int):=⟨a.1.toNat,by have:=ha.2.1;omega⟩
   rw [han,(zE0 N an (by omega) (by omega)).2,zA2]
   have hdz:=zD4 an
   refine fit (by rw [sz];omega) (fit (by rw [sz,sz];omega) ?_)
   refine Tot.bind (nT N _ 9 ha.1 (by omega)) fun b hb=>?_
   have hb2:=hb.2.2.2 (by omega)
   obtain ⟨bn,hbn⟩:∃ bn:Nat,b.1=(bn:Int):=⟨b.1.toNat,by have:=hb.2.1;omega⟩
   rw [hbn,(zE0 N bn (by omega) (by omega)).2,zA2]
   have hdz2:=zD4 bn
   refine fit (by rw [sz,sz,sz];omega) (fit (by rw [sz,sz,sz,sz];omega) (Tot.ret ⟨rfl,hb.1,?_⟩))
   show (pCat (pCat (pCat (pCat (pCat d.2.1 _) _) _) _) _).size<=_
   rw [sz,sz,sz,sz,sz];omega
  refine Tot.ite (fun _=>?_) fun _=>?_
  ·refine Tot.bind (pickM N _ _ hq.1 (by simp) (by simp)) fun b hb=>?_
   have hbz:b.1.size<=8:=(by decide:∀ x∈[(ByteArray.mk #[13]),(ByteArray.mk #[10]),(ByteArray.mk #[8]),(ByteArray.mk #[13,10]),(ByteArray.mk #[27,120]),(ByteArray.mk #[27,91]),(ByteArray.mk #[27,91,59,72]),(ByteArray.mk #[27,91,49,50,51,52,53,65]),(ByteArray.mk #[127]),(ByteArray.mk #[0])],x.size<=8) b.1 hb.2
   refine fit (by omega) (Tot.ret ⟨rfl,hb.1,?_⟩)
   show (pCat d.2.1 _).size<=_
   rw [sz];omega
  have letter:∀ (base k:Int),0<=base->base+k<=50000->1 < k->Tot (fun x:Int×ByteArray×SrcT×Unit=>x.1=d.1/\srcOk x.2.2.1/\x.2.1.size<=d.2.1.size+20) (
    bindO (zAD N q.2 k) fun y58 =>
    bindO (zAW N [(pAdd Go.IntKind.i64 base y58.1)]) fun y59 =>
    ifB (pFitS d.2.1 y59) (
     some (d.1,(pCat d.2.1 y59),y58.2,())) (
     none)):=fun base k hb0 hbk hk=>by
   refine Tot.bind (nT N _ k hq.1 (by omega)) fun a ha=>?_
   have ha1:=ha.2.1
   have ha2:=ha.2.2.2 hk
   rw [zC3 (by omega) (by omega)]
   refine Tot.bind (zNY N (by omega) _ ?_) fun t ht=>fit (by omega) (Tot.ret ⟨rfl,ha.1,?_⟩)
   ·unfold ptG
    simp only [Bool.and_eq_true,decide_eq_true_eq,Bool.not_eq_true',Bool.and_eq_false_iff,decide_eq_false_iff_not]
    omega
   ·show (pCat d.2.1 _).size<=_
    rw [sz];omega
  refine Tot.ite (fun _=>letter 19968 20 (by omega) (by omega) (by omega)) fun _=>?_
  exact Tot.ite (fun _=>letter 768 9 (by omega) (by omega) (by omega)) fun _=>letter 97 26 (by omega) (by omega) (by omega)
 ·show 0<=pSub .i64 x.1 1;rw [x1,zCZ (by omega) (by omega)];omega
 ·show pSub .i64 x.1 1<=_;rw [x1,zCZ (by omega) (by omega)];omega
 ·show pSub .i64 x.1 1<=_;rw [x1,zCZ (by omega) (by omega)];omega
 ·show (x.2.1.size:Int)<=20 * (n - pSub .i64 x.1 1);rw [x1,zCZ (by omega) (by omega)];omega
def gOkS (g:GridT):Prop:=g.2.2.1.length<=1920/\∀ c∈g.2.2.1,c.1.length<=4
theorem zHV {cs:List CellT} (h:∀ c∈cs,c.1.length<=4) (i:Int) {x:CellT} (hx:x.1.length<=4):∀ c∈pSet cs i x,c.1.length<=4:=fun c hc=>by
 unfold pSet at hc
 rcases List.mem_or_eq_of_mem_set hc with z | z
 ·exact h c z
 ·rw [z];exact hx
theorem zHZ (N:Nat) (hN:100000 < N) (s:SrcT) (hs:srcOk s):Tot (fun r:GridT×SrcT=>srcOk r.2/\gOkS r.1) (zBL N s):=by
 have body:∀ (g0:GridT) (q:SrcT),gridG g0=true->srcOk q->Tot (fun r:GridT×SrcT=>srcOk r.2/\gOkS r.1) (
  bindO (zAD N q (pAdd Go.IntKind.i64 20 (pMul Go.IntKind.i64 4 q.2.2.2.1))) fun y37 =>
  bindO (zA8 N y37.2 y37.1) fun y38 =>
  bindO (zAG N g0 y38.1) fun y39 =>
  bindO (zBC N y38.2 15) fun y40 =>
  ifB y40.1 (
   bindO (zAD N y40.2 5) fun y41 =>
   ifB (pEq y41.1 0) (
    some ((y39.1,(y39.2.1,(y39.2.2.1,(y39.1,y39.2.2.2.2)))),y41.2)) (
    ifB (pEq y41.1 1) (
     some ((y39.1,(y39.2.1,(y39.2.2.1,(y39.2.2.2.1,(y39.2.2.2.2.1,((pNot y39.2.2.2.2.2.1),y39.2.2.2.2.2.2)))))),y41.2)) (
     ifB (pEq y41.1 2) (
      bindO (idx y39.2.2.1 0) fun y42 =>
      bindO (idx y39.2.2.1 0) fun y43 =>
      some ((y39.1,(y39.2.1,((pSet y39.2.2.1 0 (y43.1,(4,y43.2.2))),y39.2.2.2))),y41.2)) (
      ifB (pEq y41.1 3) (
       bindO (idx y39.2.2.1 (pSub Go.IntKind.i64 (pLen y39.2.2.1) 1)) fun y44 =>
       bindO (idx y39.2.2.1 (pSub Go.IntKind.i64 (pLen y39.2.2.1) 1)) fun y45 =>
       some ((y39.1,(y39.2.1,((pSet y39.2.2.1 (pSub Go.IntKind.i64 (pLen y39.2.2.1) 1) ([19968],y45.2)),y39.2.2.2))),y41.2)) (
       some ((y39.1,((pAdd Go.IntKind.i64 y39.2.1 1),y39.2.2)),y41.2)))))) (
   some (y39,y40.2))):=fun g0 q hg hq=>by
  have hz:=hq.2.2.2
  have e1:pMul .i64 4 q.2.2.2.1=4 * q.2.2.2.1:=zDD (by omega) (by omega)
  rw [e1,zC3 (by omega) (by omega)]
  refine Tot.bind (nT N _ _ hq (by omega)) fun a ha=>?_
  have ha1:=ha.2.1
  have ha2:=ha.2.2.2 (by omega)
  refine Tot.bind (zJI N (by omega) _ ha.1 a.1 ha1 (by omega)) fun b hb=>?_
  have hb2:=hb.2
  refine Tot.bind (zNX N hN g0 hg b.1 (by omega)) fun g ⟨g1,g2,g3⟩=>?_
  refine Tot.bind (oneT N _ 15 hb.1 (by omega)) fun o ho=>?_
  have same:gOkS g:=⟨g2,g3⟩
  refine Tot.both ?_ (Tot.ret ⟨ho,same⟩)
  refine Tot.bind (nT N _ 5 ho (by omega)) fun c hc=>?_
  refine Tot.both (Tot.ret ⟨hc.1,g2,g3⟩) (Tot.both (Tot.ret ⟨hc.1,g2,g3⟩) (Tot.both ?_ (Tot.both ?_ (Tot.ret ⟨hc.1,g2,g3⟩))))
  ·obtain ⟨x,hx,hm⟩:=idxT g.2.2.1 0 (by omega) (by omega)
   rw [hx,zA2,zA2]
   exact Tot.ret ⟨hc.1,by show (pSet g.2.2.1 0 _).length<=_;simp [pSet];omega,zHV g3 0 (g3 x hm)⟩
  ·have el:pSub .i64 (pLen g.2.2.1) 1=((g.2.2.1.length - 1:Nat):Int):=by rw [zCT,zCZ (by omega) (by omega)];omega
   rw [el]
   obtain ⟨x,hx,hm⟩:=idxT g.2.2.1 ((g.2.2.1.length - 1:Nat):Int) (by omega) (by omega)
   rw [hx,zA2,zA2]
   exact Tot.ret ⟨hc.1,by show (pSet g.2.2.1 _ _).length<=_;simp [pSet];omega,zHV g3 _ (by simp)⟩
 unfold zBL
 refine Tot.bind (nT N s 4 hs (by omega)) fun a ha=>?_
 have ha1:=ha.2.1
 have ha2:=ha.2.2.2 (by omega)
 refine Tot.bind (nT N _ 8 ha.1 (by omega)) fun b hb=>?_
 have hb1:=hb.2.1
 have hb2:=hb.2.2.2 (by omega)
 rw [zC3 (by omega) (by omega),zC3 (by omega) (by omega),zDV,zA2]
 refine Tot.bind (oneT N _ 40 hb.1 (by omega)) fun o ho=>?_
 refine Tot.both ?_ (body _ _ (zFN (by omega) (by omega)).2.1 ho)
 rw [zDV,zA2]
 exact body _ _ (zFN (by omega) (by omega)).2.1 ho
theorem zJE (N:Nat) (hN:100001 < N) (s:SrcT) (hs:srcOk s):Tot (fun r:BufT×SrcT=>srcOk r.2/\r.1.1.length<=10) (zBJ N s):=by
 unfold zBJ
 refine Tot.bind (nT N s 6 hs (by omega)) fun a ha=>?_
 have ha2:=ha.2.2.2 (by omega)
 refine Tot.bind (zEE N _ _ ha.1 ha.2.1 (by omega) hN) fun p hp=>?_
 have hpl:=hp.2
 rw [zCT,zC3 (by omega) (by omega)]
 refine Tot.bind (nT N _ _ hp.1 (by omega)) fun c hc=>Tot.ret ⟨hc.1,by show p.1.length<=10;omega⟩
theorem zGF (p:List Int) (b:BufT) (reg:Bool) (R C:Int):gOkS (viewG p b reg R C).1:=by
 unfold viewG
 split
 ·exact ⟨by simp [viewErr],fun c hc=>by cases hc⟩
 split
 ·rename_i h
  simp only [Bool.and_eq_true,decide_eq_true_eq] at h
  obtain ⟨f1,_,f3⟩:=zJP (reg:=reg) h.1 h.2
  exact ⟨f3,zJO f1⟩
 ·exact ⟨by simp [viewErr],fun c hc=>by cases hc⟩
theorem zP6 (N:Nat) (hN:100200 < N) (s:SrcT) (hs:srcOk s):Tot (fun r:GridT×GridT×SrcT=>gOkS r.1/\gOkS r.2.1) (zBR N s):=by
 unfold zBR
 refine Tot.bind (nT N s 5 hs (by omega)) fun a ha=>?_
 have ha1:=ha.2.1
 have ha2:=ha.2.2.2 (by omega)
 refine Tot.bind (nT N _ 12 ha.1 (by omega)) fun b hb=>?_
 have hb1:=hb.2.1
 have hb2:=hb.2.2.2 (by omega)
 refine Tot.bind (nT N _ 4 hb.1 (by omega)) fun c hc=>?_
 have hc2:=hc.2.2.2 (by omega)
 refine Tot.bind (zEE N _ _ hc.1 hc.2.1 (by omega) (by omega)) fun p hp=>?_
 have hpl:=hp.2
 refine Tot.bind (zJE N (by omega) _ hp.1) fun sm hsm=>?_
 have hsl:=hsm.2
 rw [zC3 (by omega) (by omega),zC3 (by omega) (by omega),(zI3 N (by omega) p.1 sm.1 false (1+a.1) (2+b.1) (by omega) (by omega) (by omega) (by omega)).2,zA2]
 refine Tot.bind (zNQ N (by omega) _ hsm.1) fun bf hbf=>?_
 have hbl:bf.1.1.length<=1000:=hbf.2
 refine Tot.bind (nT N _ 4 hbf.1 (by omega)) fun c2 hc2'=>?_
 have hc22:=hc2'.2.2.2 (by omega)
 refine Tot.bind (zEE N _ _ hc2'.1 hc2'.2.1 (by omega) (by omega)) fun p2 hp2=>?_
 have hpl2:=hp2.2
 refine Tot.bind (oneT N _ 2 hp2.1 (by omega)) fun o ho=>?_
 rw [(zI3 N (by omega) p2.1 bf.1 o.1 (1+a.1) (2+b.1) (by omega) (by omega) (by omega) (by omega)).2,zA2]
 have v1:=zGF p.1 sm.1 false (1+a.1) (2+b.1)
 have v2:=zGF p2.1 bf.1 o.1 (1+a.1) (2+b.1)
 refine Tot.bind (oneT N _ 15 ho (by omega)) fun o2 ho2=>?_
 refine Tot.both (Tot.bind (zHZ N (by omega) _ ho2) fun g hg=>Tot.ret ⟨hg.2,v2⟩) ?_
 refine Tot.bind (oneT N _ 15 ho2 (by omega)) fun o3 ho3=>?_
 exact Tot.both (Tot.bind (zHZ N (by omega) _ ho3) fun g hg=>Tot.ret ⟨v1,hg.2⟩) (Tot.ret ⟨v1,v2⟩)
end Go.AE.F
