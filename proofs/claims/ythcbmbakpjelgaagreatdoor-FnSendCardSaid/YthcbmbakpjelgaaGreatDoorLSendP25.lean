/- Plain laws of those functions. -/
import Derived.Test.YthcbmbakpjelgaaGreatDoorLSendP24
namespace Go.AE.F
open Go.AE
theorem zJD {p:List Int} {b:BufT} {reg:Bool} {R C:Int} (hv:viewedG p b C=true) (hR:1<=R/\R<=24):flatG (viewOk p b reg R C).1=true/\gridG (viewOk p b reg R C).1=true/\(viewOk p b reg R C).1.2.2.1.length<=1920:=by
 obtain ⟨c1,c2,c3,c4,n,hn,hn2⟩:=zH2 hv
 have hv0:=hv
 unfold viewedG at hv0
 simp only [Bool.and_eq_true,decide_eq_true_eq] at hv0
 obtain ⟨⟨hp,hb⟩,hC⟩:=hv0
 have hpl:=zEJ hp
 obtain ⟨Cn,rfl⟩:∃ Cn:Nat,C=(Cn:Int):=⟨C.toNat,by omega⟩
 obtain ⟨Rn,rfl⟩:∃ Rn:Nat,R=(Rn:Int):=⟨R.toNat,by omega⟩
 have hCn:2<=Cn/\Cn<=80:=by omega
 have hS:=zLK hCn.1 p b reg
 have pts:∀ {l:List Int},ptsG l=true->∀ x∈l,ptG x=true:=fun {l} h x hx=>by
  unfold ptsG at h
  simp only [Bool.and_eq_true,List.all_eq_true] at h
  exact h.2 x hx
 have hG:=zKN Cn (pts hp) (pts (zFF.1 hb).1) reg
 have hw:∀ us∈viewW Rn (topG p b (Rn:Int) (Cn:Int)) (allG p b reg Cn),wR us<=Cn/\∀ u∈us,uOk u:=fun us h=>by
  rcases zGE h with z | z
  ·rw [z];exact ⟨Nat.zero_le _,fun _ h=>by cases h⟩
  ·unfold allG at z
   rcases List.mem_append.1 z with z | z
   ·exact ⟨(hS.1 us z).1,hG.1 us z⟩
   ·have:us=(laidS Cn p b reg).2:=by simpa using z
    rw [this];exact ⟨hS.2.1,hG.2⟩
 have htop:(topG p b (Rn:Int) (Cn:Int):Int)=if 0 < (cursG p b (Cn:Int)).1 - (Rn:Int)+1 then (cursG p b (Cn:Int)).1 - (Rn:Int)+1 else 0:=by
  unfold topG;split <;> omega
 have hlw:=zG5 Rn (topG p b (Rn:Int) (Cn:Int)) (allG p b reg Cn)
 have key:=zHW Rn Cn (by omega) hCn _ hlw (fun us h=>(hw us h).1) (fun us h=>(hw us h).2) ((cursG p b (Cn:Int)).1 - (topG p b (Rn:Int) (Cn:Int):Int)) (cursG p b (Cn:Int)).2.1 (by split at htop <;> omega) (by omega)
 refine ⟨key.1,key.2,?_⟩
 show ((viewW Rn (topG p b (Rn:Int) (Cn:Int)) (allG p b reg Cn)).flatMap (rowPad Cn)).length<=1920
 rw [zFD (fun us h=>(hw us h).1),hlw]
 exact (Nat.mul_le_mul (show Rn<=24 by omega) hCn.2:Rn * Cn<=24 * 80)
theorem zJO {g:GridT} (h:flatG g=true):∀ x∈g.2.2.1,x.1.length<=4:=fun x hx=>by
 obtain ⟨_,_,_,_,_,_,_,_,_,_,hc,_⟩:=zE1 h
 exact (hc x hx).1
theorem zHP (N:Nat) (hN:2100 < N) (g:GridT) (hl:g.2.2.1.length<=2000) (hc:∀ c∈g.2.2.1,c.1.length<=4):zCI N g g=some true:=by
 unfold zCI
 have hb:pBeq g.2.2.2.2.2.1 g.2.2.2.2.2.1=true:=by unfold pBeq;simp
 rw [pEq_t rfl,ifB_t,pEq_t rfl,zA2,ifB_t,zFO N _ _ hl (by omega) (fun c h=>by have:=hc c h;omega),zA2,zA2,decide_eq_true rfl,ifB_t,pEq_t rfl,zA2,ifB_t,pEq_t rfl,zA2,ifB_t,hb,zA2,ifB_t,pEq_t rfl,zA2]
end Go.AE.F
namespace Go.AE.F
open Go.AE
theorem zIW (C:Nat):∀ n,(List.replicate n ([]:List UnitT)).flatMap (rowPad C)=repE (n * C)
 | 0=>by simp
 | n+1=>by
  rw [List.replicate_succ,List.flatMap_cons,zIW C n,zGV,Nat.succ_mul,Nat.add_comm]
  exact List.replicate_append_replicate
theorem zGW {r c:Int} (hr:1<=r/\r<=24) (hc:2<=c/\c<=80):flatG (newG r c)=true/\gridG (newG r c)=true/\(newG r c).1=r/\(newG r c).2.1=c:=by
 obtain ⟨R,rfl⟩:∃ R:Nat,r=(R:Int):=⟨r.toNat,by omega⟩
 obtain ⟨C,rfl⟩:∃ C:Nat,c=(C:Int):=⟨c.toNat,by omega⟩
 have key:=zHW R C (by omega) (by omega) (List.replicate R []) (by simp) (fun us h=>by rw [(List.mem_replicate.1 h).2];exact Nat.zero_le _) (fun us h u hu=>by rw [(List.mem_replicate.1 h).2] at hu;cases hu) 0 0 (by omega) (by omega)
 rw [zIW] at key
 have e:newG (R:Int) (C:Int)=gV R C (repE (R * C)) 0 0:=by
  unfold newG
  rw [decide_eq_true hr.1,decide_eq_true hr.2,decide_eq_true hc.1,decide_eq_true hc.2,Bool.and_self,Bool.and_self,Bool.and_self,if_pos rfl]
  have:((R:Int) * (C:Int)).toNat=R * C:=by rw [show (R:Int) * (C:Int)=((R * C:Nat):Int) by simp,Int.toNat_natCast]
  rw [this];rfl
 rw [e]
 exact ⟨key.1,key.2,rfl,rfl⟩
theorem pickM (N:Nat) (s:SrcT) (l:List ByteArray) (hs:srcOk s) (h0:0 < l.length) (hk:l.length<=1048576):Tot (fun r:ByteArray×SrcT=>srcOk r.2/\r.1∈l) (zBZ N s l):=by
 obtain ⟨x,s',h1,h2,h3⟩:=zOJ N s l hs h0 hk
 exact ⟨_,h1,h2,h3⟩
theorem zN8 (N:Nat) (hN:10 < N) (p:Int) (h:ptG p=true):Tot (fun b:ByteArray=>b.size<=4) (zAU N [p]):=by
 rw [zEA N [p] (fun x hx=>(List.mem_singleton.1 hx) ▸ h) (by simp) (by simp;omega)]
 refine Tot.ret ?_
 have e:encs [p]=enc p:=by unfold encs;simp
 rw [zDO,e]
 exact zIP p
theorem zJE (N:Nat) (hN:2000 < N) (s:SrcT) (hs:srcOk s) (n:Int) (h0:0<=n) (h1:n<=1000):Tot (fun r:ByteArray×SrcT=>srcOk r.2/\(r.1.size:Int)<=20 * n) (zA8 N s n):=by
 unfold zA8
 refine zEO (fun m (d:Int×ByteArray×SrcT×Unit)=>0<=d.1/\d.1<=n/\d.1<=m/\(d.2.1.size:Int)<=20 * (n - d.1)/\srcOk d.2.2.1) (fun (e:ByteArray×SrcT×Unit)=>srcOk e.2.1/\(e.1.size:Int)<=20 * n) (fun e he=>Tot.ret he) ?_ N n.toNat _ (by omega) ⟨h0,Int.le_refl _,by show n<=((n.toNat:Nat):Int);omega,by show ((ByteArray.mk #[]).size:Int)<=20 * (n - n);have:(ByteArray.mk #[]).size=0:=rfl;omega,hs⟩
 intro m d kn kx ⟨d0,d1,d2,d3,d4⟩ hn hx
 unfold zA8.l2
 simp only []
 refine Tot.ite (fun hh=>?_) (fun hh=>hx _ ⟨d4,by rw [pGt_d] at hh;have:=of_decide_eq_false hh;show (d.2.1.size:Int)<=_;omega⟩)
 have hpos:0 < d.1:=by rw [pGt_d] at hh;exact of_decide_eq_true hh
 refine Tot.bind (P:=fun x:Int×ByteArray×SrcT×Unit=>x.1=d.1/\srcOk x.2.2.1/\x.2.1.size<=d.2.1.size+20) ?_ fun x ⟨x1,x2,x3⟩=>hn (m - 1) _ (by omega) ⟨?_,?_,?_,?_,x2⟩
 ·have sz:∀ {a b:ByteArray},(pCat a b).size=a.size+b.size:=fun {a b}=>zD3 a b
  have c2:(ByteArray.mk #[27,91]).size=2:=rfl
  have c1:(ByteArray.mk #[59]).size=1:=rfl
  have c72:(ByteArray.mk #[72]).size=1:=rfl
  have hd:d.2.1.size<=20000:=by omega
  have fit:∀ {a b:ByteArray} {A:Type} {P:A->Prop} {o:Option A},a.size+b.size<=68719476736->Tot P o->Tot P (ifB (pFitS a b) o none):=fun {a b A P o} h1 h2=>by rw [zDG h1];exact h2
  refine Tot.bind (nT N _ 12 d4 (by omega)) fun q hq=>?_
  refine Tot.ite (fun _=>?_) fun _=>?_
  ·refine fit (by omega) ?_
   refine Tot.bind (nT N _ 5 hq.1 (by omega)) fun a ha=>?_
   have ha2:=ha.2.2.2 (by omega)
   obtain ⟨an,han⟩:∃ an:Nat,a.1=(an:Int):=⟨a.1.toNat,by have:=ha.2.1;omega⟩
   rw [han,(zDV N an (by omega) (by omega)).2,zA2]
   have hdz:=zD2 an
   refine fit (by rw [sz];omega) ?_
   refine Tot.bind (pickM N _ _ ha.1 (by simp) (by simp)) fun b hb=>?_
   have hbz:b.1.size<=8:=(by decide:∀ x∈[(ByteArray.mk #[65]),(ByteArray.mk #[66]),(ByteArray.mk #[67]),(ByteArray.mk #[68]),(ByteArray.mk #[74]),(ByteArray.mk #[75]),(ByteArray.mk #[109]),(ByteArray.mk #[109]),(ByteArray.mk #[120])],x.size<=8) b.1 hb.2
   refine fit (by rw [sz,sz];omega) (Tot.ret ⟨rfl,hb.1,?_⟩)
   show (pCat (pCat (pCat d.2.1 _) _) _).size<=_
   rw [sz,sz,sz];omega
  refine Tot.ite (fun _=>?_) fun _=>?_
  ·refine fit (by omega) ?_
   refine Tot.bind (nT N _ 6 hq.1 (by omega)) fun a ha=>?_
   have ha2:=ha.2.2.2 (by omega)
   obtain ⟨an,han⟩:∃ an:Nat,a.1=(an:Int):=⟨a.1.toNat,by have:=ha.2.1;omega⟩
   rw [han,(zDV N an (by omega) (by omega)).2,zA2]
   have hdz:=zD2 an
   refine fit (by rw [sz];omega) (fit (by rw [sz,sz];omega) ?_)
   refine Tot.bind (nT N _ 9 ha.1 (by omega)) fun b hb=>?_
   have hb2:=hb.2.2.2 (by omega)
   obtain ⟨bn,hbn⟩:∃ bn:Nat,b.1=(bn:Int):=⟨b.1.toNat,by have:=hb.2.1;omega⟩
   rw [hbn,(zDV N bn (by omega) (by omega)).2,zA2]
   have hdz2:=zD2 bn
   refine fit (by rw [sz,sz,sz];omega) (fit (by rw [sz,sz,sz,sz];omega) (Tot.ret ⟨rfl,hb.1,?_⟩))
   show (pCat (pCat (pCat (pCat (pCat d.2.1 _) _) _) _) _).size<=_
   rw [sz,sz,sz,sz,sz];omega
  refine Tot.ite (fun _=>?_) fun _=>?_
  ·refine Tot.bind (pickM N _ _ hq.1 (by simp) (by simp)) fun b hb=>?_
   have hbz:b.1.size<=8:=(by decide:∀ x∈[(ByteArray.mk #[13]),(ByteArray.mk #[10]),(ByteArray.mk #[8]),(ByteArray.mk #[13,10]),(ByteArray.mk #[27,120]),(ByteArray.mk #[27,91]),(ByteArray.mk #[27,91,59,72]),(ByteArray.mk #[27,91,49,50,51,52,53,65]),(ByteArray.mk #[127]),(ByteArray.mk #[0])],x.size<=8) b.1 hb.2
   refine fit (by omega) (Tot.ret ⟨rfl,hb.1,?_⟩)
   show (pCat d.2.1 _).size<=_
   rw [sz];omega
  have letter:∀ (base k:Int),0<=base->base+k<=50000->1 < k->Tot (fun x:Int×ByteArray×SrcT×Unit=>x.1=d.1/\srcOk x.2.2.1/\x.2.1.size<=d.2.1.size+20) (
    bindO (zAC N q.2 k) fun y58 =>
    bindO (zAU N [(pAdd Go.IntKind.i64 base y58.1)]) fun y59 =>
    ifB (pFitS d.2.1 y59) (
     some (d.1,(pCat d.2.1 y59),y58.2,())) (
     none)):=fun base k hb0 hbk hk=>by
   refine Tot.bind (nT N _ k hq.1 (by omega)) fun a ha=>?_
   have ha1:=ha.2.1
   have ha2:=ha.2.2.2 hk
   rw [zC6 (by omega) (by omega)]
   refine Tot.bind (zN8 N (by omega) _ ?_) fun t ht=>fit (by omega) (Tot.ret ⟨rfl,ha.1,?_⟩)
   ·unfold ptG
    simp only [Bool.and_eq_true,decide_eq_true_eq,Bool.not_eq_true',Bool.and_eq_false_iff,decide_eq_false_iff_not]
    omega
   ·show (pCat d.2.1 _).size<=_
    rw [sz];omega
  refine Tot.ite (fun _=>letter 19968 20 (by omega) (by omega) (by omega)) fun _=>?_
  exact Tot.ite (fun _=>letter 768 9 (by omega) (by omega) (by omega)) fun _=>letter 97 26 (by omega) (by omega) (by omega)
 ·show 0<=pSub .i64 x.1 1;rw [x1,zCX (by omega) (by omega)];omega
 ·show pSub .i64 x.1 1<=_;rw [x1,zCX (by omega) (by omega)];omega
 ·show pSub .i64 x.1 1<=_;rw [x1,zCX (by omega) (by omega)];omega
 ·show (x.2.1.size:Int)<=20 * (n - pSub .i64 x.1 1);rw [x1,zCX (by omega) (by omega)];omega
def gOkS (g:GridT):Prop:=g.2.2.1.length<=1920/\∀ c∈g.2.2.1,c.1.length<=4
theorem zHY {cs:List CellT} (h:∀ c∈cs,c.1.length<=4) (i:Int) {x:CellT} (hx:x.1.length<=4):∀ c∈pSet cs i x,c.1.length<=4:=fun c hc=>by
 unfold pSet at hc
 rcases List.mem_or_eq_of_mem_set hc with z | z
 ·exact h c z
 ·rw [z];exact hx
theorem zIA (N:Nat) (hN:100000 < N) (s:SrcT) (hs:srcOk s):Tot (fun r:GridT×SrcT=>srcOk r.2/\gOkS r.1) (zBL N s):=by
 have body:∀ (g0:GridT) (q:SrcT),gridG g0=true->srcOk q->Tot (fun r:GridT×SrcT=>srcOk r.2/\gOkS r.1) (
  bindO (zAC N q (pAdd Go.IntKind.i64 20 (pMul Go.IntKind.i64 4 q.2.2.2.1))) fun y37 =>
  bindO (zA8 N y37.2 y37.1) fun y38 =>
  bindO (zAF N g0 y38.1) fun y39 =>
  bindO (zBC N y38.2 15) fun y40 =>
  ifB y40.1 (
   bindO (zAC N y40.2 5) fun y41 =>
   ifB (pEq y41.1 0) (
    some ((y39.1,(y39.2.1,(y39.2.2.1,(y39.1,y39.2.2.2.2)))),y41.2)) (
    ifB (pEq y41.1 1) (
     some ((y39.1,(y39.2.1,(y39.2.2.1,(y39.2.2.2.1,(y39.2.2.2.2.1,((pNot y39.2.2.2.2.2.1),y39.2.2.2.2.2.2)))))),y41.2)) (
     ifB (pEq y41.1 2) (
      bindO (idx y39.2.2.1 0) fun y42 =>
      bindO (idx y39.2.2.1 0) fun y43 =>
      some ((y39.1,(y39.2.1,((pSet y39.2.2.1 0 (y43.1,(4,y43.2.2))),y39.2.2.2))),y41.2)) (
      ifB (pEq y41.1 3) (
       bindO (idx y39.2.2.1 (pSub Go.IntKind.i64 (pLen y39.2.2.1) 1)) fun y44 =>
       bindO (idx y39.2.2.1 (pSub Go.IntKind.i64 (pLen y39.2.2.1) 1)) fun y45 =>
       some ((y39.1,(y39.2.1,((pSet y39.2.2.1 (pSub Go.IntKind.i64 (pLen y39.2.2.1) 1) ([19968],y45.2)),y39.2.2.2))),y41.2)) (
       some ((y39.1,((pAdd Go.IntKind.i64 y39.2.1 1),y39.2.2)),y41.2)))))) (
   some (y39,y40.2))):=fun g0 q hg hq=>by
  have hz:=hq.2.2.2
  have e1:pMul .i64 4 q.2.2.2.1=4 * q.2.2.2.1:=zDA (by omega) (by omega)
  rw [e1,zC6 (by omega) (by omega)]
  refine Tot.bind (nT N _ _ hq (by omega)) fun a ha=>?_
  have ha1:=ha.2.1
  have ha2:=ha.2.2.2 (by omega)
  refine Tot.bind (zJE N (by omega) _ ha.1 a.1 ha1 (by omega)) fun b hb=>?_
  have hb2:=hb.2
  refine Tot.bind (zNB N hN g0 hg b.1 (by omega)) fun g ⟨g1,g2,g3⟩=>?_
  refine Tot.bind (oneT N _ 15 hb.1 (by omega)) fun o ho=>?_
  have same:gOkS g:=⟨g2,g3⟩
  refine Tot.both ?_ (Tot.ret ⟨ho,same⟩)
  refine Tot.bind (nT N _ 5 ho (by omega)) fun c hc=>?_
  refine Tot.both (Tot.ret ⟨hc.1,g2,g3⟩) (Tot.both (Tot.ret ⟨hc.1,g2,g3⟩) (Tot.both ?_ (Tot.both ?_ (Tot.ret ⟨hc.1,g2,g3⟩))))
  ·obtain ⟨x,hx,hm⟩:=idxT g.2.2.1 0 (by omega) (by omega)
   rw [hx,zA2,zA2]
   exact Tot.ret ⟨hc.1,by show (pSet g.2.2.1 0 _).length<=_;simp [pSet];omega,zHY g3 0 (g3 x hm)⟩
  ·have el:pSub .i64 (pLen g.2.2.1) 1=((g.2.2.1.length - 1:Nat):Int):=by rw [zCP,zCX (by omega) (by omega)];omega
   rw [el]
   obtain ⟨x,hx,hm⟩:=idxT g.2.2.1 ((g.2.2.1.length - 1:Nat):Int) (by omega) (by omega)
   rw [hx,zA2,zA2]
   exact Tot.ret ⟨hc.1,by show (pSet g.2.2.1 _ _).length<=_;simp [pSet];omega,zHY g3 _ (by simp)⟩
 unfold zBL
 refine Tot.bind (nT N s 4 hs (by omega)) fun a ha=>?_
 have ha1:=ha.2.1
 have ha2:=ha.2.2.2 (by omega)
 refine Tot.bind (nT N _ 8 ha.1 (by omega)) fun b hb=>?_
 have hb1:=hb.2.1
 have hb2:=hb.2.2.2 (by omega)
 rw [zC6 (by omega) (by omega),zC6 (by omega) (by omega),zE7,zA2]
 refine Tot.bind (oneT N _ 40 hb.1 (by omega)) fun o ho=>?_
 refine Tot.both ?_ (body _ _ (zGW (by omega) (by omega)).2.1 ho)
 rw [zE7,zA2]
 exact body _ _ (zGW (by omega) (by omega)).2.1 ho
theorem zJI (N:Nat) (hN:100001 < N) (s:SrcT) (hs:srcOk s):Tot (fun r:BufT×SrcT=>srcOk r.2/\r.1.1.length<=10) (zBJ N s):=by
 unfold zBJ
 refine Tot.bind (nT N s 6 hs (by omega)) fun a ha=>?_
 have ha2:=ha.2.2.2 (by omega)
 refine Tot.bind (zE9 N _ _ ha.1 ha.2.1 (by omega) hN) fun p hp=>?_
 have hpl:=hp.2
 rw [zCP,zC6 (by omega) (by omega)]
 refine Tot.bind (nT N _ _ hp.1 (by omega)) fun c hc=>Tot.ret ⟨hc.1,by show p.1.length<=10;omega⟩
theorem zFZ (p:List Int) (b:BufT) (reg:Bool) (R C:Int):gOkS (viewG p b reg R C).1:=by
 unfold viewG
 split
 ·exact ⟨by simp [viewErr],fun c hc=>by cases hc⟩
 split
 ·rename_i h
  simp only [Bool.and_eq_true,decide_eq_true_eq] at h
  obtain ⟨f1,_,f3⟩:=zJD (reg:=reg) h.1 h.2
  exact ⟨f3,zJO f1⟩
 ·exact ⟨by simp [viewErr],fun c hc=>by cases hc⟩
theorem zOI (N:Nat) (hN:100200 < N) (s:SrcT) (hs:srcOk s):Tot (fun r:GridT×GridT×SrcT=>gOkS r.1/\gOkS r.2.1) (zBR N s):=by
 unfold zBR
 refine Tot.bind (nT N s 5 hs (by omega)) fun a ha=>?_
 have ha1:=ha.2.1
 have ha2:=ha.2.2.2 (by omega)
 refine Tot.bind (nT N _ 12 ha.1 (by omega)) fun b hb=>?_
 have hb1:=hb.2.1
 have hb2:=hb.2.2.2 (by omega)
 refine Tot.bind (nT N _ 4 hb.1 (by omega)) fun c hc=>?_
 have hc2:=hc.2.2.2 (by omega)
 refine Tot.bind (zE9 N _ _ hc.1 hc.2.1 (by omega) (by omega)) fun p hp=>?_
 have hpl:=hp.2
 refine Tot.bind (zJI N (by omega) _ hp.1) fun sm hsm=>?_
 have hsl:=hsm.2
 rw [zC6 (by omega) (by omega),zC6 (by omega) (by omega),(zI6 N (by omega) p.1 sm.1 false (1+a.1) (2+b.1) (by omega) (by omega) (by omega) (by omega)).2,zA2]
 refine Tot.bind (zNM N (by omega) _ hsm.1) fun bf hbf=>?_
 have hbl:bf.1.1.length<=1000:=hbf.2
 refine Tot.bind (nT N _ 4 hbf.1 (by omega)) fun c2 hc2'=>?_
 have hc22:=hc2'.2.2.2 (by omega)
 refine Tot.bind (zE9 N _ _ hc2'.1 hc2'.2.1 (by omega) (by omega)) fun p2 hp2=>?_
 have hpl2:=hp2.2
 refine Tot.bind (oneT N _ 2 hp2.1 (by omega)) fun o ho=>?_
 rw [(zI6 N (by omega) p2.1 bf.1 o.1 (1+a.1) (2+b.1) (by omega) (by omega) (by omega) (by omega)).2,zA2]
 have v1:=zFZ p.1 sm.1 false (1+a.1) (2+b.1)
 have v2:=zFZ p2.1 bf.1 o.1 (1+a.1) (2+b.1)
 refine Tot.bind (oneT N _ 15 ho (by omega)) fun o2 ho2=>?_
 refine Tot.both (Tot.bind (zIA N (by omega) _ ho2) fun g hg=>Tot.ret ⟨hg.2,v2⟩) ?_
 refine Tot.bind (oneT N _ 15 ho2 (by omega)) fun o3 ho3=>?_
 exact Tot.both (Tot.bind (zIA N (by omega) _ ho3) fun g hg=>Tot.ret ⟨v1,hg.2⟩) (Tot.ret ⟨v1,v2⟩)
theorem zGZ (g:GridT) (C:Nat):∀ (m r:Nat) (out:List Int),sendF g g C m r out=out
 | 0,_,_=>rfl
 | m+1,r,out=>by rw [sendF,if_pos rfl,List.append_nil,zGZ g C m]
theorem zJM (g:GridT):sendG g g=ByteArray.mk #[]:=by
 unfold sendG
 split
 ·simp only [zGZ]
  rw [if_neg (by simp)]
  rfl
 ·rfl
theorem zH5 (N:Nat) (g:GridT) (hl:g.2.2.1.length<=2000) (hN:2100 < N) (hc:∀ c∈g.2.2.1,c.1.length<=4):zAZ N g g=some true:=by
 unfold zAZ
 have hb:pBeq g.2.2.2.2.2.1 g.2.2.2.2.2.1=true:=by unfold pBeq;simp
 rw [pNe_f rfl,ifB_f,pNe_f rfl,zA2,ifB_f,pNe_f rfl,zA2,ifB_f,pNe_f rfl,zA2,ifB_f,hb,zCZ,Bool.not_true,zA2,ifB_f,pNe_f rfl,zA2,ifB_f,zCP,pNe_f rfl,zA2,ifB_f]
 refine (zDS (step:=zAZ.l4 N) (fun i=>((i:Int),g,g,())) g.2.2.1.length _ (.inl ()) (fun i kn hi=>?_) (fun kn=>?_) N (by omega)).trans rfl
 ·unfold zAZ.l4
  simp only [zCP]
  have hci:=hc _ (List.getElem_mem hi)
  rw [pLt_t (by omega),ifB_t,zCT hi,zA2,zA2,pNe_f rfl,ifB_f,zA2,zA2,zEX N _ _ (by omega) (by omega),zA2,decide_eq_true rfl,zCZ,Bool.not_true,ifB_f,zC6 (by omega) (by omega)]
  rfl
 ·unfold zAZ.l4
  simp only [zCP]
  rw [pLt_f (by omega),ifB_f]
theorem pure_FnSend (a:List Int) (_h:a.length<=9223372036854775807/\∀ x∈a,IntKind.u8.min<=x/\x<=IntKind.u8.max):∃ N,zCS N a=some true:=by
 refine ⟨1048700,?_⟩
 unfold zCS
 rw [zCP]
 by_cases ha:1048576 < a.length
 ·rw [pGt_t (by omega),ifB_t]
 rw [pGt_f (by omega),ifB_f]
 have hd:Tot (fun r:GridT×GridT=>gOkS r.1/\gOkS r.2) (zCL 1048700 a):=by
  unfold zCL
  obtain ⟨s,h1,hs⟩:=zN5 1048700 a (by omega) (by omega)
  rw [h1,zA2]
  exact Tot.bind (zOI 1048700 (by omega) s hs) fun r hr=>Tot.ret hr
 obtain ⟨⟨o,g⟩,hd,ho,hg⟩:=hd
 simp only at ho hg
 rw [hd,zA2]
 simp only []
 have lo:=ho.1
 have lg:=hg.1
 have co:∀ x∈o.2.2.1,x.1.length<=1048576/\x.1.length+20 < 1048700:=fun x hx=>by have:=ho.2 x hx;omega
 have cg:∀ x∈g.2.2.1,x.1.length<=1048576/\x.1.length+20 < 1048700:=fun x hx=>by have:=hg.2 x hx;omega
 obtain ⟨s1,s2⟩:=zI2 1048700 (by omega) o g (by omega) (by omega) cg co
 obtain ⟨s3,_⟩:=zI2 1048700 (by omega) g g (by omega) (by omega) cg cg
 have hcost:zCH 1048700 o g=some (pSize (sendG o g)):=by unfold zCH;rw [s1,zA2]
 rw [s1,zA2,s2,zA2,zHT,zCZ,Bool.not_true,ifB_f,hcost,zA2,pNe_f rfl,zA2,ifB_f,zDF _ o (by omega) (by omega),zA2,zCZ]
 cases fo:flatG o with
 | false=>simp only [Bool.not_false,ifB_t,zA2]
 | true =>
 rw [Bool.not_true,ifB_f,zDF _ g (by omega) (by omega),zA2,zCZ]
 cases fg:flatG g with
 | false=>simp only [Bool.not_false,ifB_t,zA2]
 | true =>
 rw [Bool.not_true,zA2,ifB_f]
 by_cases e1:o.1=g.1
 ·rw [pNe_f e1,zA2,ifB_f]
  by_cases e2:o.2.1=g.2.1
  ·rw [pNe_f e2,zA2,ifB_f]
   have hps:pSize (sendG o g)=((sendG o g).size:Int):=rfl
   by_cases hz:20000 < (sendG o g).size
   ·rw [hps,pGt_t (by omega),zA2,ifB_t]
   ·rw [hps,pGt_f (by omega),zA2,ifB_f,zNO 1048700 (by omega) o g fo fg e1 e2 (by omega),zA2,zHP _ (by omega) g (by omega) hg.2,zA2,ifB_t,zA2,zH5 _ g (by omega) (by omega) hg.2,zA2,ifB_t,s3,zA2,zJM,zHT]
  ·rw [pNe_t e2];simp only [zA2,ifB_t]
 ·rw [pNe_t e1];simp only [zA2,ifB_t]
end Go.AE.F
