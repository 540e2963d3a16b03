/- Plain laws of those functions. -/
import Derived.Test.YthcbmbakpjelgaaGreatDoorLSendP7
namespace Go.AE.F
open Go.AE
theorem zEM (b:ByteArray):(strInts b).length=b.size:=by unfold strInts;rw [List.length_map];rfl
theorem zDO (l:List Int):(bytesOf l).size=l.length:=by unfold bytesOf;simp [ByteArray.size]
theorem zD8 (a b:ByteArray):strInts (pCat a b)=strInts a ++ strInts b:=by
 unfold strInts pCat
 rw [← List.map_append]
 congr 1
theorem zD3 (a b:ByteArray):(pCat a b).size=a.size+b.size:=ByteArray.size_append
theorem zDG {a b:ByteArray} (h:a.size+b.size<=68719476736):pFitS a b=true:=decide_eq_true h
def attrS (a:Int):List Int:=strInts (pCat (pCat (ByteArray.mk #[27,91]) (decG a.toNat)) (ByteArray.mk #[109]))
def rowStep (s:Int×List Int) (c:CellT):Int×List Int :=
 if c.1=[] then s else if c.2.1=s.1 then (s.1,s.2 ++ strInts (bytesOf (encs c.1))) else (c.2.1,s.2 ++ attrS c.2.1 ++ strInts (bytesOf (encs c.1)))
def cellOk (c:CellT):Prop:=c.1.length<=4/\0<=c.2.1/\c.2.1<=3/\∀ x∈c.1,ptG x=true
theorem zNH {c:CellT} (h:cellG c=true):cellOk c:=by
 unfold cellG at h
 simp only [Bool.and_eq_true,decide_eq_true_eq,List.all_eq_true,List.mem_range] at h
 obtain ⟨⟨⟨h1,h2⟩,h3⟩,h4⟩:=h
 refine ⟨h1,h2,h3,fun x hx=>?_⟩
 obtain ⟨i,hi,e⟩:=List.mem_iff_getElem.1 hx
 have:=h4 i hi
 rw [zEB hi,e] at this
 unfold okP at this
 simp only [Bool.and_eq_true] at this
 exact this.1.1
theorem zGF (a:Int):(attrS a).length<=5:=by
 unfold attrS
 rw [zEM,zD3,zD3]
 have:=zD2 a.toNat
 have e1:(ByteArray.mk #[27,91]).size=2:=rfl
 have e2:(ByteArray.mk #[109]).size=1:=rfl
 omega
theorem zG1 {c:CellT} (h:cellOk c):(strInts (bytesOf (encs c.1))).length<=16:=by
 rw [zEM,zDO]
 have:=zH4 c.1
 have:=h.1
 omega
theorem zHF (N:Nat) (hN:200 < N) (cs:List CellT) (hl:cs.length<=2000) (i:Nat) (hi:i < cs.length) (hc:cellOk cs[i]) (attr:Int) (out:List Int) (ho:out.length<=1000000) {R:Type} (kn:_->Option R) (kx:_->Option R) :
  zAH.l5 N (attr,cs,(cs.length:Int),(i:Int),([],(out,())),()) kn kx=kn ((rowStep (attr,out) cs[i]).1,cs,(cs.length:Int),((i+1:Nat):Int),([],((rowStep (attr,out) cs[i]).2,())),()):=by
 have e2:pAdd .i64 (i:Int) 1=((i+1:Nat):Int):=zC6 (by omega) (by omega)
 have hd:=zD2 cs[i].2.1.toNat
 have h1:=zGF cs[i].2.1
 have h2:=zG1 hc
 obtain ⟨hc1,hc2,hc3,hc4⟩:=hc
 unfold zAH.l5 rowStep
 simp only []
 rw [pLt_t (by omega),ifB_t,zCT hi,zA2,zF3,zA2]
 by_cases he:cs[i].1=[]
 ·simp only [he,decide_true,ifB_t,zA2,if_true,e2]
 ·simp only [he,decide_false,ifB_f,if_false,pNe_d]
  by_cases ha:cs[i].2.1=attr
  ·simp only [ha,decide_true,Bool.not_true,ifB_f,if_true]
   rw [zF6 N _ hc4 (by omega) (by omega),zA2,zD0 (by omega),ifB_t,zA2]
   simp only [e2];rfl
  ·simp only [ha,decide_false,Bool.not_false,ifB_t,if_false]
   obtain ⟨d1,_⟩:=zDV N cs[i].2.1.toNat (by omega) (by omega)
   have e0:((cs[i].2.1.toNat:Nat):Int)=cs[i].2.1:=by omega
   rw [e0] at d1
   have e1:(ByteArray.mk #[27,91]).size=2:=rfl
   have e3:(ByteArray.mk #[109]).size=1:=rfl
   rw [d1,zA2,zDG (by omega),ifB_t,zDG (by rw [zD3];omega),ifB_t]
   show (bindO (ifB (pFit out (attrS cs[i].2.1)) (bindO (zB9 N cs[i].1) fun y42=>ifB (pFit (pApp out (attrS cs[i].2.1)) (strInts y42)) (some (cs[i].2.1,cs,(cs.length:Int),(i:Int),(([]:List Unit),((pApp (pApp out (attrS cs[i].2.1)) (strInts y42)),())),())) none) none) _)=_
   rw [zD0 (by omega),ifB_t,zF6 N _ hc4 (by omega) (by omega),zA2,zD0 (by show (out ++ attrS cs[i].2.1).length+_<=_;rw [List.length_append];omega),ifB_t,zA2]
   simp only [e2];rfl
theorem zF7 (s:Int×List Int) {c:CellT} (h:cellOk c):(rowStep s c).2.length<=s.2.length+21:=by
 have h1:=zGF c.2.1
 have h2:=zG1 h
 unfold rowStep
 split
 ·omega
 split
 ·rw [List.length_append];omega
 ·rw [List.length_append,List.length_append];omega
theorem zHH (N:Nat) (hN:200 < N) (cs:List CellT) (hl:cs.length<=2000) (hc:∀ c∈cs,cellOk c) {R:Type} (k:_->Option R):∀ (m i f:Nat) (attr:Int) (out:List Int),cs.length - i=m->i<=cs.length->m < f->out.length+21 * m<=1000000 ->
  loopP (zAH.l5 N) f (attr,cs,(cs.length:Int),(i:Int),([],(out,())),()) k=k (((cs.drop i).foldl rowStep (attr,out)).1,([],(((cs.drop i).foldl rowStep (attr,out)).2,())),()):=by
 intro m
 induction m with
 | zero =>
  intro i f attr out hm hi hf ho
  obtain ⟨f,rfl⟩:=zCU hf
  rw [zCO];unfold zAH.l5;simp only []
  rw [pLt_f (by omega),ifB_f,List.drop_eq_nil_of_le (by omega)];rfl
 | succ m ih =>
  intro i f attr out hm hi hf ho
  obtain ⟨f,rfl⟩:=zCU hf
  have hlt:i < cs.length:=by omega
  have hcc:=hc _ (List.getElem_mem hlt)
  have:=zF7 (attr,out) hcc
  rw [zCO,zHF N hN cs hl i hlt hcc attr out (by omega),zDX hlt,List.foldl_cons]
  exact ih (i+1) f _ _ (by omega) (by omega) (by omega) (by simp only [] at this;omega)
theorem zHO (N:Nat) (hN:200 < N) (g:GridT) (C r c:Nat) (hC:g.2.1=(C:Int)) (h2:2<=C/\C<=80) (hl:g.2.2.1.length<=2000) (hlt:r * C+c < g.2.2.1.length) (hcC:c < C) (hc:cellOk (cellD g (r * C+c))) (attr:Int) (out:List Int) (ho:out.length<=1000000) {R:Type} (kn:_->Option R) (kx:_->Option R) :
  zBD.l4 N ((r:Int),attr,(c:Int),g,out,()) kn kx=kn ((r:Int),(rowStep (attr,out) (cellD g (r * C+c))).1,((c+1:Nat):Int),g,(rowStep (attr,out) (cellD g (r * C+c))).2,()):=by
 have e2:pAdd .i64 (c:Int) 1=((c+1:Nat):Int):=zC6 (by omega) (by omega)
 have e0:((r * C:Nat):Int)=(r:Int) * (C:Int):=by push_cast;rfl
 have e1:pAdd .i64 (pMul .i64 (r:Int) g.2.1) (c:Int)=((r * C+c:Nat):Int):=by
  rw [hC,zDA (by omega) (by omega),zC6 (by omega) (by omega)];push_cast;rfl
 have hx:idx g.2.2.1 (((r * C+c:Nat)):Int)=some (cellD g (r * C+c)):=by rw [zCT hlt,zD5 hlt]
 generalize cellD g (r * C+c)=q at *
 have hd:=zD2 q.2.1.toNat
 have h3:=zGF q.2.1
 have h4:=zG1 hc
 obtain ⟨hc1,hc2,hc3,hc4⟩:=hc
 unfold zBD.l4 rowStep
 simp only []
 rw [pLt_t (by omega),ifB_t,e1,hx,zA2,zCP,pEq_d]
 by_cases he:q.1=[]
 ·simp only [he,List.length_nil,Int.natCast_zero,decide_true,ifB_t,zA2,if_true,e2]
 ·have hne:¬ ((q.1.length:Int)=0):=by
   have:0 < q.1.length:=List.length_pos_iff.2 he
   omega
  simp only [he,hne,decide_false,ifB_f,if_false,pNe_d]
  by_cases ha:q.2.1=attr
  ·simp only [ha,decide_true,Bool.not_true,ifB_f,if_true]
   rw [zEA N _ hc4 (by omega) (by omega),zA2,zD0 (by omega),ifB_t,zA2]
   simp only [e2];rfl
  ·simp only [ha,decide_false,Bool.not_false,ifB_t,if_false]
   obtain ⟨_,d1⟩:=zDV N q.2.1.toNat (by omega) (by omega)
   have e4:((q.2.1.toNat:Nat):Int)=q.2.1:=by omega
   rw [e4] at d1
   have e5:(ByteArray.mk #[27,91]).size=2:=rfl
   have e6:(ByteArray.mk #[109]).size=1:=rfl
   rw [d1,zA2,zDG (by omega),ifB_t,zDG (by rw [zD3];omega),ifB_t]
   show (bindO (ifB (pFit out (attrS q.2.1)) (bindO (zAU N q.1) fun y42=>ifB (pFit (pApp out (attrS q.2.1)) (strInts y42)) (some ((r:Int),q.2.1,(c:Int),g,(pApp (pApp out (attrS q.2.1)) (strInts y42)),())) none) none) _)=_
   rw [zD0 (by omega),ifB_t,zEA N _ hc4 (by omega) (by omega),zA2,zD0 (by show (out ++ attrS q.2.1).length+_<=_;rw [List.length_append];omega),ifB_t,zA2]
   simp only [e2];rfl
def gRow (g:GridT) (C r:Nat):List CellT:=(g.2.2.1.take ((r+1) * C)).drop (r * C)
theorem zDQ {g:GridT} {C r:Nat} (h:(r+1) * C<=g.2.2.1.length):(gRow g C r).length=C:=by
 unfold gRow
 have:(r+1) * C=r * C+C:=Nat.succ_mul r C
 rw [List.length_drop,List.length_take];omega
theorem zFW {g:GridT} {C r c:Nat} (h:(r+1) * C<=g.2.2.1.length) (hc:c < C):(gRow g C r)[c]'(by rw [zDQ h];exact hc)=cellD g (r * C+c):=by
 have:(r+1) * C=r * C+C:=Nat.succ_mul r C
 rw [zD5 (by omega)]
 unfold gRow
 simp
theorem zFE {g:GridT} {C r:Nat} {c:CellT} (h:c∈gRow g C r):c∈g.2.2.1:=List.mem_of_mem_take (List.mem_of_mem_drop h)
theorem zHK (N:Nat) (hN:200 < N) (g:GridT) (C r:Nat) (hC:g.2.1=(C:Int)) (h2:2<=C/\C<=80) (hl:g.2.2.1.length<=2000) (hr:(r+1) * C<=g.2.2.1.length) (hc:∀ c∈g.2.2.1,cellOk c) {R:Type} (k:_->Option R) :
  ∀ (m c f:Nat) (attr:Int) (out:List Int),c+m=C->m < f->out.length+21 * m<=1000000 ->
  loopP (zBD.l4 N) f ((r:Int),attr,(c:Int),g,out,()) k=k ((((gRow g C r).drop c).foldl rowStep (attr,out)).1,(((gRow g C r).drop c).foldl rowStep (attr,out)).2,()):=by
 have hr2:(r+1) * C=r * C+C:=Nat.succ_mul r C
 have hlen:=zDQ hr
 intro m
 induction m with
 | zero =>
  intro c f attr out hm hf ho
  obtain ⟨f,rfl⟩:=zCU hf
  rw [zCO];unfold zBD.l4;simp only []
  rw [pLt_f (by omega),ifB_f,List.drop_eq_nil_of_le (by omega)];rfl
 | succ m ih =>
  intro c f attr out hm hf ho
  obtain ⟨f,rfl⟩:=zCU hf
  have hcc:cellOk (cellD g (r * C+c)):=by rw [zD5 (by omega)];exact hc _ (List.getElem_mem _)
  have:=zF7 (attr,out) hcc
  rw [zCO,zHO N hN g C r c hC h2 hl (by omega) (by omega) hcc attr out (by omega),zDX (by omega:c < (gRow g C r).length),List.foldl_cons,zFW hr (by omega)]
  exact ih (c+1) f _ _ (by omega) (by omega) (by simp only [] at this;omega)
def headS (r:Nat):List Int:=strInts (pCat (pCat (ByteArray.mk #[27,91]) (decG (r+1))) (ByteArray.mk #[59,49,72,27,91,75]))
def rowL (g:GridT) (C r:Nat):List Int :=
 let s:=(gRow g C r).foldl rowStep (0,headS r)
 if s.1=0 then s.2 else s.2 ++ strInts (ByteArray.mk #[27,91,48,109])
theorem zFY (r:Nat):(headS r).length<=10:=by
 unfold headS
 rw [zEM,zD3,zD3]
 have:=zD2 (r+1)
 have e1:(ByteArray.mk #[27,91]).size=2:=rfl
 have e2:(ByteArray.mk #[59,49,72,27,91,75]).size=6:=rfl
 omega
theorem zFX:∀ (l:List CellT) (s:Int×List Int),(∀ c∈l,cellOk c)->(l.foldl rowStep s).2.length<=s.2.length+21 * l.length
 | [],s,_=>by simp
 | c::l,s,h=>by
  have h1:=zF7 s (h c (by simp))
  have h2:=zFX l (rowStep s c) (fun x hx=>h x (by simp [hx]))
  rw [List.foldl_cons,List.length_cons]
  omega
theorem zHL (g:GridT) (C r:Nat) (hr:(r+1) * C<=g.2.2.1.length) (h2:C<=80) (hc:∀ c∈g.2.2.1,cellOk c):(rowL g C r).length<=1700:=by
 have h1:=zFX (gRow g C r) (0,headS r) (fun c h=>hc c (zFE h))
 rw [zDQ hr] at h1
 have h3:=zFY r
 have e2:(strInts (ByteArray.mk #[27,91,48,109])).length=4:=rfl
 unfold rowL
 simp only [] at h1 ⊢
 split
 ·omega
 ·rw [List.length_append];omega
theorem zGL (N:Nat) (hN:200 < N) (g:GridT) (C r:Nat) (hC:g.2.1=(C:Int)) (h2:2<=C/\C<=80) (hl:g.2.2.1.length<=2000) (hr:(r+1) * C<=g.2.2.1.length) (hr2:r < 24) (hc:∀ c∈g.2.2.1,cellOk c) :
  zBD N g (r:Int)=some (rowL g C r):=by
 have hh:=zFY r
 have hf:=zFX (gRow g C r) (0,headS r) (fun c h=>hc c (zFE h))
 rw [zDQ hr] at hf
 obtain ⟨_,d1⟩:=zDV N (r+1) (by omega) (by omega)
 have e1:pAdd .i64 (r:Int) 1=((r+1:Nat):Int):=zC6 (by omega) (by omega)
 have e5:(ByteArray.mk #[27,91]).size=2:=rfl
 have e6:(ByteArray.mk #[59,49,72,27,91,75]).size=6:=rfl
 have e7:(strInts (ByteArray.mk #[27,91,48,109])).length=4:=rfl
 have hd:=zD2 (r+1)
 unfold zBD
 rw [e1,d1,zA2,zDG (by omega),ifB_t,zDG (by rw [zD3];omega),ifB_t]
 refine Eq.trans (zHK N hN g C r hC h2 hl hr hc _ C 0 N 0 (headS r) (by omega) (by omega) (by omega)) ?_
 rw [List.drop_zero]
 unfold rowL
 simp only [pNe_d] at hf ⊢
 by_cases h0:((gRow g C r).foldl rowStep (0,headS r)).1=0
 ·rw [decide_eq_true h0,if_pos h0];rfl
 ·rw [decide_eq_false h0,if_neg h0,Bool.not_false,ifB_t,zD0 (by omega),ifB_t];rfl
theorem zJ0 (N:Nat) (hN:4<=N) (r c:Nat) (hr:r < 80) (hc:c < 80):zCV N (r:Int) (c:Int)=some (pCat (pCat (pCat (pCat (ByteArray.mk #[27,91]) (decG (r+1))) (ByteArray.mk #[59])) (decG (c+1))) (ByteArray.mk #[72])):=by
 obtain ⟨d1,_⟩:=zDV N (r+1) (by omega) hN
 obtain ⟨d2,_⟩:=zDV N (c+1) (by omega) hN
 have h1:=zD2 (r+1)
 have h2:=zD2 (c+1)
 have e5:(ByteArray.mk #[27,91]).size=2:=rfl
 have e6:(ByteArray.mk #[59]).size=1:=rfl
 have e7:(ByteArray.mk #[72]).size=1:=rfl
 unfold zCV
 rw [zC6 (by omega) (by omega),zC6 (by omega) (by omega),show (r:Int)+1=((r+1:Nat):Int) by omega,show (c:Int)+1=((c+1:Nat):Int) by omega,d1,d2,zA2,zA2,
  zDG (by omega),ifB_t,zDG (by rw [zD3];omega),ifB_t,zDG (by rw [zD3,zD3];omega),ifB_t,zDG (by rw [zD3,zD3,zD3];omega),ifB_t]
theorem zG3 (N:Nat) (hN:200 < N) (g:GridT) (C r:Nat) (hC:g.2.1=(C:Int)) (h2:2<=C/\C<=80) (hl:g.2.2.1.length<=2000) (hr:(r+1) * C<=g.2.2.1.length) (hr2:r < 24) (hc:∀ c∈g.2.2.1,cellOk c) :
  zAH N g (r:Int)=some (bytesOf (rowL g C r)):=by
 have hh:=zFY r
 have hf:=zFX (gRow g C r) (0,headS r) (fun c h=>hc c (zFE h))
 rw [zDQ hr] at hf
 have hr3:(r+1) * C=r * C+C:=Nat.succ_mul r C
 have hd:=zD2 (r+1)
 have hd2:=zD2 (0+1)
 have e5:(ByteArray.mk #[27,91]).size=2:=rfl
 have e6:(ByteArray.mk #[59]).size=1:=rfl
 have e7:(ByteArray.mk #[72]).size=1:=rfl
 have e8:(ByteArray.mk #[27,91,75]).size=3:=rfl
 have e9:(strInts (ByteArray.mk #[27,91,48,109])).length=4:=rfl
 have g1:=zJ0 N (by omega) r 0 (by omega) (by omega)
 rw [show ((0:Nat):Int)=0 from rfl] at g1
 have ehead:strInts (pCat (pCat (pCat (pCat (pCat (ByteArray.mk #[27,91]) (decG (r+1))) (ByteArray.mk #[59])) (decG (0+1))) (ByteArray.mk #[72])) (ByteArray.mk #[27,91,75]))=headS r:=by
  unfold headS
  simp only [zD8,List.append_assoc]
  rfl
 have ec0:((r * C:Nat):Int)=(r:Int) * (C:Int):=by push_cast;rfl
 have ec1:(((r+1) * C:Nat):Int)=((r:Int)+1) * (C:Int):=by push_cast;rfl
 have m0:pMul .i64 (r:Int) g.2.1=((r * C:Nat):Int):=by rw [hC,zDA (by omega) (by omega)];omega
 have m1:pMul .i64 (pAdd .i64 (r:Int) 1) g.2.1=(((r+1) * C:Nat):Int):=by rw [hC,zC6 (by omega) (by omega),zDA (by omega) (by omega)];omega
 have hsub:sub g.2.2.1 ((r * C:Nat):Int) (((r+1) * C:Nat):Int)=gRow g C r:=by unfold sub gRow;rw [Int.toNat_natCast,Int.toNat_natCast]
 unfold zAH
 rw [g1,zA2,zDG (by simp only [zD3];omega),ifB_t,ehead,zD0 (by simp only [List.length_nil];omega),ifB_t,m0,m1,pLe_t (by omega),ifB_t,pLe_t (by omega),ifB_t,zCP,pLe_t (by omega),ifB_t,hsub,zCP]
 have e0:pApp ([]:List Int) (headS r)=headS r:=rfl
 rw [e0]
 have hlen:=zDQ hr
 refine Eq.trans (zHH N hN (gRow g C r) (by omega) (fun c h=>hc c (zFE h)) _ C 0 N 0 (headS r) (by omega) (by omega) (by omega) (by omega)) ?_
 rw [List.drop_zero]
 unfold rowL
 simp only [pNe_d] at hf ⊢
 by_cases h0:((gRow g C r).foldl rowStep (0,headS r)).1=0
 ·rw [decide_eq_true h0,if_pos h0];rfl
 ·rw [decide_eq_false h0,if_neg h0,Bool.not_false,ifB_t,zD0 (by omega),ifB_t];rfl
theorem zE1 {g:GridT} (h:flatG g=true):∃ Rn C:Nat,g.1=(Rn:Int)/\g.2.1=(C:Int)/\1<=Rn/\Rn<=24/\2<=C/\C<=80/\g.2.2.1.length=Rn * C/\g.2.2.1.length<=1920/\(∀ c∈g.2.2.1,cellOk c)/\0<=g.2.2.2.1/\g.2.2.2.1<=g.1 - 1/\0<=g.2.2.2.2.1/\g.2.2.2.2.1<=g.2.1 - 1:=by
 unfold flatG gridG at h
 simp only [Bool.and_eq_true] at h
 obtain ⟨⟨⟨⟨hh,ha⟩,_⟩,_⟩,_⟩:=h
 obtain ⟨b1,b2,b3,b4,b5,b6,b7,b8,b9,_⟩:=zD1.1 hh
 have hm:=zEN (a:=g.1) (b:=g.2.1) (by omega) (by omega) (by omega) (by omega)
 have eC:g.2.1=((g.2.1.toNat:Nat):Int):=by omega
 have eR:g.1=((g.1.toNat:Nat):Int):=by omega
 refine ⟨g.1.toNat,g.2.1.toNat,eR,eC,by omega,by omega,by omega,by omega,?_,by omega,fun c hc=>?_,b6,b7,b8,b9⟩
 ·have:((g.1.toNat * g.2.1.toNat:Nat):Int)=g.1 * g.2.1:=by push_cast;rw [← eC,← eR]
  omega
 ·obtain ⟨i,hi,e⟩:=List.mem_iff_getElem.1 hc
  rw [List.all_eq_true] at ha
  have:=ha i (List.mem_range.2 hi)
  unfold nbrG at this
  rw [Bool.and_eq_true,zD5 hi,e] at this
  exact zNH this.1
end Go.AE.F
