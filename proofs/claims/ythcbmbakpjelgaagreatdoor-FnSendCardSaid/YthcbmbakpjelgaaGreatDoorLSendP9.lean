/- Plain laws of those functions. -/
import Derived.Test.YthcbmbakpjelgaaGreatDoorLSendP8
namespace Go.AE.F
open Go.AE
def byteL (l:List Int):Prop:=∀ x∈l,0<=x/\x < 256
theorem zEY {a b:List Int} (h1:byteL a) (h2:byteL b):byteL (a ++ b):=fun x hx=>(List.mem_append.1 hx).elim (h1 x) (h2 x)
theorem zDT (b:ByteArray):byteL (strInts b):=fun x hx=>by
 unfold strInts at hx
 obtain ⟨c,_,rfl⟩:=List.mem_map.1 hx
 have:=c.toNat_lt
 omega
theorem zF9:∀ {l:List Int},byteL l->strInts (bytesOf l)=l:=by
 intro l h
 unfold strInts bytesOf
 simp only [List.map_map]
 have:∀ x∈l,((fun c:UInt8=>(c.toNat:Int)) ∘ fun n:Int=>UInt8.ofNat n.toNat) x=x:=fun x hx=>by
  obtain ⟨h1,h2⟩:=h x hx
  simp only [Function.comp]
  have:(UInt8.ofNat x.toNat).toNat=x.toNat % 256:=by simp
  rw [this,Nat.mod_eq_of_lt (by omega)]
  omega
 rw [List.map_congr_left this,List.map_id']
theorem zJJ (s:Int×List Int) (c:CellT) (h:byteL s.2):byteL (rowStep s c).2:=by
 unfold rowStep
 split
 ·exact h
 split
 ·exact zEY h (zDT _)
 ·exact zEY (zEY h (zDT _)) (zDT _)
theorem zGU:∀ (l:List CellT) (s:Int×List Int),byteL s.2->byteL (l.foldl rowStep s).2
 | [],_,h=>h
 | c::l,s,h=>zGU l _ (zJJ s c h)
theorem zJF (g:GridT) (C r:Nat):byteL (rowL g C r):=by
 have:=zGU (gRow g C r) (0,headS r) (zDT _)
 unfold rowL
 simp only []
 split
 ·exact this
 ·exact zEY this (zDT _)
theorem zIL (N:Nat) (a b:CellT) (h:a.1.length<=1048576) (hN:a.1.length < N):zBY N a b=some (decide (a=b)):=by
 unfold zBY
 rw [zG0 N _ _ (by omega) hN]
 simp only [zA2,zD4,pEq_d]
 congr 1
 obtain ⟨a1,a2,_⟩:=a
 obtain ⟨b1,b2,_⟩:=b
 by_cases h1:a1=b1 <;> by_cases h2:a2=b2 <;> simp [h1,h2]
theorem zFO (N:Nat) (xs ys:List CellT) (hl:xs.length<=2000) (hN:xs.length < N) (hc:∀ c∈xs,c.1.length<=1048576/\c.1.length < N):zC8 N xs ys=some (decide (xs=ys)):=by
 unfold zC8 zA0
 simp only [zCP]
 by_cases h:xs.length=ys.length
 ·rw [pNe_f (by omega),ifB_f]
  have key:∀ (m i f:Nat),xs.length - i=m->i<=xs.length->m < f->∀ (k:Unit ⊕ (Bool×Unit)->Option Bool),loopP (zA0.l4 N) f (ys,xs,(xs.length:Int),(i:Int),()) k=if xs.drop i=ys.drop i then k (.inl ()) else k (.inr (false,())):=by
   intro m
   induction m with
   | zero =>
    intro i f hm hi hf k
    obtain ⟨f,rfl⟩:=zCU hf
    rw [zCO];unfold zA0.l4;simp only []
    rw [pLt_f (by omega),ifB_f,List.drop_eq_nil_of_le (by omega),List.drop_eq_nil_of_le (by omega),if_pos rfl]
   | succ m ih =>
    intro i f hm hi hf k
    obtain ⟨f,rfl⟩:=zCU hf
    have hlt:i < xs.length:=by omega
    have hlt2:i < ys.length:=by omega
    have e2:pAdd .i64 (i:Int) 1=((i+1:Nat):Int):=zC6 (by omega) (by omega)
    have st:∀ kn,zA0.l4 N (ys,xs,(xs.length:Int),(i:Int),()) kn k=if xs[i]=ys[i] then kn (ys,xs,(xs.length:Int),((i+1:Nat):Int),()) else k (.inr (false,())):=fun kn=>by
     unfold zA0.l4;simp only []
     rw [pLt_t (by omega),ifB_t,zCT hlt,zA2,zCT hlt2,zA2,zIL N _ _ (hc _ (List.getElem_mem hlt)).1 (hc _ (List.getElem_mem hlt)).2,zA2,zCZ,e2]
     by_cases q:xs[i]=ys[i]
     ·rw [decide_eq_true q,if_pos q,Bool.not_true,ifB_f]
     ·rw [decide_eq_false q,if_neg q,Bool.not_false,ifB_t]
    rw [zCO,st,zDX hlt,zDX hlt2]
    by_cases q:xs[i]=ys[i]
    ·rw [if_pos q,ih (i+1) f (by omega) (by omega) (by omega) k]
     by_cases z:xs.drop (i+1)=ys.drop (i+1)
     ·rw [if_pos z,if_pos (by rw [q,z])]
     ·rw [if_neg z,if_neg (fun w=>z (List.cons.inj w).2)]
    ·rw [if_neg q,if_neg (fun z=>q (List.cons.inj z).1)]
  refine Eq.trans (congrArg (fun z=>bindO z _) (key _ 0 N rfl (by omega) (by omega) _)) ?_
  rw [List.drop_zero,List.drop_zero]
  by_cases q:xs=ys
  ·rw [if_pos q,decide_eq_true q];rfl
  ·rw [if_neg q,decide_eq_false q];rfl
 ·rw [pNe_t (by omega),ifB_t,decide_eq_false (fun q=>h (by rw [q]))];rfl
theorem zH3 (N:Nat) (o g:GridT) (C r:Nat) (hC:g.2.1=(C:Int)) (h2:2<=C/\C<=80) (hl:g.2.2.1.length<=2000) (hlo:o.2.2.1.length<=2000) (hr:(r+1) * C<=g.2.2.1.length) (hro:(r+1) * C<=o.2.2.1.length)
  (hc:∀ c∈o.2.2.1,cellOk c) (hN:200 < N) (out:List Int) {R:Type} (k:_->Option R):∀ (m c f:Nat) (b:Bool),c+m=C->m < f ->
  loopP (zAX.l9 N) f ((r:Int),b,(c:Int),o,g,out,()) k=k ((r:Int),(b && decide ((gRow o C r).drop c=(gRow g C r).drop c)),o,g,out,()):=by
 have hr2:(r+1) * C=r * C+C:=Nat.succ_mul r C
 have hlen:=zDQ hr
 have hleno:=zDQ hro
 intro m
 induction m with
 | zero =>
  intro c f b hm hf
  obtain ⟨f,rfl⟩:=zCU hf
  rw [zCO];unfold zAX.l9;simp only []
  rw [pLt_f (by omega),ifB_f,List.drop_eq_nil_of_le (by omega),List.drop_eq_nil_of_le (by omega)];simp
 | succ m ih =>
  intro c f b hm hf
  obtain ⟨f,rfl⟩:=zCU hf
  have e2:pAdd .i64 (c:Int) 1=((c+1:Nat):Int):=zC6 (by omega) (by omega)
  have e0:((r * C:Nat):Int)=(r:Int) * (C:Int):=by push_cast;rfl
  have e1:pAdd .i64 (pMul .i64 (r:Int) g.2.1) (c:Int)=((r * C+c:Nat):Int):=by
   rw [hC,zDA (by omega) (by omega),zC6 (by omega) (by omega)];push_cast;rfl
  have hx:idx g.2.2.1 (((r * C+c:Nat)):Int)=some (cellD g (r * C+c)):=by rw [zCT (by omega:r * C+c < g.2.2.1.length),zD5 (by omega)]
  have hxo:idx o.2.2.1 (((r * C+c:Nat)):Int)=some (cellD o (r * C+c)):=by rw [zCT (by omega:r * C+c < o.2.2.1.length),zD5 (by omega)]
  have hco:cellOk (cellD o (r * C+c)):=by rw [zD5 (by omega)];exact hc _ (List.getElem_mem _)
  have st:∀ kn,zAX.l9 N ((r:Int),b,(c:Int),o,g,out,()) kn k=kn ((r:Int),(b && decide (cellD o (r * C+c)=cellD g (r * C+c))),((c+1:Nat):Int),o,g,out,()):=fun kn=>by
   unfold zAX.l9;simp only []
   rw [pLt_t (by omega),ifB_t,e1,hx,hxo,zA2,zA2,zEX N _ _ (by have:=hco.1;omega) (by have:=hco.1;omega)]
   simp only [zA2,zD4,pEq_d,e2]
   congr 3
   generalize cellD o (r * C+c)=x
   generalize cellD g (r * C+c)=y
   obtain ⟨a1,a2,_⟩:=x
   obtain ⟨b1,b2,_⟩:=y
   cases b <;> by_cases h1:a1=b1 <;> by_cases h2:a2=b2 <;> simp [h1,h2]
  rw [zCO,st]
  refine Eq.trans (ih (c+1) f _ (by omega) (by omega)) ?_
  congr 3
  rw [zDX (by omega:c < (gRow o C r).length),zDX (by omega:c < (gRow g C r).length),zFW hro (by omega),zFW hr (by omega),Bool.and_assoc]
  congr 1
  by_cases q:cellD o (r * C+c)=cellD g (r * C+c) <;> by_cases q2:(gRow o C r).drop (c+1)=(gRow g C r).drop (c+1) <;> simp [q,q2]
def sendF (o g:GridT) (C:Nat):Nat->Nat->List Int->List Int
 | 0,_,out=>out
 | m+1,r,out=>sendF o g C m (r+1) (out ++ (if gRow o C r=gRow g C r then [] else rowL g C r))
theorem zGO (N:Nat) (hN:2100 < N) (o g:GridT) (C Rn:Nat) (hC:g.2.1=(C:Int)) (hR:g.1=(Rn:Int)) (h2:2<=C/\C<=80) (h3:Rn<=24) (hl:g.2.2.1.length=Rn * C) (hlo:o.2.2.1.length=Rn * C) (hc:∀ c∈g.2.2.1,cellOk c) (hco:∀ c∈o.2.2.1,cellOk c) {R:Type} (k:_->Option R) :
  ∀ (m r f:Nat) (out:List Int),Rn - r=m->r<=Rn->m < f->out.length+1700 * m<=1000000 ->
  loopP (zBN.l5 N) f ((Rn:Int),(r:Int),o,g,([],(out,())),()) k=k (o,g,([],(sendF o g C m r out,())),()):=by
 have hb:Rn * C<=24 * 80:=Nat.mul_le_mul h3 h2.2
 intro m
 induction m with
 | zero =>
  intro r f out hm hr hf ho
  obtain ⟨f,rfl⟩:=zCU hf
  rw [zCO];unfold zBN.l5;simp only []
  rw [pLt_f (by omega),ifB_f];rfl
 | succ m ih =>
  intro r f out hm hr hf ho
  obtain ⟨f,rfl⟩:=zCU hf
  have hr1:(r+1) * C<=Rn * C:=Nat.mul_le_mul_right _ (by omega)
  have hr2:(r+1) * C=r * C+C:=Nat.succ_mul r C
  have e2:pAdd .i64 (r:Int) 1=((r+1:Nat):Int):=zC6 (by omega) (by omega)
  have ec0:((r * C:Nat):Int)=(r:Int) * (C:Int):=by push_cast;rfl
  have ec1:(((r+1) * C:Nat):Int)=((r+1:Nat):Int) * (C:Int):=by push_cast;rfl
  have m0:pMul .i64 (r:Int) g.2.1=((r * C:Nat):Int):=by rw [hC,zDA (by omega) (by omega)];omega
  have m1:pMul .i64 ((r+1:Nat):Int) g.2.1=(((r+1) * C:Nat):Int):=by rw [hC,zDA (by omega) (by omega)];omega
  have hsub:∀ x:GridT,sub x.2.2.1 ((r * C:Nat):Int) (((r+1) * C:Nat):Int)=gRow x C r:=fun x=>by unfold sub gRow;rw [Int.toNat_natCast,Int.toNat_natCast]
  have hlen:=zDQ (g:=o) (C:=C) (r:=r) (by omega)
  have hrl:=zHL g C r (by omega) h2.2 hc
  have st:∀ kn,zBN.l5 N ((Rn:Int),(r:Int),o,g,([],(out,())),()) kn k=kn ((Rn:Int),((r+1:Nat):Int),o,g,([],(out ++ (if gRow o C r=gRow g C r then [] else rowL g C r),())),()):=fun kn=>by
   unfold zBN.l5;simp only []
   rw [pLt_t (by omega),ifB_t,e2,m0,m1,zCP,zCP,pLe_t (by omega),ifB_t,pLe_t (by omega),ifB_t,pLe_t (by omega),ifB_t,ifB_t,ifB_t,pLe_t (by omega),ifB_t,hsub,hsub,
    zFO N _ _ (by omega) (by omega) (fun c h=>by have:=(hco c (zFE h)).1;omega),zA2,zCZ]
   by_cases q:gRow o C r=gRow g C r
   ·rw [decide_eq_true q,if_pos q,Bool.not_true,ifB_f,zA2,List.append_nil]
    simp only [e2]
   ·rw [decide_eq_false q,if_neg q,Bool.not_false,ifB_t,zG3 N (by omega) g C r hC h2 (by omega) (by omega) (by omega) hc,zA2,zF9 (zJF g C r),zD0 (by omega),ifB_t,zA2]
    simp only [e2];rfl
  rw [zCO,st,sendF]
  refine ih (r+1) f _ (by omega) (by omega) (by omega) ?_
  rw [List.length_append]
  split
  ·simp only [List.length_nil];omega
  ·omega
theorem zGS (N:Nat) (hN:2100 < N) (o g:GridT) (C Rn:Nat) (hC:g.2.1=(C:Int)) (hR:g.1=(Rn:Int)) (h2:2<=C/\C<=80) (h3:Rn<=24) (hl:g.2.2.1.length=Rn * C) (hlo:o.2.2.1.length=Rn * C) (hc:∀ c∈g.2.2.1,cellOk c) (hco:∀ c∈o.2.2.1,cellOk c) {R:Type} (k:_->Option R) :
  ∀ (m r f:Nat) (out:List Int),Rn - r=m->r<=Rn->m < f->out.length+1700 * m<=1000000 ->
  loopP (zAX.l5 N) f ((r:Int),o,g,out,()) k=k (o,g,sendF o g C m r out,()):=by
 have hb:Rn * C<=24 * 80:=Nat.mul_le_mul h3 h2.2
 intro m
 induction m with
 | zero =>
  intro r f out hm hr hf ho
  obtain ⟨f,rfl⟩:=zCU hf
  rw [zCO];unfold zAX.l5;simp only []
  rw [pLt_f (by omega),ifB_f];rfl
 | succ m ih =>
  intro r f out hm hr hf ho
  obtain ⟨f,rfl⟩:=zCU hf
  have hr1:(r+1) * C<=Rn * C:=Nat.mul_le_mul_right _ (by omega)
  have hr2:(r+1) * C=r * C+C:=Nat.succ_mul r C
  have e2:pAdd .i64 (r:Int) 1=((r+1:Nat):Int):=zC6 (by omega) (by omega)
  have hrl:=zHL g C r (by omega) h2.2 hc
  have st:∀ kn,zAX.l5 N ((r:Int),o,g,out,()) kn k=kn (((r+1:Nat):Int),o,g,out ++ (if gRow o C r=gRow g C r then [] else rowL g C r),()):=fun kn=>by
   unfold zAX.l5;simp only []
   rw [pLt_t (by omega),ifB_t]
   refine Eq.trans (congrArg (fun z=>bindO z _) (zH3 N o g C r hC h2 (by omega) (by omega) (by omega) (by omega) hco (by omega) out _ C 0 N true (by omega) (by omega))) ?_
   simp only [List.drop_zero,Bool.true_and,zCZ]
   by_cases q:gRow o C r=gRow g C r
   ·rw [decide_eq_true q,if_pos q,Bool.not_true,ifB_f,zA2,List.append_nil,e2]
   ·rw [decide_eq_false q,if_neg q,Bool.not_false,ifB_t,zGL N (by omega) g C r hC h2 (by omega) (by omega) (by omega) hc,zA2,zD0 (by omega),ifB_t,zA2,e2]
    rfl
  rw [zCO,st,sendF]
  refine ih (r+1) f _ (by omega) (by omega) (by omega) ?_
  rw [List.length_append]
  split
  ·simp only [List.length_nil];omega
  ·omega
theorem zI0 (o g:GridT) (C:Nat) (h2:C<=80) (hc:∀ c∈g.2.2.1,cellOk c):∀ (m r:Nat) (out:List Int),(r+m) * C<=g.2.2.1.length->(sendF o g C m r out).length<=out.length+1700 * m
 | 0,_,_,_=>by simp [sendF]
 | m+1,r,out,h=>by
  have h1:(r+1) * C<=(r+(m+1)) * C:=Nat.mul_le_mul_right _ (by omega)
  have h3:=zHL g C r (by omega) h2 hc
  have h4:=zI0 o g C h2 hc m (r+1) (out ++ (if gRow o C r=gRow g C r then [] else rowL g C r)) (by rw [show r+1+m=r+(m+1) by omega];exact h)
  rw [sendF]
  rw [List.length_append] at h4
  split at h4
  ·rename_i q;rw [if_pos q];simp only [List.length_nil] at h4;omega
  ·rename_i q;rw [if_neg q];omega
def csiS (r c:Nat):ByteArray:=pCat (pCat (pCat (pCat (ByteArray.mk #[27,91]) (decG (r+1))) (ByteArray.mk #[59])) (decG (c+1))) (ByteArray.mk #[72])
def sendG (o g:GridT):ByteArray :=
 if (flatG o && flatG g && decide (o.1=g.1) && decide (o.2.1=g.2.1))=true then
  let out:=sendF o g g.2.1.toNat g.1.toNat 0 []
  if out≠[] \/ o.2.2.2.1≠g.2.2.2.1 \/ o.2.2.2.2.1≠g.2.2.2.2.1 then bytesOf (out ++ strInts (csiS g.2.2.2.1.toNat g.2.2.2.2.1.toNat)) else bytesOf out
 else ByteArray.mk #[]
theorem zNF (r c:Nat):(strInts (csiS r c)).length<=8:=by
 unfold csiS
 rw [zEM]
 simp only [zD3]
 have h1:=zD2 (r+1)
 have h2:=zD2 (c+1)
 have e5:(ByteArray.mk #[27,91]).size=2:=rfl
 have e6:(ByteArray.mk #[59]).size=1:=rfl
 have e7:(ByteArray.mk #[72]).size=1:=rfl
 omega
theorem zJ3 (out:List Int) (a b c d:Int):((decide ((out.length:Int) > 0) || !decide (a=b)) || !decide (c=d))=decide (out≠[] \/ a≠b \/ c≠d):=by
 have:decide ((out.length:Int) > 0)=decide (out≠[]):=by
  cases out with
  | nil=>rfl
  | cons x l=>simp
 rw [this]
 by_cases h1:out≠[] <;> by_cases h2:a=b <;> by_cases h3:c=d <;> simp [h1,h2,h3]
theorem zI2 (N:Nat) (hN:2100 < N) (o g:GridT) (hl:g.2.2.1.length<=1048576) (hlo:o.2.2.1.length<=1048576) (hcg:∀ x∈g.2.2.1,x.1.length<=1048576/\x.1.length+20 < N) (hco0:∀ x∈o.2.2.1,x.1.length<=1048576/\x.1.length+20 < N) :
  zBN N o g=some (sendG o g)/\zAX N o g=some (sendG o g):=by
 unfold zBN zAX
 rw [zED N o hN hlo hco0,zED N g hN hl hcg,zDF N o hN hlo,zDF N g hN hl]
 simp only [zA2,zDH,zCZ,pNe_d]
 have hcond:(((!flatG o || !flatG g) || !decide (o.1=g.1)) || !decide (o.2.1=g.2.1))=!(flatG o && flatG g && decide (o.1=g.1) && decide (o.2.1=g.2.1)):=by
  cases flatG o <;> cases flatG g <;> cases decide (o.1=g.1) <;> cases decide (o.2.1=g.2.1) <;> rfl
 rw [hcond]
 unfold sendG
 cases hq:(flatG o && flatG g && decide (o.1=g.1) && decide (o.2.1=g.2.1)) with
 | false=>simp [ifB_t]
 | true =>
  rw [Bool.not_true,ifB_f,ifB_f,if_pos rfl]
  simp only [Bool.and_eq_true,decide_eq_true_eq] at hq
  obtain ⟨⟨⟨hfo,hfg⟩,hR1⟩,hC1⟩:=hq
  obtain ⟨Rn,C,eR,eC,h1,h2,h3,h4,h5,h6,h7,h8,h9,h10,h11⟩:=zE1 hfg
  obtain ⟨Rn',C',eR',eC',_,_,_,_,h5',_,h7',_⟩:=zE1 hfo
  have q1:Rn'=Rn:=by omega
  have q2:C'=C:=by omega
  subst q1 q2
  have tR:g.1.toNat=Rn':=by omega
  have tC:g.2.1.toNat=C':=by omega
  rw [tR,tC]
  have hsl:=zI0 o g C' h4 h7 Rn' 0 [] (by rw [Nat.zero_add];omega)
  simp only [List.length_nil] at hsl
  have hcs:=zNF g.2.2.2.1.toNat g.2.2.2.2.1.toNat
  obtain ⟨rw',hrw⟩:∃ n:Nat,g.2.2.2.1=(n:Int):=⟨g.2.2.2.1.toNat,by omega⟩
  obtain ⟨cl',hcl⟩:∃ n:Nat,g.2.2.2.2.1=(n:Int):=⟨g.2.2.2.2.1.toNat,by omega⟩
  have g1:=zJ0 N (by omega) rw' cl' (by omega) (by omega)
  constructor
  ·rw [eR]
   refine Eq.trans (zGO N hN o g C' Rn' eC eR ⟨h3,h4⟩ h2 h5 h5' h7 h7' _ Rn' 0 N [] (by omega) (by omega) (by omega) (by simp only [List.length_nil];omega)) ?_
   simp only [zCP,pGt_d,zDH,zA2,pNe_d]
   rw [zJ3]
   by_cases hz:(sendF o g C' Rn' 0 []≠[] \/ o.2.2.2.1≠g.2.2.2.1 \/ o.2.2.2.2.1≠g.2.2.2.2.1)
   ·rw [decide_eq_true hz,ifB_t,if_pos hz]
    rw [hrw,hcl] at hcs ⊢
    rw [g1,zA2]
    show ifB (pFit _ (strInts (csiS rw' cl'))) _ none=_
    rw [zD0 (by simp only [Int.toNat_natCast] at hcs;omega),ifB_t]
    simp only [Int.toNat_natCast];rfl
   ·rw [decide_eq_false hz,ifB_f,if_neg hz]
  ·refine Eq.trans (zGS N hN o g C' Rn' eC eR ⟨h3,h4⟩ h2 h5 h5' h7 h7' _ Rn' 0 N [] (by omega) (by omega) (by omega) (by simp only [List.length_nil];omega)) ?_
   simp only [zCP,pGt_d,zDH,zA2,pNe_d]
   rw [zJ3]
   by_cases hz:(sendF o g C' Rn' 0 []≠[] \/ o.2.2.2.1≠g.2.2.2.1 \/ o.2.2.2.2.1≠g.2.2.2.2.1)
   ·rw [decide_eq_true hz,ifB_t,if_pos hz]
    rw [hrw,hcl] at hcs ⊢
    obtain ⟨_,d1⟩:=zDV N (rw'+1) (by omega) (by omega)
    obtain ⟨_,d2⟩:=zDV N (cl'+1) (by omega) (by omega)
    have k1:=zD2 (rw'+1)
    have k2:=zD2 (cl'+1)
    have e5:(ByteArray.mk #[27,91]).size=2:=rfl
    have e6:(ByteArray.mk #[59]).size=1:=rfl
    have e7:(ByteArray.mk #[72]).size=1:=rfl
    rw [zC6 (by omega) (by omega),zC6 (by omega) (by omega),show (rw':Int)+1=((rw'+1:Nat):Int) by omega,show (cl':Int)+1=((cl'+1:Nat):Int) by omega,d1,d2,zA2,zA2,
     zDG (by omega),ifB_t,zDG (by rw [zD3];omega),ifB_t,zDG (by rw [zD3,zD3];omega),ifB_t,zDG (by rw [zD3,zD3,zD3];omega),ifB_t]
    show ifB (pFit _ (strInts (csiS rw' cl'))) _ none=_
    rw [zD0 (by simp only [Int.toNat_natCast] at hcs;omega),ifB_t]
    simp only [Int.toNat_natCast];rfl
   ·rw [decide_eq_false hz,ifB_f,if_neg hz]
def newG (r c:Int):GridT:=if (decide (1<=r) && decide (r<=24) && decide (2<=c) && decide (c<=80))=true then (r,c,List.replicate (r * c).toNat ([],0,()),0,0,false,0,()) else (0,0,[],0,0,false,0,())
end Go.AE.F
namespace Go.AE.F
open Go.AE
theorem zG7 (N:Nat) (r c:Int):zEW N r c=some (newG r c):=by
 unfold zEW newG zCM zCN
 simp only [zCQ,zA2,zCZ,zDH]
 have e:(!(decide (1<=r) && decide (r<=24)) || !(decide (2<=c) && decide (c<=80)))=!(decide (1<=r) && decide (r<=24) && decide (2<=c) && decide (c<=80)):=by
  cases decide (1<=r) <;> cases decide (r<=24) <;> cases decide (2<=c) <;> cases decide (c<=80) <;> rfl
 rw [e]
 cases h:(decide (1<=r) && decide (r<=24) && decide (2<=c) && decide (c<=80)) with
 | false=>rw [Bool.not_false,ifB_t];rfl
 | true =>
  simp only [Bool.and_eq_true,decide_eq_true_eq] at h
  have:=zEN (a:=r) (b:=c) (by omega) (by omega) (by omega) (by omega)
  rw [Bool.not_true,ifB_f,pEq_t rfl,ifB_t,zDA (by omega) (by omega),pLe_t (by omega),ifB_t,pLe_t (by omega),ifB_t,if_pos rfl]
  rfl
theorem zE7 (N:Nat) (r c:Int):zCF N r c=some (newG r c):=by
 unfold zCF newG zC7
 simp only [zD4,zA2,pGe_d,pLe_d,zCZ]
 simp only [ge_iff_le]
 cases h:(decide (1<=r) && decide (r<=24) && decide (2<=c) && decide (c<=80)) with
 | false=>rw [Bool.not_false,ifB_t];rfl
 | true =>
  simp only [Bool.and_eq_true,decide_eq_true_eq] at h
  have:=zEN (a:=r) (b:=c) (by omega) (by omega) (by omega) (by omega)
  rw [Bool.not_true,ifB_f,pEq_t rfl,ifB_t,zDA (by omega) (by omega)]
  simp only [decide_eq_true (by omega:(0:Int)<=r * c),decide_eq_true (by omega:r * c<=68719476736),ifB_t]
  rfl
end Go.AE.F
