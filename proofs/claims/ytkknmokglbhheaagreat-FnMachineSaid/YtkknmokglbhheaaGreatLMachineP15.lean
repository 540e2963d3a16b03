/- Plain laws of those functions. -/
import Derived.Test.YtkknmokglbhheaaGreatLMachineP14
namespace Go.AE.F
open Go.AE
theorem sub_back {A:Type} (s g:List A):sub (s ++ g) (s.length:Int) (pLen (s ++ g))=g:=by
  unfold sub
  rw [pLen_d]
  simp only [Int.toNat_natCast,List.take_length,List.drop_left]
theorem sub_front {A:Type} (s g:List A):sub (s ++ g) 0 (s.length:Int)=s:=by unfold sub;simp
abbrev LoopT:=(List OpT)×Int×Int×Int×BufT×SceneT×RunT×List Int×Unit
abbrev LoopX:=Int×BufT×SceneT×RunT×Unit
def SpecStep {R:Type} (N:Nat) (ops:List OpT) (f m:Int) (k:Nat) (b0:BufT) (v0:SceneT) (v:List Int) (sc:SceneT) (st0 g:List Int) (kn:LoopT→Option R) (kx:LoopX→Option R) (e:EvT):Prop :=
  ∃ (sc':SceneT) (put':List Int),zAX.l5 N (ops,f,m,(k:Int),b0,v0,([],([],(v,sc))),st0 ++ g,()) kn kx=kn (ops,f,m+1,e.at',b0,v0,([],([],(e.v,sc'))),st0 ++ put',()) ∧
    sc'.2.2.2.1=e.sc.2.2.2.1∧(e.sc.2.2.2.1=0→sc'=e.sc∧put'=e.put)
theorem ss_pre (N:Nat) (ops:List OpT) (hl:ops.length≤1500) (m:Int) (hm:0≤m∧m≤1000000) (k:Nat) (hk:k < ops.length) (sc:SceneT) (h0:sc.2.2.2.1=0) (st0:List Int) (hst:st0.length≤100) (g:List Int) (kk num t p:Int) (ho:ops[k]=(kk,(num,()))) (ht:takesG kk=(t,p)) (hg:(g.length:Int)=t) (hg2:g.length≤2) :
    pLt (k:Int) (pLen ops)=true∧pEq sc.2.2.2.1 0=true∧idx ops (k:Int)=some (kk,(num,()))∧zC1 N kk=some (t,p)∧pSub .i64 (pLen (st0 ++ g)) t=(st0.length:Int)∧pLe 0 (st0.length:Int)=true∧pLe (st0.length:Int) (pLen (st0 ++ g))=true∧pLe (pLen (st0 ++ g)) (pLen (st0 ++ g))=true∧pLe 0 0=true ∧
    zC9 N (sub (st0 ++ g) (st0.length:Int) (pLen (st0 ++ g)))=some g∧pFit g [0,0]=true∧sub (st0 ++ g) 0 (st0.length:Int)=st0∧pAdd .i64 m 1=m+1∧pAdd .i64 (k:Int) 1=(k:Int)+1∧∀ x:Int,pFit st0 [x]=true:=by
  refine ⟨?_,pEq_t h0,?_,?_,?_,pLe_t (by omega),?_,pLe_t (Int.le_refl _),rfl,?_,?_,sub_front _ _,pAdd_i (by omega) (by omega),pAdd_i (by omega) (by omega),fun x=>pFit_t (by simp only [List.length_cons,List.length_nil];omega)⟩
  · rw [pLen_d];exact pLt_t (by omega)
  · rw [idx_lt hk,ho]
  · rw [spec_takes,ht]
  · rw [pLen_d,pSub_i (by simp only [List.length_append];omega) (by simp only [List.length_append];omega)];simp only [List.length_append];omega
  · rw [pLen_d];exact pLe_t (by simp only [List.length_append];omega)
  · rw [sub_back];exact copy_eq N _ (by omega)
  · exact pFit_t (by simp only [List.length_cons,List.length_nil];omega)
theorem ss_1 {R:Type} (N:Nat) (hN:2000 < N) (num:Int) (ops:List OpT) (hl:ops.length≤1500) (f m:Int) (hm:0≤m∧m≤1000000) (hmf:pEq m (pMul .i64 40 (pAdd .i64 f 1))=false) (k:Nat) (hk:k < ops.length) (ho:ops[k]=(1,(num,()))) (b0:BufT) (v0:SceneT) (v:List Int) (hv:v.length=8) (sc:SceneT) (hs:SInv sc) (h0:sc.2.2.2.1=0) (hbe:sc.2.2.1≤1000000) (st0:List Int) (hst:st0.length≤100) (kn:LoopT→Option R) (kx:LoopX→Option R) :
    SpecStep N ops f m k b0 v0 v sc st0 ([]:List Int) kn kx (evG (1,(num,())) sc v 0 0 ((k:Int)+1)):=by
  obtain ⟨h1,h2,h4,h5,h6,h7,h8,h9,h10,h11,h12,h13,h14,h15,h16⟩:=ss_pre N ops hl m hm k hk sc h0 st0 hst [] 1 num 0 0 ho rfl rfl (by simp)
  have h17:pGt 0 0=false:=rfl
  have q1:pEq 1 1=true:=rfl
  by_cases hf:sc.2.1=0
  · have c1:pEq sc.2.1 0=true:=pEq_t hf
    have c2:=sfail_eq N [] [] v sc 6 h0
    have e:evG (1,(num,())) sc v 0 0 ((k:Int)+1)=⟨failS sc 6,v,[],(k:Int)+1⟩:=by show (⟨tickG sc,v,[],(k:Int)+1⟩:EvT)=_;unfold tickG;rw [if_pos hf]
    rw [e]
    refine ⟨(sc.1,(pSub .i64 sc.2.1 1,(sc.2.2.1,(6,sc.2.2.2.2)))),[],?_,rfl,fun h=>by exfalso;have:(6:Int)=0:=h;omega⟩
    unfold zAX.l5;simp only [h1,h2,hmf,h4,h5,h6,h7,h8,h9,h10,h11,h12,h13,h14,h15,h16,h17,q1,ifB_t,ifB_f,bindO_s]
    simp only [c1,c2,ifB_t,ifB_f,bindO_s,List.append_nil]
    rfl
  · have c1:pEq sc.2.1 0=false:=pEq_f hf
    have c2:pSub .i64 sc.2.1 1=sc.2.1 - 1:=pSub_i (by have:=hs.2.1;omega) (by have:=hs.2.2.1;omega)
    have e:evG (1,(num,())) sc v 0 0 ((k:Int)+1)=⟨(sc.1,(sc.2.1 - 1,sc.2.2)),v,[],(k:Int)+1⟩:=by show (⟨tickG sc,v,[],(k:Int)+1⟩:EvT)=_;unfold tickG;rw [if_neg hf]
    rw [e]
    refine ⟨(sc.1,(sc.2.1 - 1,sc.2.2)),[],?_,rfl,fun _=>⟨rfl,rfl⟩⟩
    unfold zAX.l5;simp only [h1,h2,hmf,h4,h5,h6,h7,h8,h9,h10,h11,h12,h13,h14,h15,h16,h17,q1,ifB_t,ifB_f,bindO_s]
    simp only [c1,c2,ifB_t,ifB_f,bindO_s,List.append_nil]
theorem ss_2 {R:Type} (N:Nat) (hN:2000 < N) (num:Int) (ops:List OpT) (hl:ops.length≤1500) (f m:Int) (hm:0≤m∧m≤1000000) (hmf:pEq m (pMul .i64 40 (pAdd .i64 f 1))=false) (k:Nat) (hk:k < ops.length) (ho:ops[k]=(2,(num,()))) (b0:BufT) (v0:SceneT) (v:List Int) (hv:v.length=8) (sc:SceneT) (hs:SInv sc) (h0:sc.2.2.2.1=0) (hbe:sc.2.2.1≤1000000) (st0:List Int) (hst:st0.length≤100) (kn:LoopT→Option R) (kx:LoopX→Option R) :
    SpecStep N ops f m k b0 v0 v sc st0 ([]:List Int) kn kx (evG (2,(num,())) sc v 0 0 ((k:Int)+1)):=by
  obtain ⟨h1,h2,h4,h5,h6,h7,h8,h9,h10,h11,h12,h13,h14,h15,h16⟩:=ss_pre N ops hl m hm k hk sc h0 st0 hst [] 2 num 0 1 ho rfl rfl (by simp)
  have h17:pGt 1 0=true:=rfl
  have q1:pEq 2 1=false:=rfl
  have q2:pEq 2 2=true:=rfl
  refine ⟨sc,[num],?_,rfl,fun _=>⟨rfl,rfl⟩⟩
  unfold zAX.l5;simp only [h1,h2,hmf,h4,h5,h6,h7,h8,h9,h10,h11,h12,h13,h14,h15,h16,h17,q1,q2,ifB_t,ifB_f,bindO_s]
  rfl
theorem ss_3 {R:Type} (N:Nat) (hN:2000 < N) (num:Int) (ops:List OpT) (hl:ops.length≤1500) (f m:Int) (hm:0≤m∧m≤1000000) (hmf:pEq m (pMul .i64 40 (pAdd .i64 f 1))=false) (k:Nat) (hk:k < ops.length) (ho:ops[k]=(3,(num,()))) (b0:BufT) (v0:SceneT) (v:List Int) (hv:v.length=8) (sc:SceneT) (hs:SInv sc) (h0:sc.2.2.2.1=0) (hbe:sc.2.2.1≤1000000) (st0:List Int) (hst:st0.length≤100) (hn:0≤num∧num≤7) (kn:LoopT→Option R) (kx:LoopX→Option R) :
    SpecStep N ops f m k b0 v0 v sc st0 ([]:List Int) kn kx (evG (3,(num,())) sc v 0 0 ((k:Int)+1)):=by
  obtain ⟨h1,h2,h4,h5,h6,h7,h8,h9,h10,h11,h12,h13,h14,h15,h16⟩:=ss_pre N ops hl m hm k hk sc h0 st0 hst [] 3 num 0 1 ho rfl rfl (by simp)
  have h17:pGt 1 0=true:=rfl
  have q1:pEq 3 1=false:=rfl
  have q2:pEq 3 2=false:=rfl
  have q3:pEq 3 3=true:=rfl
  have hlt:num.toNat < v.length:=by omega
  have c1:idx v num=some ((v[num.toNat]?).getD 0):=by
    have:=idx_lt (xs:=v) (i:=num.toNat) hlt
    rw [show ((num.toNat:Nat):Int)=num by omega] at this
    rw [this,List.getElem?_eq_getElem hlt];rfl
  refine ⟨sc,[(v[num.toNat]?).getD 0],?_,rfl,fun _=>⟨rfl,rfl⟩⟩
  unfold zAX.l5;simp only [h1,h2,hmf,h4,h5,h6,h7,h8,h9,h10,h11,h12,h13,h14,h15,h16,h17,q1,q2,q3,c1,ifB_t,ifB_f,bindO_s]
  rfl
theorem ss_4 {R:Type} (N:Nat) (hN:2000 < N) (num:Int) (ops:List OpT) (hl:ops.length≤1500) (f m:Int) (hm:0≤m∧m≤1000000) (hmf:pEq m (pMul .i64 40 (pAdd .i64 f 1))=false) (k:Nat) (hk:k < ops.length) (ho:ops[k]=(4,(num,()))) (b0:BufT) (v0:SceneT) (v:List Int) (hv:v.length=8) (sc:SceneT) (hs:SInv sc) (h0:sc.2.2.2.1=0) (hbe:sc.2.2.1≤1000000) (st0:List Int) (hst:st0.length≤100) (a:Int) (ha:Bd a) (hn:0≤num∧num≤7) (kn:LoopT→Option R) (kx:LoopX→Option R) :
    SpecStep N ops f m k b0 v0 v sc st0 [a] kn kx (evG (4,(num,())) sc v a 0 ((k:Int)+1)):=by
  obtain ⟨h1,h2,h4,h5,h6,h7,h8,h9,h10,h11,h12,h13,h14,h15,h16⟩:=ss_pre N ops hl m hm k hk sc h0 st0 hst [a] 4 num 1 0 ho rfl rfl (by simp)
  have h17:pGt 0 0=false:=rfl
  have q1:pEq 4 1=false:=rfl
  have q2:pEq 4 2=false:=rfl
  have q3:pEq 4 3=false:=rfl
  have q4:pEq 4 4=true:=rfl
  have i0:idx (pApp [a] [0,0]) 0=some a:=rfl
  have hlt:num.toNat < v.length:=by omega
  have c1:∃ x,idx v num=some x:=by
    have:=idx_lt (xs:=v) (i:=num.toNat) hlt
    rw [show ((num.toNat:Nat):Int)=num by omega] at this
    exact ⟨_,this⟩
  obtain ⟨x0,c1⟩:=c1
  refine ⟨sc,[],?_,rfl,fun _=>⟨rfl,rfl⟩⟩
  unfold zAX.l5;simp only [h1,h2,hmf,h4,h5,h6,h7,h8,h9,h10,h11,h12,h13,h14,h15,h16,h17,q1,q2,q3,q4,i0,c1,ifB_t,ifB_f,bindO_s]
  rw [List.append_nil]
  rfl
theorem ss_5 {R:Type} (N:Nat) (hN:2000 < N) (num:Int) (ops:List OpT) (hl:ops.length≤1500) (f m:Int) (hm:0≤m∧m≤1000000) (hmf:pEq m (pMul .i64 40 (pAdd .i64 f 1))=false) (k:Nat) (hk:k < ops.length) (ho:ops[k]=(5,(num,()))) (b0:BufT) (v0:SceneT) (v:List Int) (hv:v.length=8) (sc:SceneT) (hs:SInv sc) (h0:sc.2.2.2.1=0) (hbe:sc.2.2.1≤1000000) (st0:List Int) (hst:st0.length≤100) (kn:LoopT→Option R) (kx:LoopX→Option R) :
    SpecStep N ops f m k b0 v0 v sc st0 ([]:List Int) kn kx (evG (5,(num,())) sc v 0 0 ((k:Int)+1)):=by
  obtain ⟨h1,h2,h4,h5,h6,h7,h8,h9,h10,h11,h12,h13,h14,h15,h16⟩:=ss_pre N ops hl m hm k hk sc h0 st0 hst [] 5 num 0 1 ho rfl rfl (by simp)
  have h17:pGt 1 0=true:=rfl
  have q1:pEq 5 1=false:=rfl
  have q2:pEq 5 2=false:=rfl
  have q3:pEq 5 3=false:=rfl
  have q4:pEq 5 4=false:=rfl
  have q5:pEq 5 5=true:=rfl
  refine ⟨sc,[sc.1.2.1],?_,rfl,fun _=>⟨rfl,rfl⟩⟩
  unfold zAX.l5;simp only [h1,h2,hmf,h4,h5,h6,h7,h8,h9,h10,h11,h12,h13,h14,h15,h16,h17,q1,q2,q3,q4,q5,ifB_t,ifB_f,bindO_s]
  rfl
theorem ss_6 {R:Type} (N:Nat) (hN:2000 < N) (num:Int) (ops:List OpT) (hl:ops.length≤1500) (f m:Int) (hm:0≤m∧m≤1000000) (hmf:pEq m (pMul .i64 40 (pAdd .i64 f 1))=false) (k:Nat) (hk:k < ops.length) (ho:ops[k]=(6,(num,()))) (b0:BufT) (v0:SceneT) (v:List Int) (hv:v.length=8) (sc:SceneT) (hs:SInv sc) (h0:sc.2.2.2.1=0) (hbe:sc.2.2.1≤1000000) (st0:List Int) (hst:st0.length≤100) (kn:LoopT→Option R) (kx:LoopX→Option R) :
    SpecStep N ops f m k b0 v0 v sc st0 ([]:List Int) kn kx (evG (6,(num,())) sc v 0 0 ((k:Int)+1)):=by
  obtain ⟨h1,h2,h4,h5,h6,h7,h8,h9,h10,h11,h12,h13,h14,h15,h16⟩:=ss_pre N ops hl m hm k hk sc h0 st0 hst [] 6 num 0 1 ho rfl rfl (by simp)
  have h17:pGt 1 0=true:=rfl
  have q1:pEq 6 1=false:=rfl
  have q2:pEq 6 2=false:=rfl
  have q3:pEq 6 3=false:=rfl
  have q4:pEq 6 4=false:=rfl
  have q5:pEq 6 5=false:=rfl
  have q6:pEq 6 6=true:=rfl
  refine ⟨sc,[(sc.1.1.length:Int)],?_,rfl,fun _=>⟨rfl,rfl⟩⟩
  unfold zAX.l5;simp only [h1,h2,hmf,h4,h5,h6,h7,h8,h9,h10,h11,h12,h13,h14,h15,h16,h17,q1,q2,q3,q4,q5,q6,ifB_t,ifB_f,bindO_s]
  rfl
theorem ss_7 {R:Type} (N:Nat) (hN:2000 < N) (num:Int) (ops:List OpT) (hl:ops.length≤1500) (f m:Int) (hm:0≤m∧m≤1000000) (hmf:pEq m (pMul .i64 40 (pAdd .i64 f 1))=false) (k:Nat) (hk:k < ops.length) (ho:ops[k]=(7,(num,()))) (b0:BufT) (v0:SceneT) (v:List Int) (hv:v.length=8) (sc:SceneT) (hs:SInv sc) (h0:sc.2.2.2.1=0) (hbe:sc.2.2.1≤1000000) (st0:List Int) (hst:st0.length≤100) (kn:LoopT→Option R) (kx:LoopX→Option R) :
    SpecStep N ops f m k b0 v0 v sc st0 ([]:List Int) kn kx (evG (7,(num,())) sc v 0 0 ((k:Int)+1)):=by
  obtain ⟨h1,h2,h4,h5,h6,h7,h8,h9,h10,h11,h12,h13,h14,h15,h16⟩:=ss_pre N ops hl m hm k hk sc h0 st0 hst [] 7 num 0 1 ho rfl rfl (by simp)
  have h17:pGt 1 0=true:=rfl
  have q1:pEq 7 1=false:=rfl
  have q2:pEq 7 2=false:=rfl
  have q3:pEq 7 3=false:=rfl
  have q4:pEq 7 4=false:=rfl
  have q5:pEq 7 5=false:=rfl
  have q6:pEq 7 6=false:=rfl
  have q7:pEq 7 7=true:=rfl
  refine ⟨sc,[sc.1.2.2.1],?_,rfl,fun _=>⟨rfl,rfl⟩⟩
  unfold zAX.l5;simp only [h1,h2,hmf,h4,h5,h6,h7,h8,h9,h10,h11,h12,h13,h14,h15,h16,h17,q1,q2,q3,q4,q5,q6,q7,ifB_t,ifB_f,bindO_s]
  rfl
theorem ss_8 {R:Type} (N:Nat) (hN:2000 < N) (num:Int) (ops:List OpT) (hl:ops.length≤1500) (f m:Int) (hm:0≤m∧m≤1000000) (hmf:pEq m (pMul .i64 40 (pAdd .i64 f 1))=false) (k:Nat) (hk:k < ops.length) (ho:ops[k]=(8,(num,()))) (b0:BufT) (v0:SceneT) (v:List Int) (hv:v.length=8) (sc:SceneT) (hs:SInv sc) (h0:sc.2.2.2.1=0) (hbe:sc.2.2.1≤1000000) (st0:List Int) (hst:st0.length≤100) (a:Int) (ha:Bd a) (kn:LoopT→Option R) (kx:LoopX→Option R) :
    SpecStep N ops f m k b0 v0 v sc st0 [a] kn kx (evG (8,(num,())) sc v a 0 ((k:Int)+1)):=by
  obtain ⟨h1,h2,h4,h5,h6,h7,h8,h9,h10,h11,h12,h13,h14,h15,h16⟩:=ss_pre N ops hl m hm k hk sc h0 st0 hst [a] 8 num 1 1 ho rfl rfl (by simp)
  have h17:pGt 1 0=true:=rfl
  have q1:pEq 8 1=false:=rfl
  have q2:pEq 8 2=false:=rfl
  have q3:pEq 8 3=false:=rfl
  have q4:pEq 8 4=false:=rfl
  have q5:pEq 8 5=false:=rfl
  have q6:pEq 8 6=false:=rfl
  have q7:pEq 8 7=false:=rfl
  have q8:pEq 8 8=true:=rfl
  have i0:idx (pApp [a] [0,0]) 0=some a:=rfl
  have c1:=sdone_at N [] [] v sc 0 (ByteArray.mk #[]) 0 a 0 h0
  refine ⟨(atS sc a).2,[(atS sc a).1],?_,rfl,fun _=>⟨rfl,rfl⟩⟩
  unfold zAX.l5;simp only [h1,h2,hmf,h4,h5,h6,h7,h8,h9,h10,h11,h12,h13,h14,h15,h16,h17,q1,q2,q3,q4,q5,q6,q7,q8,i0,c1,ifB_t,ifB_f,bindO_s]
  rfl
theorem ss_9 {R:Type} (N:Nat) (hN:2000 < N) (num:Int) (ops:List OpT) (hl:ops.length≤1500) (f m:Int) (hm:0≤m∧m≤1000000) (hmf:pEq m (pMul .i64 40 (pAdd .i64 f 1))=false) (k:Nat) (hk:k < ops.length) (ho:ops[k]=(9,(num,()))) (b0:BufT) (v0:SceneT) (v:List Int) (hv:v.length=8) (sc:SceneT) (hs:SInv sc) (h0:sc.2.2.2.1=0) (hbe:sc.2.2.1≤1000000) (st0:List Int) (hst:st0.length≤100) (a:Int) (ha:Bd a) (kn:LoopT→Option R) (kx:LoopX→Option R) :
    SpecStep N ops f m k b0 v0 v sc st0 [a] kn kx (evG (9,(num,())) sc v a 0 ((k:Int)+1)):=by
  obtain ⟨h1,h2,h4,h5,h6,h7,h8,h9,h10,h11,h12,h13,h14,h15,h16⟩:=ss_pre N ops hl m hm k hk sc h0 st0 hst [a] 9 num 1 1 ho rfl rfl (by simp)
  have h17:pGt 1 0=true:=rfl
  have q1:pEq 9 1=false:=rfl
  have q2:pEq 9 2=false:=rfl
  have q3:pEq 9 3=false:=rfl
  have q4:pEq 9 4=false:=rfl
  have q5:pEq 9 5=false:=rfl
  have q6:pEq 9 6=false:=rfl
  have q7:pEq 9 7=false:=rfl
  have q8:pEq 9 8=false:=rfl
  have q9:pEq 9 9=true:=rfl
  have i0:idx (pApp [a] [0,0]) 0=some a:=rfl
  have c1:=sdone_not N [] [] v sc 0 (ByteArray.mk #[]) 0 a 0
  refine ⟨sc,[if a=0 then 1 else 0],?_,rfl,fun _=>⟨rfl,rfl⟩⟩
  unfold zAX.l5;simp only [h1,h2,hmf,h4,h5,h6,h7,h8,h9,h10,h11,h12,h13,h14,h15,h16,h17,q1,q2,q3,q4,q5,q6,q7,q8,q9,i0,c1,ifB_t,ifB_f,bindO_s]
  rfl
theorem ss_10 {R:Type} (N:Nat) (hN:2000 < N) (num:Int) (ops:List OpT) (hl:ops.length≤1500) (f m:Int) (hm:0≤m∧m≤1000000) (hmf:pEq m (pMul .i64 40 (pAdd .i64 f 1))=false) (k:Nat) (hk:k < ops.length) (ho:ops[k]=(10,(num,()))) (b0:BufT) (v0:SceneT) (v:List Int) (hv:v.length=8) (sc:SceneT) (hs:SInv sc) (h0:sc.2.2.2.1=0) (hbe:sc.2.2.1≤1000000) (st0:List Int) (hst:st0.length≤100) (a b:Int) (ha:Bd a) (hb9:Bd b) (hn:18≤num∧num≤26) (kn:LoopT→Option R) (kx:LoopX→Option R) :
    SpecStep N ops f m k b0 v0 v sc st0 [a,b] kn kx (evG (10,(num,())) sc v a b ((k:Int)+1)):=by
  obtain ⟨h1,h2,h4,h5,h6,h7,h8,h9,h10,h11,h12,h13,h14,h15,h16⟩:=ss_pre N ops hl m hm k hk sc h0 st0 hst [a,b] 10 num 2 1 ho rfl rfl (by simp)
  have h17:pGt 1 0=true:=rfl
  have q1:pEq 10 1=false:=rfl
  have q2:pEq 10 2=false:=rfl
  have q3:pEq 10 3=false:=rfl
  have q4:pEq 10 4=false:=rfl
  have q5:pEq 10 5=false:=rfl
  have q6:pEq 10 6=false:=rfl
  have q7:pEq 10 7=false:=rfl
  have q8:pEq 10 8=false:=rfl
  have q9:pEq 10 9=false:=rfl
  have q10:pEq 10 10=true:=rfl
  have i0:idx (pApp [a,b] [0,0]) 0=some a:=rfl
  have i1:idx (pApp [a,b] [0,0]) 1=some b:=rfl
  obtain ⟨x0,c1,c2⟩:=sdone_two N [] [] v sc num 0 (ByteArray.mk #[]) 0 a b hn h0
  refine ⟨(twoS sc num a b).2,[x0],?_,rfl,fun h=>⟨rfl,by rw [(c2 h).1];rfl⟩⟩
  unfold zAX.l5;simp only [h1,h2,hmf,h4,h5,h6,h7,h8,h9,h10,h11,h12,h13,h14,h15,h16,h17,q1,q2,q3,q4,q5,q6,q7,q8,q9,q10,i0,i1,c1,ifB_t,ifB_f,bindO_s]
  rfl
theorem ss_11 {R:Type} (N:Nat) (hN:2000 < N) (num:Int) (ops:List OpT) (hl:ops.length≤1500) (f m:Int) (hm:0≤m∧m≤1000000) (hmf:pEq m (pMul .i64 40 (pAdd .i64 f 1))=false) (k:Nat) (hk:k < ops.length) (ho:ops[k]=(11,(num,()))) (b0:BufT) (v0:SceneT) (v:List Int) (hv:v.length=8) (sc:SceneT) (hs:SInv sc) (h0:sc.2.2.2.1=0) (hbe:sc.2.2.1≤1000000) (st0:List Int) (hst:st0.length≤100) (kn:LoopT→Option R) (kx:LoopX→Option R) :
    SpecStep N ops f m k b0 v0 v sc st0 ([]:List Int) kn kx (evG (11,(num,())) sc v 0 0 ((k:Int)+1)):=by
  obtain ⟨h1,h2,h4,h5,h6,h7,h8,h9,h10,h11,h12,h13,h14,h15,h16⟩:=ss_pre N ops hl m hm k hk sc h0 st0 hst [] 11 num 0 0 ho rfl rfl (by simp)
  have h17:pGt 0 0=false:=rfl
  have q1:pEq 11 1=false:=rfl
  have q2:pEq 11 2=false:=rfl
  have q3:pEq 11 3=false:=rfl
  have q4:pEq 11 4=false:=rfl
  have q5:pEq 11 5=false:=rfl
  have q6:pEq 11 6=false:=rfl
  have q7:pEq 11 7=false:=rfl
  have q8:pEq 11 8=false:=rfl
  have q9:pEq 11 9=false:=rfl
  have q10:pEq 11 10=false:=rfl
  have q11:pEq 11 11=true:=rfl
  refine ⟨sc,[],?_,rfl,fun _=>⟨rfl,rfl⟩⟩
  unfold zAX.l5;simp only [h1,h2,hmf,h4,h5,h6,h7,h8,h9,h10,h11,h12,h13,h14,h15,h16,h17,q1,q2,q3,q4,q5,q6,q7,q8,q9,q10,q11,ifB_t,ifB_f,bindO_s]
  rw [List.append_nil]
  rfl
end Go.AE.F
