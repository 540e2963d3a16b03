/- Plain laws of those functions. -/
import Derived.Test.YtkknmokglbhheaaGreatLMachineP15
namespace Go.AE.F
open Go.AE
theorem ss_12 {R:Type} (N:Nat) (hN:2000 < N) (num:Int) (ops:List OpT) (hl:ops.length≤1500) (f m:Int) (hm:0≤m∧m≤1000000) (hmf:pEq m (pMul .i64 40 (pAdd .i64 f 1))=false) (k:Nat) (hk:k < ops.length) (ho:ops[k]=(12,(num,()))) (b0:BufT) (v0:SceneT) (v:List Int) (hv:v.length=8) (sc:SceneT) (hs:SInv sc) (h0:sc.2.2.2.1=0) (hbe:sc.2.2.1≤1000000) (st0:List Int) (hst:st0.length≤100) (a:Int) (ha:Bd a) (kn:LoopT→Option R) (kx:LoopX→Option R) :
    SpecStep N ops f m k b0 v0 v sc st0 [a] kn kx (evG (12,(num,())) sc v a 0 ((k:Int)+1)):=by
  obtain ⟨h1,h2,h4,h5,h6,h7,h8,h9,h10,h11,h12,h13,h14,h15,h16⟩:=ss_pre N ops hl m hm k hk sc h0 st0 hst [a] 12 num 1 0 ho rfl rfl (by simp)
  have h17:pGt 0 0=false:=rfl
  have q1:pEq 12 1=false:=rfl
  have q2:pEq 12 2=false:=rfl
  have q3:pEq 12 3=false:=rfl
  have q4:pEq 12 4=false:=rfl
  have q5:pEq 12 5=false:=rfl
  have q6:pEq 12 6=false:=rfl
  have q7:pEq 12 7=false:=rfl
  have q8:pEq 12 8=false:=rfl
  have q9:pEq 12 9=false:=rfl
  have q10:pEq 12 10=false:=rfl
  have q11:pEq 12 11=false:=rfl
  have q12:pEq 12 12=true:=rfl
  have i0:idx (pApp [a] [0,0]) 0=some a:=rfl
  refine ⟨sc,[],?_,rfl,fun _=>⟨rfl,rfl⟩⟩
  by_cases hz:a=0
  · have c1:pEq a 0=true:=pEq_t hz
    have e:(evG (12,(num,())) sc v a 0 ((k:Int)+1))=⟨sc,v,[],num⟩:=by show (⟨sc,v,[],if a=0 then num else (k:Int)+1⟩:EvT)=_;rw [if_pos hz]
    rw [e]
    unfold zAX.l5;simp only [h1,h2,hmf,h4,h5,h6,h7,h8,h9,h10,h11,h12,h13,h14,h15,h16,h17,q1,q2,q3,q4,q5,q6,q7,q8,q9,q10,q11,q12,i0,ifB_t,ifB_f,bindO_s]
    simp only [c1,ifB_t,List.append_nil]
  · have c1:pEq a 0=false:=pEq_f hz
    have e:(evG (12,(num,())) sc v a 0 ((k:Int)+1))=⟨sc,v,[],(k:Int)+1⟩:=by show (⟨sc,v,[],if a=0 then num else (k:Int)+1⟩:EvT)=_;rw [if_neg hz]
    rw [e]
    unfold zAX.l5;simp only [h1,h2,hmf,h4,h5,h6,h7,h8,h9,h10,h11,h12,h13,h14,h15,h16,h17,q1,q2,q3,q4,q5,q6,q7,q8,q9,q10,q11,q12,i0,ifB_t,ifB_f,bindO_s]
    simp only [c1,ifB_f,List.append_nil]
theorem ss_13 {R:Type} (N:Nat) (hN:2000 < N) (num:Int) (ops:List OpT) (hl:ops.length≤1500) (f m:Int) (hm:0≤m∧m≤1000000) (hmf:pEq m (pMul .i64 40 (pAdd .i64 f 1))=false) (k:Nat) (hk:k < ops.length) (ho:ops[k]=(13,(num,()))) (b0:BufT) (v0:SceneT) (v:List Int) (hv:v.length=8) (sc:SceneT) (hs:SInv sc) (h0:sc.2.2.2.1=0) (hbe:sc.2.2.1≤1000000) (st0:List Int) (hst:st0.length≤100) (a:Int) (ha:Bd a) (kn:LoopT→Option R) (kx:LoopX→Option R) :
    SpecStep N ops f m k b0 v0 v sc st0 [a] kn kx (evG (13,(num,())) sc v a 0 ((k:Int)+1)):=by
  obtain ⟨h1,h2,h4,h5,h6,h7,h8,h9,h10,h11,h12,h13,h14,h15,h16⟩:=ss_pre N ops hl m hm k hk sc h0 st0 hst [a] 13 num 1 0 ho rfl rfl (by simp)
  have h17:pGt 0 0=false:=rfl
  have q1:pEq 13 1=false:=rfl
  have q2:pEq 13 2=false:=rfl
  have q3:pEq 13 3=false:=rfl
  have q4:pEq 13 4=false:=rfl
  have q5:pEq 13 5=false:=rfl
  have q6:pEq 13 6=false:=rfl
  have q7:pEq 13 7=false:=rfl
  have q8:pEq 13 8=false:=rfl
  have q9:pEq 13 9=false:=rfl
  have q10:pEq 13 10=false:=rfl
  have q11:pEq 13 11=false:=rfl
  have q12:pEq 13 12=false:=rfl
  have q13:pEq 13 13=true:=rfl
  have i0:idx (pApp [a] [0,0]) 0=some a:=rfl
  have c1:=sact_ins N (by omega) [] [] v sc a 0 h0 hs.1
  have e:evG (13,(num,())) sc v a 0 ((k:Int)+1)=⟨insS sc a,v,[],(k:Int)+1⟩:=rfl
  rw [e]
  clear e
  generalize insS sc a=z at c1 ⊢
  refine ⟨z,[],?_,rfl,fun _=>⟨rfl,rfl⟩⟩
  unfold zAX.l5
  simp only [h1,h2,hmf,h4,h5,ifB_t,ifB_f,bindO_s]
  rw [h6,h7,ifB_t,h8,ifB_t,h9,ifB_t,h11,bindO_s,h12,ifB_t,h10,ifB_t,ifB_t,ifB_t]
  rw [q1,ifB_f,q2,ifB_f,q3,ifB_f,q4,ifB_f,q5,ifB_f,q6,ifB_f,q7,ifB_f,q8,ifB_f,q9,ifB_f,q10,ifB_f,q11,ifB_f,q12,ifB_f,q13,ifB_t,i0,bindO_s,bindO_s,c1,bindO_s,h17,ifB_f,h13,h14,h15,List.append_nil]
theorem ss_14 {R:Type} (N:Nat) (hN:2000 < N) (num:Int) (ops:List OpT) (hl:ops.length≤1500) (f m:Int) (hm:0≤m∧m≤1000000) (hmf:pEq m (pMul .i64 40 (pAdd .i64 f 1))=false) (k:Nat) (hk:k < ops.length) (ho:ops[k]=(14,(num,()))) (b0:BufT) (v0:SceneT) (v:List Int) (hv:v.length=8) (sc:SceneT) (hs:SInv sc) (h0:sc.2.2.2.1=0) (hbe:sc.2.2.1≤1000000) (st0:List Int) (hst:st0.length≤100) (a b:Int) (ha:Bd a) (hb9:Bd b) (kn:LoopT→Option R) (kx:LoopX→Option R) :
    SpecStep N ops f m k b0 v0 v sc st0 [a,b] kn kx (evG (14,(num,())) sc v a b ((k:Int)+1)):=by
  obtain ⟨h1,h2,h4,h5,h6,h7,h8,h9,h10,h11,h12,h13,h14,h15,h16⟩:=ss_pre N ops hl m hm k hk sc h0 st0 hst [a,b] 14 num 2 0 ho rfl rfl (by simp)
  have h17:pGt 0 0=false:=rfl
  have q1:pEq 14 1=false:=rfl
  have q2:pEq 14 2=false:=rfl
  have q3:pEq 14 3=false:=rfl
  have q4:pEq 14 4=false:=rfl
  have q5:pEq 14 5=false:=rfl
  have q6:pEq 14 6=false:=rfl
  have q7:pEq 14 7=false:=rfl
  have q8:pEq 14 8=false:=rfl
  have q9:pEq 14 9=false:=rfl
  have q10:pEq 14 10=false:=rfl
  have q11:pEq 14 11=false:=rfl
  have q12:pEq 14 12=false:=rfl
  have q13:pEq 14 13=false:=rfl
  have q14:pEq 14 14=true:=rfl
  have i0:idx (pApp [a,b] [0,0]) 0=some a:=rfl
  have i1:idx (pApp [a,b] [0,0]) 1=some b:=rfl
  have c1:=sact_del N (by omega) [] [] v sc a b h0 hs.1 ha hb9
  have e:evG (14,(num,())) sc v a b ((k:Int)+1)=⟨tookS sc (replG sc.1 a b []),v,[],(k:Int)+1⟩:=rfl
  rw [e]
  refine ⟨tookS sc (replG sc.1 a b []),[],?_,rfl,fun _=>⟨rfl,rfl⟩⟩
  unfold zAX.l5;simp only [h1,h2,hmf,h4,h5,h6,h7,h8,h9,h10,h11,h12,h13,h14,h15,h16,h17,q1,q2,q3,q4,q5,q6,q7,q8,q9,q10,q11,q12,q13,q14,i0,i1,c1,ifB_t,ifB_f,bindO_s]
  rw [List.append_nil]
theorem ss_15 {R:Type} (N:Nat) (hN:2000 < N) (num:Int) (ops:List OpT) (hl:ops.length≤1500) (f m:Int) (hm:0≤m∧m≤1000000) (hmf:pEq m (pMul .i64 40 (pAdd .i64 f 1))=false) (k:Nat) (hk:k < ops.length) (ho:ops[k]=(15,(num,()))) (b0:BufT) (v0:SceneT) (v:List Int) (hv:v.length=8) (sc:SceneT) (hs:SInv sc) (h0:sc.2.2.2.1=0) (hbe:sc.2.2.1≤1000000) (st0:List Int) (hst:st0.length≤100) (a:Int) (ha:Bd a) (kn:LoopT→Option R) (kx:LoopX→Option R) :
    SpecStep N ops f m k b0 v0 v sc st0 [a] kn kx (evG (15,(num,())) sc v a 0 ((k:Int)+1)):=by
  obtain ⟨h1,h2,h4,h5,h6,h7,h8,h9,h10,h11,h12,h13,h14,h15,h16⟩:=ss_pre N ops hl m hm k hk sc h0 st0 hst [a] 15 num 1 0 ho rfl rfl (by simp)
  have h17:pGt 0 0=false:=rfl
  have q1:pEq 15 1=false:=rfl
  have q2:pEq 15 2=false:=rfl
  have q3:pEq 15 3=false:=rfl
  have q4:pEq 15 4=false:=rfl
  have q5:pEq 15 5=false:=rfl
  have q6:pEq 15 6=false:=rfl
  have q7:pEq 15 7=false:=rfl
  have q8:pEq 15 8=false:=rfl
  have q9:pEq 15 9=false:=rfl
  have q10:pEq 15 10=false:=rfl
  have q11:pEq 15 11=false:=rfl
  have q12:pEq 15 12=false:=rfl
  have q13:pEq 15 13=false:=rfl
  have q14:pEq 15 14=false:=rfl
  have q15:pEq 15 15=true:=rfl
  have i0:idx (pApp [a] [0,0]) 0=some a:=rfl
  have c1:=sact_go N [] [] v sc a 0 h0
  have e:evG (15,(num,())) sc v a 0 ((k:Int)+1)=⟨goS sc a,v,[],(k:Int)+1⟩:=rfl
  rw [e]
  refine ⟨goS sc a,[],?_,rfl,fun _=>⟨rfl,rfl⟩⟩
  unfold zAX.l5;simp only [h1,h2,hmf,h4,h5,h6,h7,h8,h9,h10,h11,h12,h13,h14,h15,h16,h17,q1,q2,q3,q4,q5,q6,q7,q8,q9,q10,q11,q12,q13,q14,q15,i0,c1,ifB_t,ifB_f,bindO_s]
  rw [List.append_nil]
theorem ss_16 {R:Type} (N:Nat) (hN:2000 < N) (num:Int) (ops:List OpT) (hl:ops.length≤1500) (f m:Int) (hm:0≤m∧m≤1000000) (hmf:pEq m (pMul .i64 40 (pAdd .i64 f 1))=false) (k:Nat) (hk:k < ops.length) (ho:ops[k]=(16,(num,()))) (b0:BufT) (v0:SceneT) (v:List Int) (hv:v.length=8) (sc:SceneT) (hs:SInv sc) (h0:sc.2.2.2.1=0) (hbe:sc.2.2.1≤1000000) (st0:List Int) (hst:st0.length≤100) (a:Int) (ha:Bd a) (kn:LoopT→Option R) (kx:LoopX→Option R) :
    SpecStep N ops f m k b0 v0 v sc st0 [a] kn kx (evG (16,(num,())) sc v a 0 ((k:Int)+1)):=by
  obtain ⟨h1,h2,h4,h5,h6,h7,h8,h9,h10,h11,h12,h13,h14,h15,h16⟩:=ss_pre N ops hl m hm k hk sc h0 st0 hst [a] 16 num 1 0 ho rfl rfl (by simp)
  have h17:pGt 0 0=false:=rfl
  have q1:pEq 16 1=false:=rfl
  have q2:pEq 16 2=false:=rfl
  have q3:pEq 16 3=false:=rfl
  have q4:pEq 16 4=false:=rfl
  have q5:pEq 16 5=false:=rfl
  have q6:pEq 16 6=false:=rfl
  have q7:pEq 16 7=false:=rfl
  have q8:pEq 16 8=false:=rfl
  have q9:pEq 16 9=false:=rfl
  have q10:pEq 16 10=false:=rfl
  have q11:pEq 16 11=false:=rfl
  have q12:pEq 16 12=false:=rfl
  have q13:pEq 16 13=false:=rfl
  have q14:pEq 16 14=false:=rfl
  have q15:pEq 16 15=false:=rfl
  have q16:pEq 16 16=true:=rfl
  have i0:idx (pApp [a] [0,0]) 0=some a:=rfl
  have c1:=sact_mark N [] [] v sc a 0 h0
  have e:evG (16,(num,())) sc v a 0 ((k:Int)+1)=⟨markS sc a,v,[],(k:Int)+1⟩:=rfl
  rw [e]
  refine ⟨markS sc a,[],?_,rfl,fun _=>⟨rfl,rfl⟩⟩
  unfold zAX.l5;simp only [h1,h2,hmf,h4,h5,h6,h7,h8,h9,h10,h11,h12,h13,h14,h15,h16,h17,q1,q2,q3,q4,q5,q6,q7,q8,q9,q10,q11,q12,q13,q14,q15,q16,i0,c1,ifB_t,ifB_f,bindO_s]
  rw [List.append_nil]
theorem ss_17 {R:Type} (N:Nat) (hN:2000 < N) (num:Int) (ops:List OpT) (hl:ops.length≤1500) (f m:Int) (hm:0≤m∧m≤1000000) (hmf:pEq m (pMul .i64 40 (pAdd .i64 f 1))=false) (k:Nat) (hk:k < ops.length) (ho:ops[k]=(17,(num,()))) (b0:BufT) (v0:SceneT) (v:List Int) (hv:v.length=8) (sc:SceneT) (hs:SInv sc) (h0:sc.2.2.2.1=0) (hbe:sc.2.2.1≤1000000) (st0:List Int) (hst:st0.length≤100) (kn:LoopT→Option R) (kx:LoopX→Option R) :
    SpecStep N ops f m k b0 v0 v sc st0 ([]:List Int) kn kx (evG (17,(num,())) sc v 0 0 ((k:Int)+1)):=by
  obtain ⟨h1,h2,h4,h5,h6,h7,h8,h9,h10,h11,h12,h13,h14,h15,h16⟩:=ss_pre N ops hl m hm k hk sc h0 st0 hst [] 17 num 0 0 ho rfl rfl (by simp)
  have h17:pGt 0 0=false:=rfl
  have q1:pEq 17 1=false:=rfl
  have q2:pEq 17 2=false:=rfl
  have q3:pEq 17 3=false:=rfl
  have q4:pEq 17 4=false:=rfl
  have q5:pEq 17 5=false:=rfl
  have q6:pEq 17 6=false:=rfl
  have q7:pEq 17 7=false:=rfl
  have q8:pEq 17 8=false:=rfl
  have q9:pEq 17 9=false:=rfl
  have q10:pEq 17 10=false:=rfl
  have q11:pEq 17 11=false:=rfl
  have q12:pEq 17 12=false:=rfl
  have q13:pEq 17 13=false:=rfl
  have q14:pEq 17 14=false:=rfl
  have q15:pEq 17 15=false:=rfl
  have q16:pEq 17 16=false:=rfl
  have q17:pEq 17 17=true:=rfl
  have c1:pAdd .i64 sc.2.2.1 1=sc.2.2.1+1:=pAdd_i (by have:=hs.2.2.2;omega) (by omega)
  refine ⟨(sc.1,(sc.2.1,(sc.2.2.1+1,sc.2.2.2))),[],?_,rfl,fun _=>⟨rfl,rfl⟩⟩
  unfold zAX.l5;simp only [h1,h2,hmf,h4,h5,h6,h7,h8,h9,h10,h11,h12,h13,h14,h15,h16,h17,q1,q2,q3,q4,q5,q6,q7,q8,q9,q10,q11,q12,q13,q14,q15,q16,q17,c1,ifB_t,ifB_f,bindO_s]
  rw [List.append_nil]
  rfl
theorem ss_18 {R:Type} (N:Nat) (hN:2000 < N) (num:Int) (ops:List OpT) (hl:ops.length≤1500) (f m:Int) (hm:0≤m∧m≤1000000) (hmf:pEq m (pMul .i64 40 (pAdd .i64 f 1))=false) (k:Nat) (hk:k < ops.length) (ho:ops[k]=(18,(num,()))) (b0:BufT) (v0:SceneT) (v:List Int) (hv:v.length=8) (sc:SceneT) (hs:SInv sc) (h0:sc.2.2.2.1=0) (hbe:sc.2.2.1≤1000000) (st0:List Int) (hst:st0.length≤100) (kn:LoopT→Option R) (kx:LoopX→Option R) :
    SpecStep N ops f m k b0 v0 v sc st0 ([]:List Int) kn kx (evG (18,(num,())) sc v 0 0 ((k:Int)+1)):=by
  obtain ⟨h1,h2,h4,h5,h6,h7,h8,h9,h10,h11,h12,h13,h14,h15,h16⟩:=ss_pre N ops hl m hm k hk sc h0 st0 hst [] 18 num 0 0 ho rfl rfl (by simp)
  have h17:pGt 0 0=false:=rfl
  have q1:pEq 18 1=false:=rfl
  have q2:pEq 18 2=false:=rfl
  have q3:pEq 18 3=false:=rfl
  have q4:pEq 18 4=false:=rfl
  have q5:pEq 18 5=false:=rfl
  have q6:pEq 18 6=false:=rfl
  have q7:pEq 18 7=false:=rfl
  have q8:pEq 18 8=false:=rfl
  have q9:pEq 18 9=false:=rfl
  have q10:pEq 18 10=false:=rfl
  have q11:pEq 18 11=false:=rfl
  have q12:pEq 18 12=false:=rfl
  have q13:pEq 18 13=false:=rfl
  have q14:pEq 18 14=false:=rfl
  have q15:pEq 18 15=false:=rfl
  have q16:pEq 18 16=false:=rfl
  have q17:pEq 18 17=false:=rfl
  have q18:pEq 18 18=true:=rfl
  have c1:=smove_eq N sc.1 num hN (by have:=ptsG_len (bufG_iff.1 hs.1).1;omega)
  have e:evG (18,(num,())) sc v 0 0 ((k:Int)+1)=⟨(moveB sc.1 num,sc.2),v,[],(k:Int)+1⟩:=rfl
  rw [e]
  refine ⟨(moveB sc.1 num,sc.2),[],?_,rfl,fun _=>⟨rfl,rfl⟩⟩
  unfold zAX.l5;simp only [h1,h2,hmf,h4,h5,h6,h7,h8,h9,h10,h11,h12,h13,h14,h15,h16,h17,q1,q2,q3,q4,q5,q6,q7,q8,q9,q10,q11,q12,q13,q14,q15,q16,q17,q18,c1,ifB_t,ifB_f,bindO_s]
  rw [List.append_nil]
end Go.AE.F
namespace Go.AE.F
open Go.AE
theorem len0 {g:List Int} (h:(g.length:Int)=0):g=[]:=List.eq_nil_of_length_eq_zero (by omega)
theorem len1 {g:List Int} (h:(g.length:Int)=1):∃ a,g=[a]:=List.length_eq_one_iff.1 (by omega)
theorem len2 {g:List Int} (h:(g.length:Int)=2):∃ a b,g=[a,b]:=by
  have h:g.length=2:=by omega
  match g,h with
  | [a,b],_=>exact ⟨a,b,rfl⟩
theorem op_all (N:Nat) (hN:2000 < N) {o:OpT} {n:Int} (ho:opG o n=true) (sc:SceneT) (hs:SInv sc) (hbe:sc.2.2.1≤1000000) (st g:List Int) (hst:st.length≤100) (hg:(g.length:Int)=(takesG o.1).1) (hgb:∀ x∈g,Bd x) (v:List Int) (hv:v.length=8) (p:Int) (hp:0≤p∧p≤2000) :
    zAP N (sc,(st ++ g,(tupN v,(p,())))) o=some ((evG o sc v ((g[0]?).getD 0) ((g[1]?).getD 0) (p+1)).sc,(st ++ (evG o sc v ((g[0]?).getD 0) ((g[1]?).getD 0) (p+1)).put,(tupN (evG o sc v ((g[0]?).getD 0) ((g[1]?).getD 0) (p+1)).v,((evG o sc v ((g[0]?).getD 0) ((g[1]?).getD 0) (p+1)).at',())))):=by
  have hk:=op_kind ho
  obtain ⟨n2,n3,n10⟩:=op_nums ho
  obtain ⟨kk,num,u⟩:=o
  simp only at hk n2 n3 n10
  have hf:0≤sc.2.1∧sc.2.1≤5000:=⟨hs.2.1,hs.2.2.1⟩
  have hbe2:0≤sc.2.2.1∧sc.2.2.1≤1000000000:=⟨hs.2.2.2,by omega⟩
  rcases (by omega:kk=1 ∨ kk=2 ∨ kk=3 ∨ kk=4 ∨ kk=5 ∨ kk=6 ∨ kk=7 ∨ kk=8 ∨ kk=9 ∨ kk=10 ∨ kk=11 ∨ kk=12 ∨ kk=13 ∨ kk=14 ∨ kk=15 ∨ kk=16 ∨ kk=17 ∨ kk=18) with rfl | rfl | rfl | rfl | rfl | rfl | rfl | rfl | rfl | rfl | rfl | rfl | rfl | rfl | rfl | rfl | rfl | rfl
  · obtain rfl:=len0 (g:=g) hg
    rw [List.append_nil]
    exact op_1 N hN num sc hs.1 hf hbe2 st hst v hv p hp
  · obtain rfl:=len0 (g:=g) hg
    rw [List.append_nil]
    exact op_2 N hN num sc hs.1 hf hbe2 st hst v hv p hp
  · obtain rfl:=len0 (g:=g) hg
    rw [List.append_nil]
    exact op_3 N hN num sc hs.1 hf hbe2 st hst v hv p hp (n3 (.inl rfl))
  · obtain ⟨a,rfl⟩:=len1 (g:=g) hg
    exact op_4 N hN num sc hs.1 hf hbe2 st hst v hv p hp (n3 (.inr rfl)) a (hgb a (by simp))
  · obtain rfl:=len0 (g:=g) hg
    rw [List.append_nil]
    exact op_5 N hN num sc hs.1 hf hbe2 st hst v hv p hp
  · obtain rfl:=len0 (g:=g) hg
    rw [List.append_nil]
    exact op_6 N hN num sc hs.1 hf hbe2 st hst v hv p hp
  · obtain rfl:=len0 (g:=g) hg
    rw [List.append_nil]
    exact op_7 N hN num sc hs.1 hf hbe2 st hst v hv p hp
  · obtain ⟨a,rfl⟩:=len1 (g:=g) hg
    exact op_8 N hN num sc hs.1 hf hbe2 st hst v hv p hp a (hgb a (by simp))
  · obtain ⟨a,rfl⟩:=len1 (g:=g) hg
    exact op_9 N hN num sc hs.1 hf hbe2 st hst v hv p hp a (hgb a (by simp))
  · obtain ⟨a,b,rfl⟩:=len2 (g:=g) hg
    exact op_10 N hN num sc hs.1 hf hbe2 st hst v hv p hp (n10 rfl) a b (hgb a (by simp)) (hgb b (by simp))
  · obtain rfl:=len0 (g:=g) hg
    rw [List.append_nil]
    exact op_11 N hN num sc hs.1 hf hbe2 st hst v hv p hp
  · obtain ⟨a,rfl⟩:=len1 (g:=g) hg
    exact op_12 N hN num sc hs.1 hf hbe2 st hst v hv p hp a (hgb a (by simp))
  · obtain ⟨a,rfl⟩:=len1 (g:=g) hg
    exact op_13 N hN num sc hs.1 hf hbe2 st hst v hv p hp a (hgb a (by simp))
  · obtain ⟨a,b,rfl⟩:=len2 (g:=g) hg
    exact op_14 N hN num sc hs.1 hf hbe2 st hst v hv p hp a b (hgb a (by simp)) (hgb b (by simp))
  · obtain ⟨a,rfl⟩:=len1 (g:=g) hg
    exact op_15 N hN num sc hs.1 hf hbe2 st hst v hv p hp a (hgb a (by simp))
  · obtain ⟨a,rfl⟩:=len1 (g:=g) hg
    exact op_16 N hN num sc hs.1 hf hbe2 st hst v hv p hp a (hgb a (by simp))
  · obtain rfl:=len0 (g:=g) hg
    rw [List.append_nil]
    exact op_17 N hN num sc hs.1 hf hbe2 st hst v hv p hp
  · obtain rfl:=len0 (g:=g) hg
    rw [List.append_nil]
    exact op_18 N hN num sc hs.1 hf hbe2 st hst v hv p hp
theorem ss_all {R:Type} (N:Nat) (hN:2000 < N) (ops:List OpT) (hl:ops.length≤1500) (f m:Int) (hm:0≤m∧m≤1000000) (hmf:pEq m (pMul .i64 40 (pAdd .i64 f 1))=false) (k:Nat) (hk:k < ops.length) {n:Int} (ho:opG ops[k] n=true) (b0:BufT) (v0:SceneT) (v:List Int) (hv:v.length=8) (sc:SceneT) (hs:SInv sc) (h0:sc.2.2.2.1=0) (hbe:sc.2.2.1≤1000000) (st g:List Int) (hst:st.length≤100)
    (hg:(g.length:Int)=(takesG ops[k].1).1) (hgb:∀ x∈g,Bd x) (kn:LoopT→Option R) (kx:LoopX→Option R) :
    SpecStep N ops f m k b0 v0 v sc st g kn kx (evG ops[k] sc v ((g[0]?).getD 0) ((g[1]?).getD 0) ((k:Int)+1)):=by
  have hkd:=op_kind ho
  obtain ⟨n2,n3,n10⟩:=op_nums ho
  generalize he:ops[k]=o at hg hkd n2 n3 n10 ⊢
  obtain ⟨kk,num,u⟩:=o
  simp only at hkd n2 n3 n10
  rcases (by omega:kk=1 ∨ kk=2 ∨ kk=3 ∨ kk=4 ∨ kk=5 ∨ kk=6 ∨ kk=7 ∨ kk=8 ∨ kk=9 ∨ kk=10 ∨ kk=11 ∨ kk=12 ∨ kk=13 ∨ kk=14 ∨ kk=15 ∨ kk=16 ∨ kk=17 ∨ kk=18) with rfl | rfl | rfl | rfl | rfl | rfl | rfl | rfl | rfl | rfl | rfl | rfl | rfl | rfl | rfl | rfl | rfl | rfl
  · obtain rfl:=len0 (g:=g) hg
    exact ss_1 N hN num ops hl f m hm hmf k hk he b0 v0 v hv sc hs h0 hbe st hst kn kx
  · obtain rfl:=len0 (g:=g) hg
    exact ss_2 N hN num ops hl f m hm hmf k hk he b0 v0 v hv sc hs h0 hbe st hst kn kx
  · obtain rfl:=len0 (g:=g) hg
    exact ss_3 N hN num ops hl f m hm hmf k hk he b0 v0 v hv sc hs h0 hbe st hst (n3 (.inl rfl)) kn kx
  · obtain ⟨a,rfl⟩:=len1 (g:=g) hg
    exact ss_4 N hN num ops hl f m hm hmf k hk he b0 v0 v hv sc hs h0 hbe st hst a (hgb a (by simp)) (n3 (.inr rfl)) kn kx
  · obtain rfl:=len0 (g:=g) hg
    exact ss_5 N hN num ops hl f m hm hmf k hk he b0 v0 v hv sc hs h0 hbe st hst kn kx
  · obtain rfl:=len0 (g:=g) hg
    exact ss_6 N hN num ops hl f m hm hmf k hk he b0 v0 v hv sc hs h0 hbe st hst kn kx
  · obtain rfl:=len0 (g:=g) hg
    exact ss_7 N hN num ops hl f m hm hmf k hk he b0 v0 v hv sc hs h0 hbe st hst kn kx
  · obtain ⟨a,rfl⟩:=len1 (g:=g) hg
    exact ss_8 N hN num ops hl f m hm hmf k hk he b0 v0 v hv sc hs h0 hbe st hst a (hgb a (by simp)) kn kx
  · obtain ⟨a,rfl⟩:=len1 (g:=g) hg
    exact ss_9 N hN num ops hl f m hm hmf k hk he b0 v0 v hv sc hs h0 hbe st hst a (hgb a (by simp)) kn kx
  · obtain ⟨a,b,rfl⟩:=len2 (g:=g) hg
    exact ss_10 N hN num ops hl f m hm hmf k hk he b0 v0 v hv sc hs h0 hbe st hst a b (hgb a (by simp)) (hgb b (by simp)) (n10 rfl) kn kx
  · obtain rfl:=len0 (g:=g) hg
    exact ss_11 N hN num ops hl f m hm hmf k hk he b0 v0 v hv sc hs h0 hbe st hst kn kx
  · obtain ⟨a,rfl⟩:=len1 (g:=g) hg
    exact ss_12 N hN num ops hl f m hm hmf k hk he b0 v0 v hv sc hs h0 hbe st hst a (hgb a (by simp)) kn kx
  · obtain ⟨a,rfl⟩:=len1 (g:=g) hg
    exact ss_13 N hN num ops hl f m hm hmf k hk he b0 v0 v hv sc hs h0 hbe st hst a (hgb a (by simp)) kn kx
  · obtain ⟨a,b,rfl⟩:=len2 (g:=g) hg
    exact ss_14 N hN num ops hl f m hm hmf k hk he b0 v0 v hv sc hs h0 hbe st hst a b (hgb a (by simp)) (hgb b (by simp)) kn kx
  · obtain ⟨a,rfl⟩:=len1 (g:=g) hg
    exact ss_15 N hN num ops hl f m hm hmf k hk he b0 v0 v hv sc hs h0 hbe st hst a (hgb a (by simp)) kn kx
  · obtain ⟨a,rfl⟩:=len1 (g:=g) hg
    exact ss_16 N hN num ops hl f m hm hmf k hk he b0 v0 v hv sc hs h0 hbe st hst a (hgb a (by simp)) kn kx
  · obtain rfl:=len0 (g:=g) hg
    exact ss_17 N hN num ops hl f m hm hmf k hk he b0 v0 v hv sc hs h0 hbe st hst kn kx
  · obtain rfl:=len0 (g:=g) hg
    exact ss_18 N hN num ops hl f m hm hmf k hk he b0 v0 v hv sc hs h0 hbe st hst kn kx
end Go.AE.F
