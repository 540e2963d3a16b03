/- Plain laws of those functions. -/
import Derived.Test.YtkknmokglbhheaaGreatLMachineP1
namespace Go.AE.F
open Go.AE
theorem wrap_u64 (a:Int):IntKind.u64.wrap a=a % 18446744073709551616:=rfl
theorem conv_u64 (a:Int):0≤pConv .u64 a∧pConv .u64 a < 18446744073709551616:=by
  unfold pConv
  rw [wrap_u64];omega
abbrev SrcT:=List Int×Int×Int×Int×Unit
def srcOk (s:SrcT):Prop:=s.1.length≤1048576∧0≤s.2.1∧s.2.1≤s.1.length∧0≤s.2.2.2.1∧s.2.2.2.1≤12
theorem src_loop {N:Nat} {R:Type} (c:List Int) (hc:c.length≤1048576) (k:List Int×SrcT×Unit→Option R):∀ (m i n:Nat) (st:Int),64 - i=m→i≤64→m < n →
    ∃ st',loopP (zB0.l3 N) n (c,(i:Int),(c,(0,(st,(0,())))),()) k=k (c,(c,(0,(st',(0,())))),()):=by
  intro m
  induction m with
  | zero =>
    intro i n st hm hi hn
    obtain ⟨n,rfl⟩:=succ_of hn
    refine ⟨st,?_⟩
    rw [loopP_s]
    unfold zB0.l3
    simp only []
    rw [ifB_and,bindO_s,pLt_f (a:=(i:Int)) (b:=64) (by omega),Bool.and_false,ifB_f]
  | succ m ih =>
    intro i n st hm hi hn
    obtain ⟨n,rfl⟩:=succ_of hn
    rw [loopP_s]
    unfold zB0.l3
    simp only []
    rw [ifB_and,bindO_s,pLen_d]
    by_cases hl:i < c.length
    · rw [pLt_t (by omega),pLt_t (by omega),Bool.and_self,ifB_t,idx_lt hl,bindO_s,pAdd_i (by omega) (by omega)]
      exact ih (i+1) n _ (by omega) (by omega) (by omega)
    · exact ⟨st,by rw [pLt_f (by omega),Bool.false_and,ifB_f]⟩
theorem source_ok (N:Nat) (c:List Int) (hc:c.length≤1048576) (hN:64 < N):∃ s,zB0 N c=some s∧srcOk s:=by
  unfold zB0
  obtain ⟨st,h⟩:=src_loop (N:=N) c hc (fun d =>
    let x18:=d.1;
    let x19:=d.2.1;
    ifB (pEq 20 0) (
      none) (
      ifB (pGt (pQuo Go.IntKind.i64 (pLen x18) 20) 12) (
        some (x19.1,(x19.2.1,(x19.2.2.1,(12,x19.2.2.2.2))))) (
        some (x19.1,(x19.2.1,(x19.2.2.1,((pQuo Go.IntKind.i64 (pLen x18) 20),x19.2.2.2.2))))))) _ 0 N 88172645463325252 rfl (by omega) (by omega)
  have hq:pQuo .i64 (pLen c) 20=(c.length:Int) / 20:=IntWalk.i64_quo _ _ ⟨by rw [pLen_d];omega,by rw [pLen_d];omega,by omega⟩
  simp only [hq,show pEq 20 0=false from rfl,ifB_f] at h
  by_cases hg:(c.length:Int) / 20 > 12
  · rw [pGt_t hg,ifB_t] at h
    exact ⟨_,h,hc,by simp,by simp,by simp,by simp⟩
  · rw [pGt_f (by omega),ifB_f] at h
    refine ⟨_,h,hc,by simp,by simp,?_,?_⟩
    · show (0:Int)≤(c.length:Int) / 20
      omega
    · show (c.length:Int) / 20≤12
      omega
theorem n_ok (N:Nat) (s:SrcT) (k:Int) (hs:srcOk s) (hk:k≤4611686018427387904):∃ v s',zA9 N s k=some (v,s')∧srcOk s'∧0≤v∧(k≤1→v=0)∧(1 < k→v < k):=by
  obtain ⟨h1,h2,h3,h4,h5⟩:=hs
  unfold zA9
  by_cases hk1:k≤1
  · rw [pLe_t hk1,ifB_t]
    exact ⟨0,s,rfl,⟨h1,h2,h3,h4,h5⟩,by omega,fun _=>rfl,fun h=>by omega⟩
  · have hc:pConv .u64 k=k:=IntWalk.u64_in k ⟨by omega,by omega⟩
    have hr:∀ x y:Int,0≤pConv .i64 (pRem (pAdd .u64 x y) k)∧pConv .i64 (pRem (pAdd .u64 x y) k) < k:=fun x y=>by
      have ⟨a,_⟩:=conv_u64 (x+y)
      have e:pRem (pAdd .u64 x y) k=(pAdd .u64 x y) % k:=Int.tmod_eq_emod_of_nonneg a
      have b1:=Int.emod_nonneg (pAdd .u64 x y) (show k≠0 by omega)
      have b2:=Int.emod_lt_of_pos (pAdd .u64 x y) (show 0 < k by omega)
      rw [e]
      have e2:pConv .i64 (pAdd .u64 x y % k)=pAdd .u64 x y % k:=wrap_i64 (by omega) (by omega)
      rw [e2]
      exact ⟨b1,b2⟩
    rw [pLe_f (by omega),ifB_f,hc]
    simp only [show pLt 13 0=false from rfl,show pLt 7 0=false from rfl,show pLt 17 0=false from rfl,show pLt 20 0=false from rfl,ifB_f,pEq_f (show k≠0 by omega)]
    by_cases hp:s.2.1 < s.1.length
    · obtain ⟨p,hp'⟩:∃ p:Nat,s.2.1=(p:Int):=⟨s.2.1.toNat,by omega⟩
      have hlt:p < s.1.length:=by omega
      have hi:idx s.1 s.2.1=some s.1[p]:=by rw [hp'];exact idx_lt hlt
      rw [pLen_d,pLt_t hp,ifB_t,hi,bindO_s]
      refine ⟨_,_,rfl,⟨h1,?_,?_,h4,h5⟩,(hr _ _).1,fun h=>by omega,fun _=>(hr _ _).2⟩
      · show 0≤pAdd .i64 s.2.1 1
        rw [pAdd_i (by omega) (by omega)];omega
      · show pAdd .i64 s.2.1 1≤_
        rw [pAdd_i (by omega) (by omega)]
        show _≤(s.1.length:Int)
        omega
    · rw [pLen_d,pLt_f (by omega),ifB_f]
      exact ⟨_,_,rfl,⟨h1,h2,h3,h4,h5⟩,(hr _ _).1,fun h=>by omega,fun _=>(hr _ _).2⟩
theorem one_ok (N:Nat) (s:SrcT) (k:Int) (hs:srcOk s) (hk:k≤4611686018427387904):∃ b s',zAI N s k=some (b,s')∧srcOk s':=by
  obtain ⟨v,s',h,hs',_⟩:=n_ok N s k hs hk
  exact ⟨_,s',by unfold zAI;rw [h,bindO_s],hs'⟩
theorem pick_ok (N:Nat) (s:SrcT) (l:List ByteArray) (hs:srcOk s) (h0:0 < l.length) (hk:l.length≤1048576):∃ x s',zBI N s l=some (x,s')∧srcOk s'∧x∈l:=by
  obtain ⟨v,s',h,hs',h1,h2,h3⟩:=n_ok N s (pLen l) hs (by rw [pLen_d];omega)
  rw [pLen_d] at h2 h3
  obtain ⟨p,rfl⟩:∃ p:Nat,v=(p:Int):=⟨v.toNat,by omega⟩
  have hlt:p < l.length:=by
    by_cases q:l.length≤1
    · have:=h2 (by omega);omega
    · have:=h3 (by omega);omega
  exact ⟨l[p],s',by unfold zBI;rw [h,bindO_s,idx_lt hlt,bindO_s],hs',List.getElem_mem hlt⟩
end Go.AE.F
namespace Go.AE.F
open Go.AE
set_option maxRecDepth 100000
theorem lwSame_eq (N:Nat) (a b:List Int) (ha:a.length≤9223372036854775806) (hN:a.length < N):zBG N a b=some (decide (a=b)):=by
  unfold zBG
  simp only [pLen_d]
  by_cases hl:a.length=b.length
  · rw [pNe_f (by omega),ifB_f]
    obtain ⟨h1,h2⟩:=eq_loop (R:=Bool) (P:=fun x y=>some (pNe x y)) (xs:=a) (ys:=b) ha hl (step:=zBG.l4 N) (fun i kn kx=>by simp only [zBG.l4,bindO_s,pLen_d])
      (fun x _ y _=>⟨_,rfl,by rw [pNe_d];simp⟩) (onSum (fun _=>some true) (fun d=>let x43:=d.1;some x43)) _ 0 N rfl (by omega) (by omega)
    rw [List.drop_zero,List.drop_zero] at h1 h2
    by_cases he:a=b
    · rw [decide_eq_true he];exact h1 he
    · rw [decide_eq_false he];exact h2 he
  · rw [pNe_t (by omega),ifB_t,decide_eq_false (fun h=>hl (by rw [h]))]
end Go.AE.F
namespace Go.AE.F
open Go.AE
theorem u64_w (a:Int):IntKind.u64.wrap a=a % 18446744073709551616:=rfl
theorem mask32 (a:Nat) (h:a < 4294967296):pAnd .u64 (a:Int) 4294967295=a:=by
  unfold pAnd
  have e:(BitVec.ofInt IntKind.u64.bits (a:Int) &&& BitVec.ofInt IntKind.u64.bits 4294967295).toNat=a:=by
    show (BitVec.ofInt 64 (a:Int) &&& BitVec.ofInt 64 4294967295).toNat=a
    rw [BitVec.toNat_and]
    have e1:(BitVec.ofInt 64 (a:Int)).toNat=a:=by
      rw [BitVec.ofInt_natCast,BitVec.toNat_ofNat];omega
    have e2:(BitVec.ofInt 64 4294967295).toNat=2 ^ 32 - 1:=rfl
    rw [e1,e2,Nat.and_two_pow_sub_one_eq_mod]
    omega
  rw [e,u64_w];omega
theorem shr32 (a:Nat) (h:a < 4294967296):pShr .u64 (a:Int) 32=0:=by
  unfold pShr
  have e:((2:Int) ^ (min (32:Int).toNat IntKind.u64.bits))=4294967296:=rfl
  rw [e,Int.fdiv_eq_ediv_of_nonneg _ (by omega)]
  omega
theorem mul_small (N:Nat) (n:Nat) (h:n < 4294967296):zCZ N 1 (n:Int)=some (0,(n:Int)):=by
  unfold zCZ zCK
  have s1:pShr .u64 1 32=0:=rfl
  have a1:pAnd .u64 1 4294967295=1:=rfl
  have s0:pShr .u64 0 32=0:=rfl
  have a0:pAnd .u64 0 4294967295=0:=rfl
  have m00:pMul .u64 0 0=0:=rfl
  have m01:pMul .u64 1 0=0:=rfl
  have m0n:pMul .u64 0 (n:Int)=0:=by unfold pMul;rw [u64_w];omega
  have m1n:pMul .u64 1 (n:Int)=n:=by unfold pMul;rw [u64_w];omega
  have p00:pAdd .u64 0 0=0:=rfl
  simp only [show pLt 32 0=false from rfl,ifB_f,s1,a1,shr32 n h,mask32 n h,m00,m01,m0n,m1n,p00,s0,a0,bindO_s]
theorem rep_loop {N:Nat} {R:Type} (v:Int) (L:Nat) (hL:L≤68719476736) (k:List Int×Unit→Option R):∀ (m i n:Nat) (rest:List Int),L - i=m→1≤i→i≤L→rest.length=L - i→m < n →
    loopP (zAB.l8 N) n ((i:Int),List.replicate i v ++ rest,()) k=k (List.replicate L v,()):=by
  intro m
  induction m using Nat.strongRecOn with
  | ind m ih =>
    intro i n rest hm h1 hi hr hn
    obtain ⟨n,rfl⟩:=succ_of hn
    rw [loopP_s];unfold zAB.l8;simp only [pLen_d]
    have hlen:(List.replicate i v ++ rest).length=L:=by simp [hr];omega
    rw [hlen]
    by_cases h0:i=L
    · rw [pLt_f (by omega),ifB_f]
      have:rest=[]:=List.eq_nil_of_length_eq_zero (by omega)
      rw [this,List.append_nil,h0]
    · rw [pLt_t (by omega),ifB_t,pLe_t (by omega),ifB_t,pLe_t (by omega),ifB_t,pLe_t (by omega),ifB_t,pLe_t (by omega),ifB_t,ifB_t,ifB_t]
      have es:sub (List.replicate i v ++ rest) 0 (i:Int)=List.replicate i v:=by
        unfold sub
        simp
      rw [es,List.length_replicate]
      obtain ⟨c,hc,hc1⟩:∃ c:Nat,pMin (pDif (L:Int) i) (i:Int)=(c:Int)∧1≤c∧c≤i∧i+c≤L:=by
        unfold pMin pDif
        by_cases q:(i:Int) < (L:Int) - i
        · rw [if_pos q];exact ⟨i,rfl,h1,Nat.le_refl _,by omega⟩
        · rw [if_neg q];exact ⟨L - i,by omega,by omega,by omega,by omega⟩
      rw [hc,pAdd_i (by omega) (by omega)]
      have ec:pCopy (List.replicate i v ++ rest) (i:Int) (c:Int) (List.replicate i v)=List.replicate (i+c) v ++ rest.drop c:=by
        unfold pCopy
        simp only [Int.toNat_natCast]
        rw [List.take_append_of_le_length (by simp),List.take_of_length_le (by simp),List.take_replicate,Nat.min_eq_left hc1.2.1,List.replicate_append_replicate,List.drop_append,List.length_replicate]
        rw [List.drop_eq_nil_of_le (by simp),List.nil_append]
        congr 2;omega
      rw [ec]
      exact ih (L - (i+c)) (by omega) (i+c) n _ rfl (by omega) (by omega) (by simp;omega) (by omega)
theorem repeat_eq (N:Nat) (v:Int) (n:Nat) (h1:1≤n) (h2:n < 4294967296) (hN:n < N):zAB N [v] (n:Int)=some (List.replicate n v):=by
  unfold zAB
  have e1:pConv .u64 (pLen [v])=1:=rfl
  have e2:pConv .u64 (n:Int)=n:=IntWalk.u64_in _ ⟨by omega,by omega⟩
  have e3:pConv .i64 (n:Int)=n:=wrap_i64 (by omega) (by omega)
  rw [pLt_f (by omega),ifB_f,e1,e2,mul_small N n h2,bindO_s]
  simp only []
  rw [show pGt 0 0=false from rfl,ifB_f,bindO_s,pGt_f (by omega),ifB_f,e3,pEq_t rfl,ifB_t,pLe_t (by omega),ifB_t,pLe_t (by omega),ifB_t]
  have e4:pLen (pRepl (n:Int) (0:Int))=n:=by rw [pLen_d,repl_len]
  rw [e4]
  by_cases hh:n=1
  · subst hh
    have e6:pMin (pDif ((1:Nat):Int) 0) (pLen [v])=((1:Nat):Int):=rfl
    rw [e6]
    have e7:pCopy (pRepl ((1:Nat):Int) 0) 0 ((1:Nat):Int) [v]=List.replicate 1 v ++ []:=rfl
    rw [e7]
    exact rep_loop (N:=N) v 1 (by omega) _ _ 1 N [] rfl (by omega) (by omega) rfl (by omega)
  · have e5:pMin (pDif (n:Int) 0) (pLen [v])=((1:Nat):Int):=by
      unfold pMin pDif
      rw [pLen_d,if_pos (by simp;omega)]
      rfl
    rw [e5]
    have e7:pCopy (pRepl (n:Int) 0) 0 ((1:Nat):Int) [v]=List.replicate 1 v ++ List.replicate (n - 1) 0:=by
      unfold pCopy pRepl
      simp
    rw [e7]
    exact rep_loop (N:=N) v n (by omega) _ _ 1 N _ rfl (by omega) (by omega) (by simp) (by omega)
end Go.AE.F
namespace Go.AE.F
open Go.AE
def pushG (d:Int):List Int→List Int×List Int→Option (List Int×List Int)
  | [],s=>some s
  | k::ks,s =>
    if s.1[k.toNat]?=some (-1) then pushG d ks (s.1.set k.toNat d,s.2 ++ [k])
    else if s.1[k.toNat]?=some d then pushG d ks s
    else none
structure DInv (n:Nat) (s:List Int×List Int):Prop where
  len:s.1.length=n+1
  rng:∀ v∈s.1,-1≤v∧v≤24
  pla:∀ k∈s.2,0≤k∧k≤(n:Int)∧∃ v,s.1[k.toNat]?=some v∧0≤v
def meas (s:List Int×List Int):Nat:=s.1.count (-1)+s.2.length
theorem pushG_inv {n:Nat} {d:Int} (hd:0≤d∧d≤24):∀ (ks:List Int) (s t:List Int×List Int),(∀ k∈ks,0≤k∧k≤(n:Int))→DInv n s→pushG d ks s=some t →
    DInv n t∧meas t=meas s∧t.2.length≤s.2.length+ks.length∧∀ v,s.1[n]?=some v→0≤v→t.1[n]?=some v
  | [],s,t,_,hs,h=>by
    have:=Option.some.inj h
    subst this
    exact ⟨hs,rfl,by simp,fun v hv _=>hv⟩
  | k::ks,s,t,hk,hs,h=>by
    unfold pushG at h
    have hk0:=hk k (by simp)
    have hks:∀ k∈ks,0≤k∧k≤(n:Int):=fun k h=>hk k (by simp [h])
    split at h
    · rename_i h1
      have hlt:k.toNat < s.1.length:=by have:=hs.len;omega
      have hg:s.1[k.toNat]=-1:=by
        rw [List.getElem?_eq_getElem hlt] at h1
        exact Option.some.inj h1
      have hs2:DInv n (s.1.set k.toNat d,s.2 ++ [k]):=by
        refine ⟨by simp [hs.len],?_,?_⟩
        · intro v hv
          rcases List.mem_or_eq_of_mem_set hv with h | h
          · exact hs.rng v h
          · subst h;omega
        · intro j hj
          simp only [List.mem_append,List.mem_singleton] at hj
          rcases hj with hj | hj
          · obtain ⟨a,b,v,hv,hv0⟩:=hs.pla j hj
            refine ⟨a,b,v,?_,hv0⟩
            have hne:k.toNat≠j.toNat:=by
              intro he
              rw [← he,List.getElem?_eq_getElem hlt,hg] at hv
              have:=Option.some.inj hv
              omega
            show (s.1.set k.toNat d)[j.toNat]?=some v
            rw [List.getElem?_set_ne hne]
            exact hv
          · subst hj
            refine ⟨hk0.1,hk0.2,d,?_,hd.1⟩
            show (s.1.set j.toNat d)[j.toNat]?=some d
            rw [List.getElem?_set_self hlt]
      obtain ⟨i1,i2,i3,i4⟩:=pushG_inv hd ks _ t hks hs2 h
      refine ⟨i1,?_,?_,?_⟩
      · rw [i2]
        unfold meas
        simp only [List.length_append,List.length_singleton]
        have hc:(s.1.set k.toNat d).count (-1)=s.1.count (-1) - 1:=by
          rw [List.count_set hlt,hg]
          have:(d == -1)=false:=by simp;omega
          simp [this]
        have hp:0 < s.1.count (-1):=List.count_pos_iff.2 (by rw [← hg];exact List.getElem_mem hlt)
        omega
      · simp only [List.length_append,List.length_singleton] at i3
        simp only [List.length_cons]
        omega
      · intro v hv hv0
        refine i4 v ?_ hv0
        have hne:k.toNat≠n:=by
          intro he
          rw [← he,List.getElem?_eq_getElem hlt,hg] at hv
          have:=Option.some.inj hv
          omega
        show (s.1.set k.toNat d)[n]?=some v
        rw [List.getElem?_set_ne hne]
        exact hv
    · split at h
      · obtain ⟨i1,i2,i3,i4⟩:=pushG_inv hd ks s t hks hs h
        exact ⟨i1,i2,by simp only [List.length_cons];omega,i4⟩
      · exact absurd h (by simp)
theorem pop_inv {n:Nat} {o td:List Int} {k:Int} (h:DInv n (o,td ++ [k])):DInv n (o,td)∧meas (o,td ++ [k])=meas (o,td)+1 :=
  ⟨⟨h.len,h.rng,fun j hj=>h.pla j (List.mem_append_left _ hj)⟩,by unfold meas;simp;omega⟩
end Go.AE.F
