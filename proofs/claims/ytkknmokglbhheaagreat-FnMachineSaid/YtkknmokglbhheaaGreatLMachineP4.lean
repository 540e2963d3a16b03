/- Plain laws of those functions. -/
import Derived.Test.YtkknmokglbhheaaGreatLMachineP3
namespace Go.AE.F
open Go.AE
theorem idx_last {A:Type} (l:List A) (x:A):idx (l ++ [x]) (l.length:Int)=some x:=by rw [idx_n];simp
theorem sub_init {A:Type} (l:List A) (x:A):sub (l ++ [x]) 0 (l.length:Int)=l:=by unfold sub;simp
theorem next_le (o:OpT) (k:Int):(nextG o k).length≤2:=by
  unfold nextG
  split
  · simp
  · split <;> simp
theorem next_in {ops:List OpT} (hop:opsG ops=true) {k:Nat} (hk:k < ops.length) {L:Nat} (hL:L=ops.length+1):∀ j∈nextG ops[k] (k:Int),0≤j∧j < (L:Int):=by
  have hr:opG ops[k] ops.length=true:=List.all_eq_true.1 hop _ (List.getElem_mem hk)
  intro j hj
  unfold nextG at hj
  split at hj
  · rename_i h
    have:=op_num hr (.inl h)
    simp only [List.mem_singleton] at hj
    subst hj;omega
  · split at hj
    · rename_i h
      have:=op_num hr (.inr h)
      simp only [List.mem_cons,List.not_mem_nil,or_false] at hj
      rcases hj with hj | hj
      · subst hj;omega
      · subst hj;omega
    · simp only [List.mem_singleton] at hj
      subst hj;omega
theorem spec_step {N:Nat} {R:Type} (hN:10 < N) (ops:List OpT) (hl:ops.length≤1500) (hop:opsG ops=true) (out td:List Int) (k:Nat) (n:Nat) (hi:DInv ops.length (out,td ++ [(k:Int)])) (ht:td.length≤2000)
    (kk:(Int×List Int×Unit) ⊕ (Bool×List Int×Unit)→Option R) :
    (k=ops.length→loopP (zA7.l9 N) (n+1) (ops,(ops.length:Int),out,td ++ [(k:Int)],()) kk=loopP (zA7.l9 N) n (ops,(ops.length:Int),out,td,()) kk) ∧
    (∀ h:k < ops.length,∃ out',loopP (zA7.l9 N) (n+1) (ops,(ops.length:Int),out,td ++ [(k:Int)],()) kk=match stepG ops (out,td) k ops[k] with | some t=>loopP (zA7.l9 N) n (ops,(ops.length:Int),t.1,t.2,()) kk | none=>kk (.inr (false,out',()))):=by
  have e1:pLen (td ++ [(k:Int)])=((td.length+1:Nat):Int):=by rw [pLen_d];simp
  have e2:pSub .i64 ((td.length+1:Nat):Int) 1=(td.length:Int):=by rw [pSub_i (by omega) (by omega)];omega
  constructor
  · intro hk
    rw [loopP_s];unfold zA7.l9;simp only []
    rw [e1,e2,pGt_t (by omega),ifB_t,idx_last,bindO_s,bindO_s,pLe_t (by omega),ifB_t,pLe_t (by omega),ifB_t,pLe_t (by omega),ifB_t,pEq_t (by omega),ifB_t,sub_init]
  · intro hk
    have hlen:out.length=ops.length+1:=hi.len
    have hko:k < out.length:=by omega
    obtain ⟨_,_,v,hv,hv0⟩:=hi.pla (k:Int) (by simp)
    have hv':out[k]=v:=by
      have:out[k]?=some v:=hv
      rw [List.getElem?_eq_getElem hko] at this
      exact Option.some.inj this
    have hv24:v≤24:=by
      have:=hi.rng v (by rw [← hv'];exact List.getElem_mem hko)
      exact this.2
    obtain ⟨a0,a1,b0,b1⟩:=takes_bd ops[k].1
    have hd:(out[k]?.getD 0)=v:=by rw [List.getElem?_eq_getElem hko,hv'];rfl
    rw [loopP_s];unfold zA7.l9;simp only []
    rw [e1,e2,pGt_t (by omega),ifB_t,idx_last,bindO_s,bindO_s,pLe_t (by omega),ifB_t,pLe_t (by omega),ifB_t,pLe_t (by omega),ifB_t,pEq_f (by omega),ifB_f,sub_init]
    simp only [idx_lt hk,idx_lt hko,bindO_s,spec_takes,hv']
    rw [pSub_i (by omega) (by omega),pAdd_i (a:=v - _) (by omega) (by omega),pAdd_i (a:=(k:Int)) (by omega) (by omega),ifB_or,bindO_s]
    unfold stepG
    simp only [hd]
    by_cases hf:v - (takesG ops[k].1).1 < 0 ∨ v - (takesG ops[k].1).1+(takesG ops[k].1).2 > 24
    · rw [if_pos hf]
      refine ⟨out,?_⟩
      have:(pLt (v - (takesG ops[k].1).1) 0 || pGt (v - (takesG ops[k].1).1+(takesG ops[k].1).2) 24)=true:=by
        rw [pLt_d,pGt_d]
        simpa using hf
      rw [this,ifB_t]
    · rw [if_neg hf]
      have:(pLt (v - (takesG ops[k].1).1) 0 || pGt (v - (takesG ops[k].1).1+(takesG ops[k].1).2) 24)=false:=by
        rw [pLt_d,pGt_d]
        simpa using hf
      rw [this,ifB_f]
      have hn:=next_in hop hk (L:=out.length) hlen
      have h2:=next_le ops[k] (k:Int)
      have key:=fun kk2=>spec_push (N:=N) (R:=R) ops (ops.length:Int) (v - (takesG ops[k].1).1+(takesG ops[k].1).2) (nextG ops[k] k) h2 kk2 _ 0 N (out,td) hn (by have:(out,td).2.length=td.length:=rfl;omega) rfl (by omega) (by omega)
      by_cases h11:ops[k].1=11
      · have hx:nextG ops[k] (k:Int)=[ops[k].2.1]:=by unfold nextG;rw [if_pos h11]
        rw [pEq_t h11,ifB_t]
        rw [hx] at key ⊢
        obtain ⟨o',h⟩:=key _
        refine ⟨o',h.trans ?_⟩
        rw [List.drop_zero]
        cases pushG _ _ (out,td) <;> rfl
      · rw [pEq_f h11,ifB_f]
        by_cases h12:ops[k].1=12
        · have hx:nextG ops[k] (k:Int)=[(k:Int)+1,ops[k].2.1]:=by unfold nextG;rw [if_neg h11,if_pos h12]
          rw [pEq_t h12,ifB_t,pFit_t (by simp),ifB_t]
          rw [hx] at key ⊢
          obtain ⟨o',h⟩:=key _
          refine ⟨o',h.trans ?_⟩
          rw [List.drop_zero]
          cases pushG _ _ (out,td) <;> rfl
        · have hx:nextG ops[k] (k:Int)=[(k:Int)+1]:=by unfold nextG;rw [if_neg h11,if_neg h12]
          rw [pEq_f h12,ifB_f]
          rw [hx] at key ⊢
          obtain ⟨o',h⟩:=key _
          refine ⟨o',h.trans ?_⟩
          rw [List.drop_zero]
          cases pushG _ _ (out,td) <;> rfl
theorem impl_step {N:Nat} {R:Type} (hN:10 < N) (ops:List OpT) (hl:ops.length≤1500) (hop:opsG ops=true) (out td:List Int) (k:Nat) (n:Nat) (hi:DInv ops.length (out,td ++ [(k:Int)])) (ht:td.length≤2000)
    (kk:(List Int×Unit) ⊕ (Bool×List Int×Unit)→Option R) :
    (k=ops.length→loopP (zAN.l7 N) (n+1) (ops,(ops.length:Int),out,td ++ [(k:Int)],()) kk=if out[k]?=some 0 then loopP (zAN.l7 N) n (ops,(ops.length:Int),out,td,()) kk else kk (.inr (false,[],()))) ∧
    (∀ h:k < ops.length,loopP (zAN.l7 N) (n+1) (ops,(ops.length:Int),out,td ++ [(k:Int)],()) kk=match stepG ops (out,td) k ops[k] with | some t=>loopP (zAN.l7 N) n (ops,(ops.length:Int),t.1,t.2,()) kk | none=>kk (.inr (false,[],()))):=by
  have e1:pLen (td ++ [(k:Int)])=((td.length+1:Nat):Int):=by rw [pLen_d];simp
  have e2:pSub .i64 ((td.length+1:Nat):Int) 1=(td.length:Int):=by rw [pSub_i (by omega) (by omega)];omega
  have hlen:out.length=ops.length+1:=hi.len
  constructor
  · intro hk
    have hko:k < out.length:=by omega
    rw [loopP_s];unfold zAN.l7;simp only []
    rw [e1,e2,pGt_t (by omega),ifB_t,idx_last,bindO_s,bindO_s,pLe_t (by omega),ifB_t,pLe_t (by omega),ifB_t,pLe_t (by omega),ifB_t,pEq_t (by omega),ifB_t,sub_init,← hk,idx_lt hko,bindO_s,bindO_s,List.getElem?_eq_getElem hko]
    by_cases h0:out[k]=0
    · rw [pNe_f h0,ifB_f,if_pos (by rw [h0])]
    · rw [pNe_t h0,ifB_t,if_neg (fun q=>h0 (Option.some.inj q))]
  · intro hk
    have hko:k < out.length:=by omega
    obtain ⟨_,_,v,hv,hv0⟩:=hi.pla (k:Int) (by simp)
    have hv':out[k]=v:=by
      have:out[k]?=some v:=hv
      rw [List.getElem?_eq_getElem hko] at this
      exact Option.some.inj this
    have hv24:v≤24:=by
      have:=hi.rng v (by rw [← hv'];exact List.getElem_mem hko)
      exact this.2
    obtain ⟨a0,a1,b0,b1⟩:=takes_bd ops[k].1
    have hd:(out[k]?.getD 0)=v:=by rw [List.getElem?_eq_getElem hko,hv'];rfl
    rw [loopP_s];unfold zAN.l7;simp only []
    rw [e1,e2,pGt_t (by omega),ifB_t,idx_last,bindO_s,bindO_s,pLe_t (by omega),ifB_t,pLe_t (by omega),ifB_t,pLe_t (by omega),ifB_t,pEq_f (by omega),ifB_f,sub_init]
    simp only [idx_lt hk,idx_lt hko,bindO_s,impl_takes_eq,hv']
    rw [pSub_i (by omega) (by omega),pAdd_i (a:=v - _) (by omega) (by omega),pAdd_i (a:=(k:Int)) (by omega) (by omega),ifB_or,bindO_s]
    unfold stepG
    simp only [hd]
    by_cases hf:v - (takesG ops[k].1).1 < 0 ∨ v - (takesG ops[k].1).1+(takesG ops[k].1).2 > 24
    · rw [if_pos hf]
      have:(pLt (v - (takesG ops[k].1).1) 0 || pGt (v - (takesG ops[k].1).1+(takesG ops[k].1).2) 24)=true:=by
        rw [pLt_d,pGt_d]
        simpa using hf
      rw [this,ifB_t]
    · rw [if_neg hf]
      have:(pLt (v - (takesG ops[k].1).1) 0 || pGt (v - (takesG ops[k].1).1+(takesG ops[k].1).2) 24)=false:=by
        rw [pLt_d,pGt_d]
        simpa using hf
      rw [this,ifB_f]
      have hn:=next_in hop hk (L:=out.length) hlen
      have h2:=next_le ops[k] (k:Int)
      have key:=fun kk2=>impl_pushOp (N:=N) (R:=R) ops (ops.length:Int) (v - (takesG ops[k].1).1) (takesG ops[k].1).2 (nextG ops[k] k) (by omega) h2 kk2 _ 0 N (out,td) hn (by have:(out,td).2.length=td.length:=rfl;omega) rfl (by omega) (by omega)
      by_cases h11:ops[k].1=11
      · have hx:nextG ops[k] (k:Int)=[ops[k].2.1]:=by unfold nextG;rw [if_pos h11]
        rw [pNe_f h11,ifB_f,pEq_t h11,ifB_t,bindO_s,ifB_t,pFit_t (by simp),ifB_t]
        rw [hx] at key ⊢
        refine (key _).trans ?_
        rw [List.drop_zero]
        cases pushG _ _ (out,td) <;> rfl
      · rw [pNe_t h11,ifB_t,pFit_t (by simp),ifB_t,pEq_f h11,ifB_f,bindO_s]
        by_cases h12:ops[k].1=12
        · have hx:nextG ops[k] (k:Int)=[(k:Int)+1,ops[k].2.1]:=by unfold nextG;rw [if_neg h11,if_pos h12]
          rw [pEq_t h12,ifB_t,pFit_t (by simp [pApp]),ifB_t]
          rw [hx] at key ⊢
          refine (key _).trans ?_
          rw [List.drop_zero]
          cases pushG _ _ (out,td) <;> rfl
        · have hx:nextG ops[k] (k:Int)=[(k:Int)+1]:=by unfold nextG;rw [if_neg h11,if_neg h12]
          rw [pEq_f h12,ifB_f]
          rw [hx] at key ⊢
          refine (key _).trans ?_
          rw [List.drop_zero]
          cases pushG _ _ (out,td) <;> rfl
theorem step_inv {ops:List OpT} (hop:opsG ops=true) {out td:List Int} {k:Nat} (hk:k < ops.length) (hi:DInv ops.length (out,td)) {t:List Int×List Int} (h:stepG ops (out,td) k ops[k]=some t) :
    DInv ops.length t∧meas t=meas (out,td)∧∃ d,pushG d (nextG ops[k] k) (out,td)=some t∧0≤d∧d≤24:=by
  unfold stepG at h
  simp only [] at h
  split at h
  · cases h
  · rename_i hf
    have hd:0≤(out[k]?.getD 0) - (takesG ops[k].1).1+(takesG ops[k].1).2∧(out[k]?.getD 0) - (takesG ops[k].1).1+(takesG ops[k].1).2≤24:=by
      have:=takes_bd ops[k].1
      omega
    obtain ⟨h1,h2,h3,h4⟩:=pushG_inv hd _ _ _ (fun j hj=>by have:=next_in hop hk rfl j hj;omega) hi h
    exact ⟨h1,h2,_,h,hd⟩
def JInv (n:Nat) (s:List Int×List Int):Prop:=∀ v,s.1[n]?=some v→0 < v→(n:Int)∈s.2
theorem pushG_J {n:Nat} {d:Int}:∀ (ks:List Int) (s t:List Int×List Int),(∀ k∈ks,0≤k)→JInv n s→pushG d ks s=some t→JInv n t
  | [],s,t,_,hs,h=>by
    have:=Option.some.inj h
    subst this
    exact hs
  | k::ks,s,t,hk,hs,h=>by
    unfold pushG at h
    have hk0:=hk k (by simp)
    have hks:∀ k∈ks,0≤k:=fun k h=>hk k (by simp [h])
    split at h
    · refine pushG_J ks _ t hks ?_ h
      intro v hv h0
      by_cases he:k.toNat=n
      · show (n:Int)∈s.2 ++ [k]
        simp only [List.mem_append,List.mem_singleton]
        exact .inr (by omega)
      · have hv':(s.1.set k.toNat d)[n]?=some v:=hv
        rw [List.getElem?_set_ne he] at hv'
        exact List.mem_append_left _ (hs v hv' h0)
    · split at h
      · exact pushG_J ks s t hks hs h
      · cases h
def specEnd:(Int×List Int×Unit) ⊕ (Bool×List Int×Unit)→Option (List Int×Bool) :=
  onSum (fun d =>
        let x281:=d.1;
        let x282:=d.2.1;
        bindO (idx x282 x281) fun y283 =>
        bindO (idx x282 x281) fun y284 =>
        some (x282,(pLe y284 0))) (
      fun d =>
      let x285:=d.1;
      let x286:=d.2.1;
      some (x286,x285))
def implEnd:(List Int×Unit) ⊕ (Bool×List Int×Unit)→Option (List Int×Bool) :=
  onSum (fun d =>
        let x288:=d.1;
        some (x288,true)) (
      fun d =>
      let x289:=d.1;
      let x290:=d.2.1;
      some (x290,x289))
theorem spec_bad {N:Nat} (hN:10 < N) (ops:List OpT) (hl:ops.length≤1500) (hop:opsG ops=true):∀ (m n:Nat) (out td:List Int) (v:Int),meas (out,td)=m→m < n→m≤2000→DInv ops.length (out,td)→out[ops.length]?=some v→0 < v →
    ∃ o,loopP (zA7.l9 N) n (ops,(ops.length:Int),out,td,()) specEnd=some (o,false):=by
  intro m
  induction m with
  | zero =>
    intro n out td v hm hn h2 hi hv h0
    obtain ⟨n,rfl⟩:=succ_of hn
    have hl0:td.length=0:=by unfold meas at hm;simp only [] at hm;omega
    have htd:td=[]:=List.eq_nil_of_length_eq_zero hl0
    subst htd
    refine ⟨out,?_⟩
    have hx:idx out (ops.length:Int)=some v:=by rw [idx_n];exact hv
    rw [loopP_s];unfold zA7.l9;simp only []
    rw [show pGt (pLen ([]:List Int)) 0=false from rfl,ifB_f]
    unfold specEnd
    simp only [onSum]
    rw [hx,bindO_s,bindO_s,pLe_f h0]
  | succ m ih =>
    intro n out td v hm hn h2 hi hv h0
    obtain ⟨n,rfl⟩:=succ_of hn
    rcases List.eq_nil_or_concat td with htd | ⟨td',k,htd⟩
    · subst htd
      refine ⟨out,?_⟩
      have hx:idx out (ops.length:Int)=some v:=by rw [idx_n];exact hv
      rw [loopP_s];unfold zA7.l9;simp only []
      rw [show pGt (pLen ([]:List Int)) 0=false from rfl,ifB_f]
      unfold specEnd
      simp only [onSum]
      rw [hx,bindO_s,bindO_s,pLe_f h0]
    · rw [List.concat_eq_append] at htd
      subst htd
      obtain ⟨hi2,hm2⟩:=pop_inv hi
      obtain ⟨k0,k1,_⟩:=hi.pla k (by simp)
      obtain ⟨q,rfl⟩:∃ q:Nat,k=(q:Int):=⟨k.toNat,by omega⟩
      have htl:td'.length≤2000:=by unfold meas at hm;simp at hm;omega
      obtain ⟨s1,s2⟩:=spec_step hN ops hl hop out td' q n hi htl specEnd
      by_cases hq:q=ops.length
      · rw [s1 hq]
        exact ih n out td' v (by omega) (by omega) (by omega) hi2 hv h0
      · obtain ⟨o',h⟩:=s2 (by omega)
        rw [h]
        cases hst:stepG ops (out,td') q (ops[q]'(by omega)) with
        | none=>exact ⟨o',rfl⟩
        | some t =>
          obtain ⟨i1,i2,d,hp,hd⟩:=step_inv hop (by omega) hi2 hst
          have hkeep:=(pushG_inv hd _ _ _ (fun j hj=>by have:=next_in hop (by omega:q < ops.length) rfl j hj;omega) hi2 hp).2.2.2 v hv (by omega)
          exact ih n t.1 t.2 v (by have:meas (t.1,t.2)=meas t:=rfl;omega) (by omega) (by omega) i1 hkeep h0
theorem walk_eq {N:Nat} (hN:10 < N) (ops:List OpT) (hl:ops.length≤1500) (hop:opsG ops=true):∀ (m n1 n2:Nat) (out td:List Int),meas (out,td)=m→m < n1→m < n2→m≤2000→DInv ops.length (out,td)→JInv ops.length (out,td) →
    ∃ o o' b,loopP (zA7.l9 N) n1 (ops,(ops.length:Int),out,td,()) specEnd=some (o',b)∧loopP (zAN.l7 N) n2 (ops,(ops.length:Int),out,td,()) implEnd=some (o,b)∧(b=true→o=o'∧o.length=ops.length+1):=by
  intro m
  induction m with
  | zero =>
    intro n1 n2 out td hm h1 h2 h3 hi hj
    obtain ⟨n1,rfl⟩:=succ_of h1
    obtain ⟨n2,rfl⟩:=succ_of h2
    have hl0:td.length=0:=by unfold meas at hm;simp only [] at hm;omega
    have htd:td=[]:=List.eq_nil_of_length_eq_zero hl0
    subst htd
    have hlen:out.length=ops.length+1:=hi.len
    have hlt:ops.length < out.length:=by omega
    have hle:out[ops.length]≤0:=by
      refine Classical.byContradiction fun q=>?_
      have:=hj out[ops.length] (List.getElem?_eq_getElem hlt) (by omega)
      cases this
    refine ⟨out,out,true,?_,?_,fun _=>⟨rfl,hlen⟩⟩
    · rw [loopP_s];unfold zA7.l9;simp only []
      rw [show pGt (pLen ([]:List Int)) 0=false from rfl,ifB_f]
      unfold specEnd
      simp only [onSum]
      rw [idx_lt hlt,bindO_s,bindO_s,pLe_t hle]
    · rw [loopP_s];unfold zAN.l7;simp only []
      rw [show pGt (pLen ([]:List Int)) 0=false from rfl,ifB_f]
      rfl
  | succ m ih =>
    intro n1 n2 out td hm h1 h2 h3 hi hj
    obtain ⟨n1,rfl⟩:=succ_of h1
    obtain ⟨n2,rfl⟩:=succ_of h2
    have hlen:out.length=ops.length+1:=hi.len
    have hlt:ops.length < out.length:=by omega
    rcases List.eq_nil_or_concat td with htd | ⟨td',k,htd⟩
    · subst htd
      have hle:out[ops.length]≤0:=by
        refine Classical.byContradiction fun q=>?_
        have:=hj out[ops.length] (List.getElem?_eq_getElem hlt) (by omega)
        cases this
      refine ⟨out,out,true,?_,?_,fun _=>⟨rfl,hlen⟩⟩
      · rw [loopP_s];unfold zA7.l9;simp only []
        rw [show pGt (pLen ([]:List Int)) 0=false from rfl,ifB_f]
        unfold specEnd
        simp only [onSum]
        rw [idx_lt hlt,bindO_s,bindO_s,pLe_t hle]
      · rw [loopP_s];unfold zAN.l7;simp only []
        rw [show pGt (pLen ([]:List Int)) 0=false from rfl,ifB_f]
        rfl
    · rw [List.concat_eq_append] at htd
      subst htd
      obtain ⟨hi2,hm2⟩:=pop_inv hi
      obtain ⟨k0,k1,v,hv,hv0⟩:=hi.pla k (by simp)
      obtain ⟨q,rfl⟩:∃ q:Nat,k=(q:Int):=⟨k.toNat,by omega⟩
      have htl:td'.length≤2000:=by unfold meas at hm;simp at hm;omega
      obtain ⟨s1,s2⟩:=spec_step hN ops hl hop out td' q n1 hi htl specEnd
      obtain ⟨t1,t2⟩:=impl_step hN ops hl hop out td' q n2 hi htl implEnd
      by_cases hq:q=ops.length
      · rw [s1 hq,t1 hq]
        have hv':out[q]?=some v:=hv
        by_cases hz:out[q]?=some 0
        · rw [if_pos hz]
          refine ih n1 n2 out td' (by omega) (by omega) (by omega) (by omega) hi2 ?_
          intro w hw hw0
          rw [hq] at hz
          have hw':out[ops.length]?=some w:=hw
          rw [hz] at hw'
          have:=Option.some.inj hw'
          omega
        · rw [if_neg hz]
          rw [hv'] at hz
          have hne:v≠0:=fun e=>hz (by rw [e])
          rw [hq] at hv'
          obtain ⟨o,ho⟩:=spec_bad hN ops hl hop m n1 out td' v (by omega) (by omega) (by omega) hi2 hv' (by omega)
          exact ⟨[],o,false,ho,rfl,fun h=>by cases h⟩
      · have hqlt:q < ops.length:=by omega
        obtain ⟨o',h⟩:=s2 hqlt
        rw [h,t2 hqlt]
        cases hst:stepG ops (out,td') q ops[q] with
        | none=>exact ⟨[],o',false,rfl,rfl,fun h=>by cases h⟩
        | some t =>
          obtain ⟨i1,i2,d,hp,hd⟩:=step_inv hop hqlt hi2 hst
          have hj2:JInv ops.length t:=by
            refine pushG_J _ _ _ (fun j hj=>(next_in hop hqlt rfl j hj).1) ?_ hp
            intro w hw hw0
            have:=hj w hw hw0
            have hm:(ops.length:Int)∈td' ++ [(q:Int)]:=this
            simp only [List.mem_append,List.mem_singleton] at hm
            rcases hm with hm | hm
            · exact hm
            · omega
          exact ih n1 n2 t.1 t.2 (by have:meas (t.1,t.2)=meas t:=rfl;omega) (by omega) (by omega) (by omega) i1 hj2
end Go.AE.F
