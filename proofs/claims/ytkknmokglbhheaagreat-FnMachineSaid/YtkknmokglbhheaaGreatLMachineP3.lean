/- Plain laws of those functions. -/
import Derived.Test.YtkknmokglbhheaaGreatLMachineP2
namespace Go.AE.F
open Go.AE
abbrev OpT:=Int×Int×Unit
def tkOk (o:Option (Int×Int)):Prop:=∃ a b,o=some (a,b)∧0≤a∧a≤2∧0≤b∧b≤1
theorem tk_if {c:Bool} {x y:Option (Int×Int)} (hx:tkOk x) (hy:tkOk y):tkOk (ifB c x y):=by cases c with | false=>exact hy | true=>exact hx
noncomputable def takesG (k:Int):Int×Int:=(zC1 0 k).getD (0,0)
theorem takes_tk (N:Nat) (k:Int):tkOk (zC1 N k):=by
  unfold zC1
  repeat' (first | exact ⟨_,_,rfl,by decide,by decide,by decide,by decide⟩ | apply tk_if)
theorem spec_takes (N:Nat) (k:Int):zC1 N k=some (takesG k):=by
  obtain ⟨a,b,h,_⟩:=takes_tk N k
  have h0:zC1 0 k=zC1 N k:=rfl
  unfold takesG
  rw [h0,h];rfl
theorem impl_takes_eq (N:Nat) (k:Int):zDA N k=some (takesG k):=(show zDA N k=zC1 N k from rfl).trans (spec_takes N k)
theorem takes_bd (k:Int):0≤(takesG k).1∧(takesG k).1≤2∧0≤(takesG k).2∧(takesG k).2≤1:=by
  obtain ⟨a,b,h,h1⟩:=takes_tk 0 k
  unfold takesG
  rw [h];exact h1
def isB (o:Option Bool):Prop:=∃ b,o=some b
theorem isB_if {c:Bool} {x y:Option Bool} (hx:isB x) (hy:isB y):isB (ifB c x y):=by cases c with | false=>exact hy | true=>exact hx
noncomputable def opG (o:OpT) (n:Int):Bool:=(zD3 0 o n).getD false
theorem spec_op (N:Nat) (o:OpT) (n:Int):zD3 N o n=some (opG o n):=by
  have h:isB (zD3 N o n):=by
    unfold zD3
    simp only [ifB_and,bindO_s]
    repeat' (first | exact ⟨_,rfl⟩ | apply isB_if)
  obtain ⟨b,h⟩:=h
  have h0:zD3 0 o n=zD3 N o n:=rfl
  unfold opG
  rw [h0,h];rfl
theorem impl_op (N:Nat) (o:OpT) (n:Int):zD4 N o n=some (opG o n):=by
  rw [← spec_op N o n]
  unfold zD4 zD3
  simp only [impl_within_eq,ifB_and,bindO_s]
  rfl
theorem op_num {o:OpT} {n:Int} (h:opG o n=true) (hk:o.1=11 ∨ o.1=12):0≤o.2.1∧o.2.1≤n:=by
  have h0:=spec_op 0 o n
  rw [h] at h0
  unfold zD3 at h0
  simp only [ifB_and,bindO_s] at h0
  rcases hk with hk | hk
  · simp only [hk,show pEq 11 2=false from rfl,show pEq 11 3=false from rfl,show pEq 11 4=false from rfl,show pEq 11 10=false from rfl,show pEq 11 11=true from rfl,ifB_f,ifB_t,pGe_d,pLe_d,Option.some.injEq,Bool.and_eq_true,decide_eq_true_eq] at h0
    exact h0
  · simp only [hk,show pEq 12 2=false from rfl,show pEq 12 3=false from rfl,show pEq 12 4=false from rfl,show pEq 12 10=false from rfl,show pEq 12 11=false from rfl,show pEq 12 12=true from rfl,ifB_f,ifB_t,pGe_d,pLe_d,Option.some.injEq,Bool.and_eq_true,decide_eq_true_eq] at h0
    exact h0
noncomputable def opsG (l:List OpT):Bool:=l.all fun o=>opG o l.length
theorem impl_opsIdx {N:Nat} (l:List OpT) (e:Int) (hb:l.length≤9223372036854775806) :
    ∀ (m i n:Nat),l.length - i=m→i≤l.length→m < n →
    ∃ v:Int,loopP (zA0.l2 N) n (l,e,(l.length:Int),(i:Int),()) (onSum (fun _=>some (-1)) (fun d=>let x21:=d.1;some x21))=some v∧pGe v 0=!((l.drop i).all fun o=>opG o e):=by
  intro m
  induction m with
  | zero =>
    intro i n hm hi hn
    obtain ⟨n,rfl⟩:=succ_of hn
    refine ⟨-1,?_,?_⟩
    · rw [loopP_s];unfold zA0.l2;simp only []
      rw [pLt_f (by omega),ifB_f];rfl
    · rw [List.drop_eq_nil_of_le (by omega)];rfl
  | succ m ih =>
    intro i n hm hi hn
    obtain ⟨n,rfl⟩:=succ_of hn
    have hlt:i < l.length:=by omega
    rw [loopP_s];unfold zA0.l2;simp only []
    unfold zCQ
    rw [pLt_t (by omega),ifB_t,idx_lt hlt,bindO_s,impl_op,bindO_s,bindO_s,drop_c hlt,List.all_cons]
    cases hp:opG l[i] e with
    | false =>
      rw [pNot_d,Bool.not_false,ifB_t]
      exact ⟨(i:Int),rfl,by rw [pGe_t (by omega)];rfl⟩
    | true =>
      rw [pNot_d,Bool.not_true,ifB_f,pAdd_i (by omega) (by omega),Bool.true_and]
      exact ih (i+1) n (by omega) (by omega) (by omega)
theorem impl_ops (N:Nat) (l:List OpT) (hb:l.length≤9223372036854775806) (hN:l.length < N):zAG N l (l.length:Int)=some (!opsG l):=by
  unfold zAG zA0
  obtain ⟨v,h1,h2⟩:=impl_opsIdx (N:=N) l (l.length:Int) hb _ 0 N rfl (by omega) (by omega)
  rw [pLen_d]
  rw [show ((0:Nat):Int)=0 from rfl] at h1
  rw [h1,bindO_s,h2,List.drop_zero]
  rfl
def nextG (o:OpT) (k:Int):List Int:=if o.1=11 then [o.2.1] else if o.1=12 then [k+1,o.2.1] else [k+1]
noncomputable def stepG (ops:List OpT) (s:List Int×List Int) (k:Nat) (o:OpT):Option (List Int×List Int) :=
  let d:=(s.1[k]?.getD 0) - (takesG o.1).1
  if d < 0 ∨ d+(takesG o.1).2 > 24 then none else pushG (d+(takesG o.1).2) (nextG o k) s
theorem spec_push {N:Nat} {R:Type} (ops:List OpT) (nn d:Int) (ks:List Int) (hks2:ks.length≤2) (kk:(List OpT×Int×List Int×List Int×Unit) ⊕ (Bool×List Int×Unit)→Option R) :
    ∀ (m i n:Nat) (s:List Int×List Int),(∀ k∈ks,0≤k∧k < (s.1.length:Int))→s.2.length+m≤10000→ks.length - i=m→i≤ks.length→m < n →
    ∃ out',loopP (zA7.l24 N) n (ops,nn,d,(i:Int),s.1,s.2,ks,()) kk=match pushG d (ks.drop i) s with | some t=>kk (.inl (ops,nn,t.1,t.2,())) | none=>kk (.inr (false,out',())):=by
  intro m
  induction m with
  | zero =>
    intro i n s hks hs hm hi hn
    obtain ⟨n,rfl⟩:=succ_of hn
    refine ⟨[],?_⟩
    rw [loopP_s];unfold zA7.l24;simp only [pLen_d]
    rw [pLt_f (by omega),ifB_f,List.drop_eq_nil_of_le (by omega)]
    rfl
  | succ m ih =>
    intro i n s hks hs hm hi hn
    obtain ⟨n,rfl⟩:=succ_of hn
    have hlt:i < ks.length:=by omega
    obtain ⟨h0,h1⟩:=hks _ (List.getElem_mem hlt)
    obtain ⟨q,hq⟩:∃ q:Nat,ks[i]=(q:Int):=⟨ks[i].toNat,by omega⟩
    have hql:q < s.1.length:=by omega
    rw [loopP_s];unfold zA7.l24;simp only [pLen_d]
    rw [pLt_t (by omega),ifB_t,drop_c hlt]
    simp only [idx_lt hlt,bindO_s,hq,idx_lt hql]
    unfold pushG
    simp only [Int.toNat_natCast,List.getElem?_eq_getElem hql,Option.some.injEq]
    by_cases e1:s.1[q]=-1
    · rw [pEq_t e1,ifB_t,pFit_t (by simp;omega),ifB_t,bindO_s,if_pos e1]
      simp only [onSum]
      rw [pAdd_i (by omega) (by omega)]
      exact ih (i+1) n (s.1.set q d,s.2 ++ [(q:Int)]) (by simpa using hks) (by simp;omega) (by omega) (by omega) (by omega)
    · rw [pEq_f e1,ifB_f,if_neg e1]
      by_cases e2:s.1[q]=d
      · rw [pNe_f e2,ifB_f,bindO_s,if_pos e2]
        simp only [onSum]
        rw [pAdd_i (by omega) (by omega)]
        exact ih (i+1) n s hks (by omega) (by omega) (by omega) (by omega)
      · rw [pNe_t e2,ifB_t,bindO_s,if_neg e2]
        exact ⟨s.1,rfl⟩
theorem impl_pushOp {N:Nat} {R:Type} (ops:List OpT) (nn d mo:Int) (ks:List Int) (hd:-100≤d∧d≤100∧-100≤mo∧mo≤100) (hks2:ks.length≤2) (kk:(List OpT×Int×List Int×List Int×Unit) ⊕ (Bool×List Int×Unit)→Option R) :
    ∀ (m i n:Nat) (s:List Int×List Int),(∀ k∈ks,0≤k∧k < (s.1.length:Int))→s.2.length+m≤10000→ks.length - i=m→i≤ks.length→m < n →
    loopP (zAN.l24 N) n (ops,mo,d,(ks.length:Int),(i:Int),nn,s.1,s.2,ks,()) kk=match pushG (d+mo) (ks.drop i) s with | some t=>kk (.inl (ops,nn,t.1,t.2,())) | none=>kk (.inr (false,[],())):=by
  intro m
  induction m with
  | zero =>
    intro i n s hks hs hm hi hn
    obtain ⟨n,rfl⟩:=succ_of hn
    rw [loopP_s];unfold zAN.l24;simp only []
    rw [pLt_f (by omega),ifB_f,List.drop_eq_nil_of_le (by omega)]
    rfl
  | succ m ih =>
    intro i n s hks hs hm hi hn
    obtain ⟨n,rfl⟩:=succ_of hn
    have hlt:i < ks.length:=by omega
    obtain ⟨h0,h1⟩:=hks _ (List.getElem_mem hlt)
    obtain ⟨q,hq⟩:∃ q:Nat,ks[i]=(q:Int):=⟨ks[i].toNat,by omega⟩
    have hql:q < s.1.length:=by omega
    rw [loopP_s];unfold zAN.l24;simp only []
    rw [pLt_t (by omega),ifB_t,drop_c hlt]
    simp only [idx_lt hlt,bindO_s,hq,idx_lt hql]
    unfold pushG
    simp only [Int.toNat_natCast,List.getElem?_eq_getElem hql,Option.some.injEq]
    rw [pAdd_i (a:=d) (b:=mo) (by omega) (by omega)]
    by_cases e1:s.1[q]=-1
    · rw [pEq_t e1,ifB_t,pFit_t (by simp;omega),ifB_t,bindO_s,if_pos e1]
      simp only [onSum]
      rw [pAdd_i (by omega) (by omega)]
      exact ih (i+1) n (s.1.set q (d+mo),s.2 ++ [(q:Int)]) (by simpa using hks) (by simp;omega) (by omega) (by omega) (by omega)
    · rw [pEq_f e1,ifB_f,if_neg e1]
      by_cases e2:s.1[q]=d+mo
      · rw [pEq_t e2,ifB_t,bindO_s,if_pos e2]
        simp only [onSum]
        rw [pAdd_i (by omega) (by omega)]
        exact ih (i+1) n s hks (by omega) (by omega) (by omega) (by omega)
      · rw [pEq_f e2,ifB_f,bindO_s,if_neg e2]
        rfl
end Go.AE.F
