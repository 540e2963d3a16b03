/- Plain laws of those functions. -/
import Derived.Test.YtkknmokglbhheaaGreatLMachineP4
namespace Go.AE.F
open Go.AE
theorem start_inv (n:Nat):DInv n ((List.replicate (n+1) (-1:Int)).set 0 0,[0])∧JInv n ((List.replicate (n+1) (-1:Int)).set 0 0,[0])∧meas ((List.replicate (n+1) (-1:Int)).set 0 0,[0])≤n+2:=by
  refine ⟨⟨by simp,?_,?_⟩,?_,?_⟩
  · intro v hv
    rcases List.mem_or_eq_of_mem_set hv with h | h
    · have:=(List.mem_replicate.1 h).2
      omega
    · omega
  · intro k hk
    simp only [List.mem_singleton] at hk
    subst hk
    exact ⟨by omega,by omega,0,by simp,by omega⟩
  · intro v hv h0
    exfalso
    have hv':((List.replicate (n+1) (-1:Int)).set 0 0)[n]?=some v:=hv
    have hm:=List.mem_of_getElem? hv'
    rcases List.mem_or_eq_of_mem_set hm with h | h
    · have:=(List.mem_replicate.1 h).2
      omega
    · omega
  · unfold meas
    have:=List.count_le_length (a:=(-1:Int)) (l:=(List.replicate (n+1) (-1:Int)).set 0 0)
    simp only [List.length_set,List.length_replicate] at this
    simp only [List.length_singleton]
    omega
theorem spec_fill {N:Nat} {R:Type} (ops:List OpT) (L:Nat) (hL:L≤1500) (k:List OpT×Int×List Int×Unit→Option R):∀ (m i n:Nat),L+1 - i=m→i≤L+1→m < n →
    loopP (zA7.l4 N) n (ops,(L:Int),(i:Int),List.replicate i (-1),()) k=k (ops,(L:Int),List.replicate (L+1) (-1),()):=by
  intro m
  induction m with
  | zero =>
    intro i n hm hi hn
    obtain ⟨n,rfl⟩:=succ_of hn
    rw [loopP_s];unfold zA7.l4;simp only []
    rw [pLe_f (by omega),ifB_f,show i=L+1 by omega]
  | succ m ih =>
    intro i n hm hi hn
    obtain ⟨n,rfl⟩:=succ_of hn
    rw [loopP_s];unfold zA7.l4;simp only []
    rw [pLe_t (by omega),ifB_t,pFit_t (by simp;omega),ifB_t,pAdd_i (by omega) (by omega)]
    have e:pApp (List.replicate i (-1:Int)) [-1]=List.replicate (i+1) (-1):=by
      unfold pApp
      rw [List.replicate_succ']
    rw [e]
    exact ih (i+1) n (by omega) (by omega) (by omega)
theorem depths_ok (N:Nat) (hN:2000 < N) (l:List OpT) (hl:l.length≤1500) (hop:opsG l=true) :
    ∃ o o' b,zA7 N l=some (o',b)∧zAN N l=some (o,b)∧(b=true→o=o'∧o.length=l.length+1):=by
  obtain ⟨h1,h2,h3⟩:=start_inv l.length
  obtain ⟨o,o',b,hs,hi,hb⟩:=walk_eq (N:=N) (by omega) l hl hop _ N N _ _ rfl (by omega) (by omega) (by omega) h1 h2
  refine ⟨o,o',b,?_,?_,hb⟩
  · unfold zA7
    have:=spec_fill (N:=N) (R:=List Int×Bool) l l.length hl (fun d =>
    let x153:=d.1;
    let x154:=d.2.1;
    let x155:=d.2.2.1;
    bindO (idx x155 0) fun y156 =>
    bindO (idx x155 0) fun y157 =>
    loopP (zA7.l9 N) N (x153,x154,(pSet x155 0 0),[0],()) specEnd) _ 0 N rfl (by omega) (by omega)
    refine Eq.trans this ?_
    simp only []
    have h0:idx (List.replicate (l.length+1) (-1:Int)) ((0:Nat):Int)=some (-1):=by rw [idx_lt (by simp)];simp
    rw [show ((0:Nat):Int)=0 from rfl] at h0
    rw [h0,bindO_s,bindO_s]
    exact hs
  · unfold zAN zBE
    rw [bindO_s,pLen_d,pGt_f (by omega),ifB_f,impl_ops N l (by omega) (by omega),bindO_s,bindO_s,hop,Bool.not_true,ifB_f,pAdd_i (by omega) (by omega),
      show (l.length:Int)+1=((l.length+1:Nat):Int) from rfl,repeat_eq N (-1) (l.length+1) (by omega) (by omega) (by omega),bindO_s]
    have h0:idx (List.replicate (l.length+1) (-1:Int)) ((0:Nat):Int)=some (-1):=by rw [idx_lt (by simp)];simp
    rw [show ((0:Nat):Int)=0 from rfl] at h0
    rw [h0,bindO_s,bindO_s]
    exact hi
theorem depths_no (N:Nat) (hN:2000 < N) (l:List OpT) (h:¬ (l.length≤1500∧opsG l=true)):zAN N l=some ([],false):=by
  unfold zAN zBE
  rw [bindO_s,pLen_d]
  by_cases hl:l.length≤1500
  · have hop:opsG l=false:=by
      cases ho:opsG l with
      | false=>rfl
      | true=>exact absurd ⟨hl,ho⟩ h
    rw [pGt_f (by omega),ifB_f,impl_ops N l (by omega) (by omega),bindO_s,bindO_s,hop,Bool.not_false,ifB_t]
  · rw [pGt_t (by omega),ifB_t,bindO_s,ifB_t]
theorem all_loop' {N:Nat} {R:Type} (l:List OpT) (hl:l.length≤1500) (k:(List OpT×Unit) ⊕ (Bool×Unit)→Option R):∀ (m i n:Nat),l.length - i=m→i≤l.length→m < n →
    loopP (zAV.l4 N) n (l,(i:Int),()) k=if ((l.drop i).all fun o=>opG o l.length)=true then k (.inl (l,())) else k (.inr (false,())):=by
  intro m
  induction m with
  | zero =>
    intro i n hm hi hn
    obtain ⟨n,rfl⟩:=succ_of hn
    rw [loopP_s];unfold zAV.l4;simp only [pLen_d]
    rw [pLt_f (by omega),ifB_f,List.drop_eq_nil_of_le (by omega)]
    rfl
  | succ m ih =>
    intro i n hm hi hn
    obtain ⟨n,rfl⟩:=succ_of hn
    have hlt:i < l.length:=by omega
    rw [loopP_s];unfold zAV.l4;simp only [pLen_d]
    rw [pLt_t (by omega),ifB_t,idx_lt hlt,bindO_s,spec_op,bindO_s,drop_c hlt,List.all_cons]
    cases hp:opG l[i] l.length with
    | false=>simp [pNot_d,ifB_t]
    | true =>
      rw [pNot_d,Bool.not_true,ifB_f,pAdd_i (by omega) (by omega),Bool.true_and]
      exact ih (i+1) n (by omega) (by omega) (by omega)
theorem spec_right_ops (N:Nat) (l:List OpT) (hN:2000 < N):(l.length≤1500∧opsG l=true→zAV N l=bindO (zA7 N l) fun y=>some y.2)∧(¬ (l.length≤1500∧opsG l=true)→zAV N l=some false):=by
  unfold zAV
  rw [pLen_d]
  by_cases hl:l.length≤1500
  · rw [pGt_f (by omega),ifB_f]
    have:=all_loop' (N:=N) l hl (onSum (fun d =>
        let x17:=d.1;
        bindO (zA7 N x17) fun y18 =>
        some y18.2) (
      fun d =>
      let x19:=d.1;
      some x19)) _ 0 N rfl (by omega) (by omega)
    rw [List.drop_zero] at this
    constructor
    · intro h
      refine Eq.trans this ?_
      have h2:(l.all fun o=>opG o l.length)=true:=h.2
      rw [if_pos h2];rfl
    · intro h
      refine Eq.trans this ?_
      have h2:¬ (l.all fun o=>opG o l.length)=true:=fun q=>h ⟨hl,q⟩
      rw [if_neg h2];rfl
  · rw [pGt_t (by omega),ifB_t]
    exact ⟨fun h=>absurd h.1 hl,fun _=>rfl⟩
end Go.AE.F
namespace Go.AE.F
open Go.AE
theorem right_both (N:Nat) (l:List OpT) (hN:2000 < N):∃ b,zAV N l=some b∧zCN N l=some b:=by
  obtain ⟨h1,h2⟩:=spec_right_ops N l hN
  unfold zCN
  by_cases h:l.length≤1500∧opsG l=true
  · obtain ⟨o,o',b,hs,hi,_⟩:=depths_ok N hN l h.1 h.2
    exact ⟨b,by rw [h1 h,hs,bindO_s],by rw [hi,bindO_s]⟩
  · exact ⟨false,h2 h,by rw [depths_no N hN l h,bindO_s]⟩
end Go.AE.F
namespace Go.AE.F
open Go.AE
def Tot {A:Type} (P:A→Prop) (o:Option A):Prop:=∃ x,o=some x∧P x
theorem Tot.bind {A B:Type} {P:A→Prop} {Q:B→Prop} {o:Option A} {f:A→Option B} (h:Tot P o) (k:∀ x,P x→Tot Q (f x)):Tot Q (bindO o f):=by
  obtain ⟨x,h1,h2⟩:=h
  rw [h1,bindO_s];exact k x h2
theorem Tot.ite {A:Type} {P:A→Prop} {c:Bool} {a b:Option A} (h1:c=true→Tot P a) (h2:c=false→Tot P b):Tot P (ifB c a b):=by
  cases c with
  | true=>exact h1 rfl
  | false=>exact h2 rfl
theorem Tot.both {A:Type} {P:A→Prop} {c:Bool} {a b:Option A} (h1:Tot P a) (h2:Tot P b):Tot P (ifB c a b):=Tot.ite (fun _=>h1) (fun _=>h2)
theorem Tot.ret {A:Type} {P:A→Prop} {x:A} (h:P x):Tot P (some x):=⟨x,rfl,h⟩
theorem Tot.fit {A B:Type} {P:B→Prop} {xs ys:List A} {a:Option B} (h:xs.length+ys.length≤68719476736) (h1:Tot P a):Tot P (ifB (pFit xs ys) a none):=by rw [pFit_t h];exact h1
theorem nT (N:Nat) (s:SrcT) (k:Int) (hs:srcOk s) (hk:k≤4611686018427387904):Tot (fun r:Int×SrcT=>srcOk r.2∧0≤r.1∧(k≤1→r.1=0)∧(1 < k→r.1 < k)) (zA9 N s k):=by
  obtain ⟨v,s',h,h1,h2,h3,h4⟩:=n_ok N s k hs hk
  exact ⟨(v,s'),h,h1,h2,h3,h4⟩
theorem oneT (N:Nat) (s:SrcT) (k:Int) (hs:srcOk s) (hk:k≤4611686018427387904):Tot (fun r:Bool×SrcT=>srcOk r.2) (zAI N s k):=by
  obtain ⟨v,s',h,h1⟩:=one_ok N s k hs hk
  exact ⟨(v,s'),h,h1⟩
theorem idxT {A:Type} (l:List A) (i:Int) (h0:0≤i) (h1:i < l.length):Tot (fun x=>x∈l) (idx l i):=by
  obtain ⟨p,rfl⟩:∃ p:Nat,i=(p:Int):=⟨i.toNat,by omega⟩
  exact ⟨_,idx_lt (by omega),List.getElem_mem _⟩
theorem byte_at (s:ByteArray) (i:Nat) (h:i < s.size):Tot (fun b=>0≤b∧b < 256) (bidx s (i:Int)):=by
  have hl:i < s.data.toList.length:=by rw [Array.length_toList];exact h
  exact ⟨_,bidx_lt hl,by omega,by have:=(s.data.toList[i]).toNat_lt;omega⟩
theorem point_tot (N:Nat) (s:SrcT) (hs:srcOk s):Tot (fun r:Int×SrcT=>srcOk r.2) (zBO N s):=by
  unfold zBO
  refine Tot.bind (nT N s 14 hs (by omega)) fun r h=>?_
  refine Tot.both (Tot.ret h.1) (Tot.both (Tot.ret h.1) (Tot.both ?_ (Tot.both ?_ (Tot.both ?_ (Tot.both ?_ (Tot.both ?_ ?_))))))
  · refine Tot.bind (nT N _ 5 h.1 (by omega)) fun q hq=>?_
    have:=hq.2.2.2 (by omega)
    exact Tot.bind (idxT _ _ hq.2.1 (by simp;omega)) fun _ _=>Tot.bind (idxT _ _ hq.2.1 (by simp;omega)) fun _ _=>Tot.ret hq.1
  · refine Tot.bind (nT N _ 20 h.1 (by omega)) fun q hq=>?_
    have:=hq.2.2.2 (by omega)
    exact Tot.bind (idxT _ _ hq.2.1 (by simp;omega)) fun _ _=>Tot.bind (idxT _ _ hq.2.1 (by simp;omega)) fun _ _=>Tot.ret hq.1
  · refine Tot.bind (nT N _ 8 h.1 (by omega)) fun q hq=>?_
    have:=hq.2.2.2 (by omega)
    exact Tot.bind (idxT _ _ hq.2.1 (by simp;omega)) fun _ _=>Tot.bind (idxT _ _ hq.2.1 (by simp;omega)) fun _ _=>Tot.ret hq.1
  · refine Tot.bind (nT N _ 5 h.1 (by omega)) fun q hq=>?_
    have:=hq.2.2.2 (by omega)
    exact Tot.bind (idxT _ _ hq.2.1 (by simp;omega)) fun _ _=>Tot.bind (idxT _ _ hq.2.1 (by simp;omega)) fun _ _=>Tot.ret hq.1
  · exact Tot.bind (nT N _ 10 h.1 (by omega)) fun q hq=>Tot.ret hq.1
  · exact Tot.bind (nT N _ 6 h.1 (by omega)) fun q hq=>Tot.ret hq.1
theorem dpoints_loop {N:Nat} {R:Type} (k:SrcT×List Int×Unit→Option R):∀ (m n:Nat) (s:SrcT) (out:List Int),m < n→srcOk s→out.length+m≤100000 →
    ∃ s' l,loopP (zAK.l2 N) n ((m:Int),s,out,()) k=k (s',l,())∧srcOk s'∧l.length≤out.length+m:=by
  intro m
  induction m with
  | zero =>
    intro n s out hn hs ho
    obtain ⟨n,rfl⟩:=succ_of hn
    refine ⟨s,out,?_,hs,by omega⟩
    rw [loopP_s];unfold zAK.l2;simp only []
    rw [pGt_f (by omega),ifB_f]
  | succ m ih =>
    intro n s out hn hs ho
    obtain ⟨n,rfl⟩:=succ_of hn
    obtain ⟨⟨p,s1⟩,h1,hs1⟩:=point_tot N s hs
    have e:pSub .i64 ((m+1:Nat):Int) 1=(m:Int):=by rw [pSub_i (by omega) (by omega)];omega
    rw [loopP_s];unfold zAK.l2;simp only []
    rw [pGt_t (by omega),ifB_t,h1,bindO_s]
    simp only []
    rw [pFit_t (by simp;omega),ifB_t,e]
    obtain ⟨s2,l,g1,g2,g3⟩:=ih n s1 (pApp out [p]) (by omega) hs1 (by simp [pApp];omega)
    exact ⟨s2,l,g1,g2,by simp [pApp] at g3;omega⟩
theorem dpoints_tot (N:Nat) (s:SrcT) (k:Int) (hs:srcOk s) (h0:0≤k) (hk:k≤100000) (hN:100001 < N):Tot (fun r:List Int×SrcT=>srcOk r.2∧(r.1.length:Int)≤k) (zAK N s k):=by
  obtain ⟨p,rfl⟩:∃ p:Nat,k=(p:Int):=⟨k.toNat,by omega⟩
  unfold zAK
  obtain ⟨s',l,g1,g2,g3⟩:=dpoints_loop (N:=N) (fun d =>
    let x17:=d.1;
    let x18:=d.2.1;
    some (x18,x17)) p N s [] (by omega) hs (by simp;omega)
  exact ⟨(l,s'),g1,g2,by simp at g3;show (l.length:Int)≤p;omega⟩
end Go.AE.F
