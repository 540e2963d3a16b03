/- Plain laws of those functions. -/
import Derived.Test.YtkknmokglbhheaaGreatLMachineP8
namespace Go.AE.F
open Go.AE
def colG (b:BufT):Int:=(b.2.1.toNat:Int) - (startG b.1 b.2.1.toNat:Int)
def stepA (b:BufT) (k c:Int) (n:Nat):Nat :=
  if k=7 then placeG b.1 ((rowG b.1 n:Int) - 1) (colG b) else if k=8 then placeG b.1 ((rowG b.1 n:Int)+1) (colG b) else stepM b.1 k c n
theorem rowG_300 {ps:List Int} (h:ps.length≤300) (n:Nat):rowG ps n≤300:=by
  unfold rowG
  have:=List.count_le_length (a:=(10:Int)) (l:=ps.take n)
  rw [List.length_take] at this
  omega
theorem colG_bd {b:BufT} (hb:bufG b=true):-100000≤colG b∧colG b≤100000:=by
  obtain ⟨h1,h2,h3,_⟩:=bufG_iff.1 hb
  have hl:=ptsG_len h1
  have:=startG_le b.1 b.2.1.toNat
  unfold colG;omega
theorem stepA_le (b:BufT) (k c:Int) (n:Nat) (h:n≤b.1.length):stepA b k c n≤b.1.length:=by
  unfold stepA
  split
  · exact placeG_le _ _ _
  · split
    · exact placeG_le _ _ _
    · exact stepM_le _ _ _ _ h
theorem impl_stepA (N:Nat) (b:BufT) (hb:bufG b=true) (k c:Int) (n:Nat) (hn:n≤b.1.length) (hN:1001 < N):zB2 N b (n:Int) k c=some (stepA b k c n:Int):=by
  obtain ⟨h1,h2,h3,_⟩:=bufG_iff.1 hb
  have hl:=ptsG_len h1
  have hcur:b.2.1=((b.2.1.toNat:Nat):Int):=by omega
  have hs2:zCI N b b.2.1=some ((rowG b.1 b.2.1.toNat:Int),(colG b,())):=by
    have:=impl_spot_eq N b b.2.1.toNat (by omega) hl hN
    rw [← hcur] at this
    rw [this]
    unfold colG
    rw [← hcur]
  have hr:=rowG_300 hl n
  have hcb:=colG_bd hb
  by_cases h7:k=7
  · subst h7
    unfold zB2 stepA
    rw [impl_size_eq N b.1 (by omega),bindO_s,if_pos rfl,impl_spot_eq N b n hn hl hN,hs2]
    simp only [show pEq 7 1=false from rfl,show pEq 7 2=false from rfl,show pEq 7 3=false from rfl,show pEq 7 4=false from rfl,show pEq 7 5=false from rfl,show pEq 7 6=false from rfl,show pEq 7 7=true from rfl,show pEq 7 8=false from rfl,ifB_f,ifB_t,bindO_s]
    rw [pSub_i (by omega) (by omega),impl_place_eq N b _ _ hl hN (by omega) hcb,bindO_s]
  · by_cases h8:k=8
    · subst h8
      unfold zB2 stepA
      rw [impl_size_eq N b.1 (by omega),bindO_s,if_neg (by omega),if_pos rfl,impl_spot_eq N b n hn hl hN,hs2]
      simp only [show pEq 8 1=false from rfl,show pEq 8 2=false from rfl,show pEq 8 3=false from rfl,show pEq 8 4=false from rfl,show pEq 8 5=false from rfl,show pEq 8 6=false from rfl,show pEq 8 7=false from rfl,show pEq 8 8=true from rfl,ifB_f,ifB_t,bindO_s]
      rw [pSub_i (by omega) (by omega),pAdd_i (by omega) (by omega),impl_place_eq N b _ _ hl hN (by omega) hcb,bindO_s,show (rowG b.1 n:Int) - 1+2=(rowG b.1 n:Int)+1 by omega]
    · unfold stepA
      rw [if_neg h7,if_neg h8]
      exact impl_step_eq N b k c n hn hl (by omega) h7 h8
def iter (F:Nat→Nat):Nat→Nat→Nat
  | 0,a=>a
  | n+1,a=>iter F n (F a)
theorem iter_fix {F:Nat→Nat} {a:Nat} (h:F a=a):∀ n,iter F n a=a
  | 0=>rfl
  | n+1=>by unfold iter;rw [h];exact iter_fix h n
theorem impl_mot {N:Nat} (b:BufT) (hb:bufG b=true) (k c:Int) (hN:1001 < N) (n:Nat) (hn:n≤1000):∀ (r i m a:Nat),n - i=r→i≤n→r < m→a≤b.1.length →
    loopP (zAW.l3 N) m (b,k,c,(a:Int),(n:Int),(i:Int),()) (fun d=>let x23:=d.1;some x23)=some (iter (stepA b k c) r a:Int):=by
  intro r
  induction r with
  | zero =>
    intro i m a hr hi hm ha
    obtain ⟨m,rfl⟩:=succ_of hm
    rw [loopP_s];unfold zAW.l3;simp only []
    rw [pLt_f (by omega),ifB_f]
    rfl
  | succ r ih =>
    intro i m a hr hi hm ha
    obtain ⟨m,rfl⟩:=succ_of hm
    rw [loopP_s];unfold zAW.l3;simp only []
    rw [pLt_t (by omega),ifB_t,impl_stepA N b hb k c a ha hN,bindO_s]
    by_cases q:stepA b k c a=a
    · rw [pEq_t (by omega),ifB_t,iter_fix q]
    · rw [pEq_f (by omega),ifB_f,pAdd_i (by omega) (by omega)]
      exact ih (i+1) m _ (by omega) (by omega) (by omega) (stepA_le b k c a ha)
theorem spec_mot {N:Nat} (b:BufT) (hb:bufG b=true) (k c:Int) (h7:k≠7) (h8:k≠8) (hN:1001 < N):∀ (n m a:Nat),n≤1000→n < m→a≤b.1.length →
    loopP (zBH.l10 N) m (k,(n:Int),c,(a:Int),b,()) (fun d=>let x39:=d.1;some x39)=some (iter (stepA b k c) n a:Int):=by
  have hl:=ptsG_len (bufG_iff.1 hb).1
  intro n
  induction n with
  | zero =>
    intro m a hn hm ha
    obtain ⟨m,rfl⟩:=succ_of hm
    rw [loopP_s];unfold zBH.l10;simp only []
    rw [pGt_f (by omega),ifB_f]
    rfl
  | succ n ih =>
    intro m a hn hm ha
    obtain ⟨m,rfl⟩:=succ_of hm
    have e:stepA b k c a=stepM b.1 k c a:=by unfold stepA;rw [if_neg h7,if_neg h8]
    rw [loopP_s];unfold zBH.l10;simp only []
    rw [pGt_t (by omega),ifB_t,spec_step_eq N b k c a ha hl (by omega),bindO_s,pSub_i (by omega) (by omega),show ((n+1:Nat):Int) - 1=(n:Int) by omega,← e]
    exact ih m _ (by omega) (by omega) (stepA_le b k c a ha)
theorem placeG_congr {ps:List Int} {r r':Int} (c:Int) (h:rowC ps r=rowC ps r'):placeG ps r c=placeG ps r' c:=by unfold placeG;rw [h]
theorem iter_up (b:BufT) (c:Int):∀ (n:Nat) (r:Int),r≤(rowG b.1 b.1.length:Int)→iter (stepA b 7 c) n (placeG b.1 r (colG b))=placeG b.1 (r - n) (colG b)
  | 0,r,_=>by show placeG b.1 r _=_;congr 1;simp
  | n+1,r,h=>by
    have e:stepA b 7 c (placeG b.1 r (colG b))=placeG b.1 (r - 1) (colG b):=by
      unfold stepA
      rw [if_pos rfl,placeG_row]
      refine placeG_congr _ ?_
      unfold rowC
      omega
    show iter (stepA b 7 c) n (stepA b 7 c (placeG b.1 r (colG b)))=_
    rw [e,iter_up b c n (r - 1) (by omega)]
    congr 1;omega
theorem iter_down (b:BufT) (c:Int):∀ (n:Nat) (r:Int),0≤r→iter (stepA b 8 c) n (placeG b.1 r (colG b))=placeG b.1 (r+n) (colG b)
  | 0,r,_=>by show placeG b.1 r _=_;congr 1;simp
  | n+1,r,h=>by
    have e:stepA b 8 c (placeG b.1 r (colG b))=placeG b.1 (r+1) (colG b):=by
      unfold stepA
      rw [if_neg (by omega),if_pos rfl,placeG_row]
      refine placeG_congr _ ?_
      unfold rowC
      omega
    show iter (stepA b 8 c) n (stepA b 8 c (placeG b.1 r (colG b)))=_
    rw [e,iter_down b c n (r+1) (by omega)]
    congr 1;omega
def motG (b:BufT) (k n c:Int):Int :=
  if (bufG b && decide (1≤k) && decide (k≤11) && decide (0≤n) && decide (n≤1000))=true then (iter (stepA b k c) n.toNat b.2.1.toNat:Int) else -1
theorem lt_not (a b:Int):decide (a < b)=!decide (b≤a):=by
  by_cases q:b≤a
  · rw [decide_eq_true q,decide_eq_false (by omega)];rfl
  · rw [decide_eq_false q,decide_eq_true (by omega)];rfl
theorem spec_Motion_eq (N:Nat) (b:BufT) (k n c:Int) (hN:1001 < N):zBH N b k n c=some (motG b k n c):=by
  unfold zBH motG
  rw [spec_BufRight_eq N b (by omega),bindO_s]
  simp only [ifB_or,bindO_s,pNot_d,pLt_d,pGt_d]
  have e:((((!bufG b || decide (k < 1)) || decide (k > 11)) || decide (n < 0)) || decide (n > 1000))=!(bufG b && decide (1≤k) && decide (k≤11) && decide (0≤n) && decide (n≤1000)):=by
    rw [lt_not k 1,lt_not n 0,show decide (k > 11)=!decide (k≤11) from lt_not 11 k,show decide (n > 1000)=!decide (n≤1000) from lt_not 1000 n]
    cases bufG b <;> cases decide (1≤k) <;> cases decide (k≤11) <;> cases decide (0≤n) <;> cases decide (n≤1000) <;> rfl
  rw [e]
  cases hok:(bufG b && decide (1≤k) && decide (k≤11) && decide (0≤n) && decide (n≤1000)) with
  | false=>rfl
  | true =>
    simp only [Bool.and_eq_true,decide_eq_true_eq] at hok
    obtain ⟨⟨⟨⟨hb,hk1⟩,hk2⟩,hn0⟩,hn1⟩:=hok
    obtain ⟨h1,h2,h3,_⟩:=bufG_iff.1 hb
    have hl:=ptsG_len h1
    have hcur:b.2.1=((b.2.1.toNat:Nat):Int):=by omega
    have hnn:n=((n.toNat:Nat):Int):=by omega
    have hr:=rowG_300 hl b.2.1.toNat
    have hcb:=colG_bd hb
    have hself:=placeG_self b.1 b.2.1.toNat (by omega)
    have hs2:zB3 N b b.2.1=some ((rowG b.1 b.2.1.toNat:Int),(colG b,())):=by
      have:=spec_spot_eq N b b.2.1.toNat (by omega) hl hN
      rw [← hcur] at this
      rw [this]
      unfold colG
      rw [← hcur]
    rw [Bool.not_true,ifB_f,if_pos rfl]
    by_cases h7:k=7
    · subst h7
      rw [show pEq 7 7=true from rfl,Bool.true_or,ifB_t,hs2,bindO_s,ifB_t]
      simp only []
      rw [pSub_i (by omega) (by omega),spec_place_eq N b _ _ hb hN (by omega) hcb,bindO_s]
      have hi:=iter_up b c n.toNat (rowG b.1 b.2.1.toNat:Int) (by have:=rowG_mono (ps:=b.1) (n:=b.2.1.toNat) (m:=b.1.length) (by omega) (Nat.le_refl _);omega)
      have e2:placeG b.1 (rowG b.1 b.2.1.toNat:Int) (colG b)=b.2.1.toNat:=hself
      rw [e2,← hnn] at hi
      rw [hi]
    · by_cases h8:k=8
      · subst h8
        rw [show pEq 8 7=false from rfl,show pEq 8 8=true from rfl,Bool.false_or,ifB_t,hs2,bindO_s,ifB_f]
        simp only []
        rw [pAdd_i (by omega) (by omega),spec_place_eq N b _ _ hb hN (by omega) hcb,bindO_s]
        have hi:=iter_down b c n.toNat (rowG b.1 b.2.1.toNat:Int) (by omega)
        have e2:placeG b.1 (rowG b.1 b.2.1.toNat:Int) (colG b)=b.2.1.toNat:=hself
        rw [e2,← hnn] at hi
        rw [hi]
      · rw [pEq_f h7,pEq_f h8,Bool.or_self,ifB_f]
        have:=spec_mot (N:=N) b hb k c h7 h8 hN n.toNat N b.2.1.toNat (by omega) (by omega) (by omega)
        rw [← hnn,← hcur] at this
        exact this
theorem impl_Motion_eq (N:Nat) (b:BufT) (k n c:Int) (hN:1001 < N) (hl:b.1.length < N) (hbl:b.1.length≤9223372036854775806):zDD N b k n c=some (motG b k n c):=by
  unfold zDD motG
  rw [impl_BufRight_eq N b hl hbl,bindO_s]
  simp only [impl_within_eq,ifB_or,bindO_s,pNot_d]
  have e:((!bufG b || !(decide (1≤k) && decide (k≤11))) || !(decide (0≤n) && decide (n≤1000)))=!(bufG b && decide (1≤k) && decide (k≤11) && decide (0≤n) && decide (n≤1000)):=by
    cases bufG b <;> cases decide (1≤k) <;> cases decide (k≤11) <;> cases decide (0≤n) <;> cases decide (n≤1000) <;> rfl
  rw [e]
  cases hok:(bufG b && decide (1≤k) && decide (k≤11) && decide (0≤n) && decide (n≤1000)) with
  | false=>rfl
  | true =>
    simp only [Bool.and_eq_true,decide_eq_true_eq] at hok
    obtain ⟨⟨⟨⟨hb,hk1⟩,hk2⟩,hn0⟩,hn1⟩:=hok
    obtain ⟨h1,h2,h3,_⟩:=bufG_iff.1 hb
    have hcur:b.2.1=((b.2.1.toNat:Nat):Int):=by omega
    have hnn:n=((n.toNat:Nat):Int):=by omega
    rw [Bool.not_true,ifB_f,if_pos rfl]
    unfold zAW
    have:=impl_mot (N:=N) b hb k c hN n.toNat (by omega) _ 0 N b.2.1.toNat rfl (by omega) (by omega) (by omega)
    rw [← hnn,← hcur] at this
    rw [show ((0:Nat):Int)=0 from rfl] at this
    rw [this,bindO_s]
    rfl
end Go.AE.F
namespace Go.AE.F
open Go.AE
def shortB (r:BufT×SrcT):Prop:=srcOk r.2∧r.1.1.length≤1000
theorem btail_tot (N:Nat) (l:List Int) (hl:l.length≤400) (s:SrcT) (hs:srcOk s):Tot shortB (
    bindO (zA9 N s (pAdd Go.IntKind.i64 (pLen l) 1)) fun y40 =>
    bindO (zA9 N y40.2 (pAdd Go.IntKind.i64 (pLen l) 1)) fun y41 =>
    bindO (zAI N y41.2 15) fun y42 =>
    ifB y42.1 (
      bindO (zA9 N y42.2 3) fun y43 =>
      ifB (pEq y43.1 0) (
        bindO (zA9 N y43.2 2) fun y44 =>
        bindO (idx ([(-1),(pAdd Go.IntKind.i64 (pLen l) 1)]) y44.1) fun y45 =>
        bindO (idx ([(-1),(pAdd Go.IntKind.i64 (pLen l) 1)]) y44.1) fun y46 =>
        some ((l,(y46,(y41.1,()))),y44.2)) (
        ifB (pEq y43.1 1) (
          bindO (zA9 N y43.2 2) fun y47 =>
          bindO (idx ([(-1),(pAdd Go.IntKind.i64 (pLen l) 1)]) y47.1) fun y48 =>
          bindO (idx ([(-1),(pAdd Go.IntKind.i64 (pLen l) 1)]) y47.1) fun y49 =>
          some ((l,(y40.1,(y49,()))),y47.2)) (
          ifB (pFit l [55296]) (
            some (((pApp l [55296]),(y40.1,(y41.1,()))),y43.2)) (
            none)))) (
      some ((l,(y40.1,(y41.1,()))),y42.2))):=by
  have e:pAdd .i64 (pLen l) 1=(l.length:Int)+1:=by rw [pLen_d,pAdd_i (by omega) (by omega)]
  rw [e]
  refine Tot.bind (nT N s _ hs (by omega)) fun a ha=>?_
  refine Tot.bind (nT N _ _ ha.1 (by omega)) fun b hb=>?_
  refine Tot.bind (oneT N _ 15 hb.1 (by omega)) fun o ho=>?_
  have hlen:l.length≤1000:=by omega
  refine Tot.both ?_ (Tot.ret ⟨ho,hlen⟩)
  refine Tot.bind (nT N _ 3 ho (by omega)) fun u hu=>?_
  refine Tot.both ?_ (Tot.both ?_ ?_)
  · refine Tot.bind (nT N _ 2 hu.1 (by omega)) fun w hw=>?_
    have hw2:=hw.2.2.2 (by omega)
    exact Tot.bind (idxT _ _ hw.2.1 (by simp;omega)) fun _ _=>Tot.bind (idxT _ _ hw.2.1 (by simp;omega)) fun _ _=>Tot.ret ⟨hw.1,hlen⟩
  · refine Tot.bind (nT N _ 2 hu.1 (by omega)) fun w hw=>?_
    have hw2:=hw.2.2.2 (by omega)
    exact Tot.bind (idxT _ _ hw.2.1 (by simp;omega)) fun _ _=>Tot.bind (idxT _ _ hw.2.1 (by simp;omega)) fun _ _=>Tot.ret ⟨hw.1,hlen⟩
  · exact Tot.fit (by simp;omega) (Tot.ret ⟨hu.1,by show (pApp l [55296]).length≤1000;simp [pApp];omega⟩)
theorem dbuf_tot (N:Nat) (hN:100001 < N) (s:SrcT) (hs:srcOk s):Tot shortB (zBY N s):=by
  unfold zBY
  have hz:=hs.2.2.2
  have e1:pMul .i64 2 s.2.2.2.1=2 * s.2.2.2.1:=wrap_i64 (by omega) (by omega)
  rw [e1,pAdd_i (a:=14) (by omega) (by omega)]
  refine Tot.bind (nT N s _ hs (by omega)) fun v hv=>?_
  have hv2:=hv.2.2.2 (by omega)
  refine Tot.bind (dpoints_tot N _ _ hv.1 hv.2.1 (by omega) hN) fun p hp=>?_
  have hpl:=hp.2
  refine Tot.bind (oneT N _ 50 hp.1 (by omega)) fun o ho=>?_
  refine Tot.both ?_ ?_
  · refine Tot.bind (nT N _ 4 ho (by omega)) fun w hw=>?_
    have hw2:=hw.2.2.2 (by omega)
    have hw0:=hw.2.1
    have e2:pAdd .i64 298 w.1=298+w.1:=pAdd_i (by omega) (by omega)
    rw [e2]
    refine Tot.bind (dpoints_tot N _ _ hw.1 (by omega) (by omega) hN) fun q hq=>?_
    have hql:=hq.2
    exact btail_tot N q.1 (by omega) q.2 hq.1
  · exact btail_tot N p.1 (by omega) o.2 ho
theorem iter_le {b:BufT} {k c:Int}:∀ (n a:Nat),a≤b.1.length→iter (stepA b k c) n a≤b.1.length
  | 0,_,h=>h
  | n+1,a,h=>iter_le n _ (stepA_le b k c a h)
theorem motG_cases (b:BufT) (k n c:Int):motG b k n c=-1 ∨ (bufG b=true∧1≤k∧k≤11∧0≤n∧n≤1000∧motG b k n c=(iter (stepA b k c) n.toNat b.2.1.toNat:Int)):=by
  unfold motG
  cases hok:(bufG b && decide (1≤k) && decide (k≤11) && decide (0≤n) && decide (n≤1000)) with
  | false=>exact .inl rfl
  | true =>
    simp only [Bool.and_eq_true,decide_eq_true_eq] at hok
    exact .inr ⟨hok.1.1.1.1,hok.1.1.1.2,hok.1.1.2,hok.1.2,hok.2,rfl⟩
theorem move_eq (N:Nat) (b:BufT) (k n c:Int) (hN:2000 < N) (hl:b.1.length≤1000):zCU N b k n c=some (if 0≤motG b k n c then (b.1,motG b k n c,b.2.2) else b):=by
  unfold zCU zCL
  rw [clone_eq N b.1 (by omega),bindO_s,bindO_s,impl_Motion_eq N b k n c (by omega) (by omega) (by omega),bindO_s]
  by_cases h:0≤motG b k n c
  · rw [pGe_t h,ifB_t,if_pos h]
  · rw [pGe_f (by omega),ifB_f,if_neg h]
theorem lwSame_self (N:Nat) (l:List Int) (h:l.length≤1000) (hN:2000 < N):zBG N l l=some true:=by rw [lwSame_eq N l l (by omega) (by omega),decide_eq_true rfl]
end Go.AE.F
