/- Plain laws of those functions. -/
import Derived.Test.YthcbmbakpjelgaaGreatDoorLSendP1
namespace Go.AE.F
open Go.AE
theorem zNU (a:Int):IntKind.u64.wrap a=a % 18446744073709551616:=rfl
theorem zNX (a:Int):0<=pConv .u64 a/\pConv .u64 a < 18446744073709551616:=by
 unfold pConv
 rw [zNU];omega
abbrev SrcT:=List Int×Int×Int×Int×Unit
def srcOk (s:SrcT):Prop:=s.1.length<=1048576/\0<=s.2.1/\s.2.1<=s.1.length/\0<=s.2.2.2.1/\s.2.2.2.1<=12
theorem zNT {N:Nat} {R:Type} (c:List Int) (hc:c.length<=1048576) (k:List Int×SrcT×Unit->Option R):∀ (m i n:Nat) (st:Int),64 - i=m->i<=64->m < n ->
  ∃ st',loopP (zAS.l3 N) n (c,(i:Int),(c,(0,(st,(0,())))),()) k=k (c,(c,(0,(st',(0,())))),()):=by
 intro m
 induction m with
 | zero =>
  intro i n st hm hi hn
  obtain ⟨n,rfl⟩:=zCU hn
  refine ⟨st,?_⟩
  rw [zCO]
  unfold zAS.l3
  simp only []
  rw [zD4,zA2,pLt_f (a:=(i:Int)) (b:=64) (by omega),Bool.and_false,ifB_f]
 | succ m ih =>
  intro i n st hm hi hn
  obtain ⟨n,rfl⟩:=zCU hn
  rw [zCO]
  unfold zAS.l3
  simp only []
  rw [zD4,zA2,zCP]
  by_cases hl:i < c.length
  ·rw [pLt_t (by omega),pLt_t (by omega),Bool.and_self,ifB_t,zCT hl,zA2,zC6 (by omega) (by omega)]
   exact ih (i+1) n _ (by omega) (by omega) (by omega)
  ·exact ⟨st,by rw [pLt_f (by omega),Bool.false_and,ifB_f]⟩
theorem zN5 (N:Nat) (c:List Int) (hc:c.length<=1048576) (hN:64 < N):∃ s,zAS N c=some s/\srcOk s:=by
 unfold zAS
 obtain ⟨st,h⟩:=zNT (N:=N) c hc (fun d =>
  let x18:=d.1;
  let x19:=d.2.1;
  ifB (pEq 20 0) (
   none) (
   ifB (pGt (pQuo Go.IntKind.i64 (pLen x18) 20) 12) (
    some (x19.1,(x19.2.1,(x19.2.2.1,(12,x19.2.2.2.2))))) (
    some (x19.1,(x19.2.1,(x19.2.2.1,((pQuo Go.IntKind.i64 (pLen x18) 20),x19.2.2.2.2))))))) _ 0 N 88172645463325252 rfl (by omega) (by omega)
 have hq:pQuo .i64 (pLen c) 20=(c.length:Int) / 20:=IntWalk.i64_quo _ _ ⟨by rw [zCP];omega,by rw [zCP];omega,by omega⟩
 simp only [hq,show pEq 20 0=false from rfl,ifB_f] at h
 by_cases hg:(c.length:Int) / 20 > 12
 ·rw [pGt_t hg,ifB_t] at h
  exact ⟨_,h,hc,by simp,by simp,by simp,by simp⟩
 ·rw [pGt_f (by omega),ifB_f] at h
  refine ⟨_,h,hc,by simp,by simp,?_,?_⟩
  ·show (0:Int)<=(c.length:Int) / 20
   omega
  ·show (c.length:Int) / 20<=12
   omega
theorem n_ok (N:Nat) (s:SrcT) (k:Int) (hs:srcOk s) (hk:k<=4611686018427387904):∃ v s',zAC N s k=some (v,s')/\srcOk s'/\0<=v/\(k<=1->v=0)/\(1 < k->v < k):=by
 obtain ⟨h1,h2,h3,h4,h5⟩:=hs
 unfold zAC
 by_cases hk1:k<=1
 ·rw [pLe_t hk1,ifB_t]
  exact ⟨0,s,rfl,⟨h1,h2,h3,h4,h5⟩,by omega,fun _=>rfl,fun h=>by omega⟩
 ·have hc:pConv .u64 k=k:=IntWalk.u64_in k ⟨by omega,by omega⟩
  have hr:∀ x y:Int,0<=pConv .i64 (pRem (pAdd .u64 x y) k)/\pConv .i64 (pRem (pAdd .u64 x y) k) < k:=fun x y=>by
   have ⟨a,_⟩:=zNX (x+y)
   have e:pRem (pAdd .u64 x y) k=(pAdd .u64 x y) % k:=Int.tmod_eq_emod_of_nonneg a
   have b1:=Int.emod_nonneg (pAdd .u64 x y) (show k≠0 by omega)
   have b2:=Int.emod_lt_of_pos (pAdd .u64 x y) (show 0 < k by omega)
   rw [e]
   have e2:pConv .i64 (pAdd .u64 x y % k)=pAdd .u64 x y % k:=zE0 (by omega) (by omega)
   rw [e2]
   exact ⟨b1,b2⟩
  rw [pLe_f (by omega),ifB_f,hc]
  simp only [show pLt 13 0=false from rfl,show pLt 7 0=false from rfl,show pLt 17 0=false from rfl,show pLt 20 0=false from rfl,ifB_f,pEq_f (show k≠0 by omega)]
  by_cases hp:s.2.1 < s.1.length
  ·obtain ⟨p,hp'⟩:∃ p:Nat,s.2.1=(p:Int):=⟨s.2.1.toNat,by omega⟩
   have hlt:p < s.1.length:=by omega
   have hi:idx s.1 s.2.1=some s.1[p]:=by rw [hp'];exact zCT hlt
   rw [zCP,pLt_t hp,ifB_t,hi,zA2]
   refine ⟨_,_,rfl,⟨h1,?_,?_,h4,h5⟩,(hr _ _).1,fun h=>by omega,fun _=>(hr _ _).2⟩
   ·show 0<=pAdd .i64 s.2.1 1
    rw [zC6 (by omega) (by omega)];omega
   ·show pAdd .i64 s.2.1 1<=_
    rw [zC6 (by omega) (by omega)]
    show _<=(s.1.length:Int)
    omega
  ·rw [zCP,pLt_f (by omega),ifB_f]
   exact ⟨_,_,rfl,⟨h1,h2,h3,h4,h5⟩,(hr _ _).1,fun h=>by omega,fun _=>(hr _ _).2⟩
theorem zP4 (N:Nat) (s:SrcT) (k:Int) (hs:srcOk s) (hk:k<=4611686018427387904):∃ b s',zBC N s k=some (b,s')/\srcOk s':=by
 obtain ⟨v,s',h,hs',_⟩:=n_ok N s k hs hk
 exact ⟨_,s',by unfold zBC;rw [h,zA2],hs'⟩
theorem zOJ (N:Nat) (s:SrcT) (l:List ByteArray) (hs:srcOk s) (h0:0 < l.length) (hk:l.length<=1048576):∃ x s',zBZ N s l=some (x,s')/\srcOk s'/\x∈l:=by
 obtain ⟨v,s',h,hs',h1,h2,h3⟩:=n_ok N s (pLen l) hs (by rw [zCP];omega)
 rw [zCP] at h2 h3
 obtain ⟨p,rfl⟩:∃ p:Nat,v=(p:Int):=⟨v.toNat,by omega⟩
 have hlt:p < l.length:=by
  by_cases q:l.length<=1
  ·have:=h2 (by omega);omega
  ·have:=h3 (by omega);omega
 exact ⟨l[p],s',by unfold zBZ;rw [h,zA2,zCT hlt,zA2],hs',List.getElem_mem hlt⟩
end Go.AE.F
namespace Go.AE.F
open Go.AE
def Tot {A:Type} (P:A->Prop) (o:Option A):Prop:=∃ x,o=some x/\P x
theorem Tot.bind {A B:Type} {P:A->Prop} {Q:B->Prop} {o:Option A} {f:A->Option B} (h:Tot P o) (k:∀ x,P x->Tot Q (f x)):Tot Q (bindO o f):=by
 obtain ⟨x,h1,h2⟩:=h
 rw [h1,zA2];exact k x h2
theorem Tot.ite {A:Type} {P:A->Prop} {c:Bool} {a b:Option A} (h1:c=true->Tot P a) (h2:c=false->Tot P b):Tot P (ifB c a b):=by
 cases c with
 | true=>exact h1 rfl
 | false=>exact h2 rfl
theorem Tot.both {A:Type} {P:A->Prop} {c:Bool} {a b:Option A} (h1:Tot P a) (h2:Tot P b):Tot P (ifB c a b):=Tot.ite (fun _=>h1) (fun _=>h2)
theorem Tot.ret {A:Type} {P:A->Prop} {x:A} (h:P x):Tot P (some x):=⟨x,rfl,h⟩
theorem Tot.fit {A B:Type} {P:B->Prop} {xs ys:List A} {a:Option B} (h:xs.length+ys.length<=68719476736) (h1:Tot P a):Tot P (ifB (pFit xs ys) a none):=by rw [zD0 h];exact h1
theorem nT (N:Nat) (s:SrcT) (k:Int) (hs:srcOk s) (hk:k<=4611686018427387904):Tot (fun r:Int×SrcT=>srcOk r.2/\0<=r.1/\(k<=1->r.1=0)/\(1 < k->r.1 < k)) (zAC N s k):=by
 obtain ⟨v,s',h,h1,h2,h3,h4⟩:=n_ok N s k hs hk
 exact ⟨(v,s'),h,h1,h2,h3,h4⟩
theorem oneT (N:Nat) (s:SrcT) (k:Int) (hs:srcOk s) (hk:k<=4611686018427387904):Tot (fun r:Bool×SrcT=>srcOk r.2) (zBC N s k):=by
 obtain ⟨v,s',h,h1⟩:=zP4 N s k hs hk
 exact ⟨(v,s'),h,h1⟩
theorem idxT {A:Type} (l:List A) (i:Int) (h0:0<=i) (h1:i < l.length):Tot (fun x=>x∈l) (idx l i):=by
 obtain ⟨p,rfl⟩:∃ p:Nat,i=(p:Int):=⟨i.toNat,by omega⟩
 exact ⟨_,zCT (by omega),List.getElem_mem _⟩
theorem zKY (N:Nat) (a:Int):Tot (fun _=>True) (zC9 N a):=by
 unfold zC9
 simp only [show pEq 64 0=false from rfl,show pEq 4096 0=false from rfl,show pEq 262144 0=false from rfl,ifB_f]
 exact Tot.both (Tot.ret trivial) (Tot.both (Tot.ret trivial) (Tot.both (Tot.ret trivial) (Tot.ret trivial)))
theorem zLD (s:ByteArray) (i:Nat) (h:i < s.size):Tot (fun b=>0<=b/\b < 256) (bidx s (i:Int)):=by
 have hl:i < s.data.toList.length:=by rw [Array.length_toList];exact h
 exact ⟨_,zOG hl,by omega,by have:=(s.data.toList[i]).toNat_lt;omega⟩
theorem zK2 {N:Nat} {R:Type} (s:ByteArray) (w:Nat) (hw:w<=s.size) (hw4:w<=4) (k:(ByteArray×Int×Int×Unit) ⊕ (Int×Int×Unit)->Option R):∀ (m i n:Nat) (a:Int),w - i=m->i<=w->m < n ->
  ∃ r,loopP (zAY.l18 N) n (s,(w:Int),a,(i:Int),()) k=k r/\(r=.inr (65533,1,()) \/ ∃ a',r=.inl (s,(w:Int),a',())):=by
 intro m
 induction m with
 | zero =>
  intro i n a hm hi hn
  obtain ⟨n,rfl⟩:=zCU hn
  refine ⟨_,?_,.inr ⟨a,rfl⟩⟩
  rw [zCO];unfold zAY.l18;simp only []
  rw [pLt_f (by omega),ifB_f]
 | succ m ih =>
  intro i n a hm hi hn
  obtain ⟨n,rfl⟩:=zCU hn
  obtain ⟨b,hb,_⟩:=zLD s i (by omega)
  rw [zCO];unfold zAY.l18;simp only []
  rw [pLt_t (by omega),ifB_t]
  simp only [hb,zA2]
  rw [zDH,zA2]
  cases (pLt b 128 || pGe b 192) with
  | true=>exact ⟨_,rfl,.inl rfl⟩
  | false =>
   rw [ifB_f,zC6 (a:=(i:Int)) (b:=1) (by omega) (by omega)]
   exact ih (i+1) n _ (by omega) (by omega) (by omega)
theorem zJT (N:Nat) (s:ByteArray) (h0:0 < s.size) (hN:5 < N):Tot (fun r:Int×Int=>ptG r.1=true/\1<=r.2/\r.2<=(s.size:Int)) (zAY N s):=by
  have bad:Tot (fun r:Int×Int=>ptG r.1=true/\1<=r.2/\r.2<=(s.size:Int)) (some (65533,1)):=Tot.ret ⟨rfl,by omega,by show (1:Int)<=_;omega⟩
  unfold zAY
  refine Tot.bind (zLD s 0 h0) fun b hb=>?_
  have hc:pConv .i64 b=b:=zE0 (by omega) (by omega)
  rw [hc]
  refine Tot.ite (fun h=>Tot.ret ⟨?_,by omega,by show (1:Int)<=_;omega⟩) (fun _=>?_)
  · have:b < 128:=of_decide_eq_true h
    unfold ptG
    rw [decide_eq_true hb.1,decide_eq_true (show b<=1114111 by omega),decide_eq_false (show ¬ 55296<=b by omega)]
    rfl
  · refine Tot.bind (P:=fun r:ByteArray×Int×Int×Unit=>r.1=s/\∃ w:Nat,r.2.1=(w:Int)/\w<=4) ?_ ?_
    · simp only [zD4,zA2]
      exact Tot.both (Tot.ret ⟨rfl,2,rfl,by omega⟩) (Tot.both (Tot.ret ⟨rfl,3,rfl,by omega⟩) (Tot.both (Tot.ret ⟨rfl,4,rfl,by omega⟩) (Tot.ret ⟨rfl,0,rfl,by omega⟩)))
    · intro r hr
      obtain ⟨rs,rw',ra,_⟩:=r
      obtain ⟨h1,w,h2,h3⟩:=hr
      simp only at h1 h2
      subst h1 h2
      simp only []
      rw [zDH,zA2]
      refine Tot.ite (fun _=>bad) (fun hf=>?_)
      rw [Bool.or_eq_false_iff] at hf
      have hw0:w≠0:=fun q=>by subst q;have:=hf.1;rw [show pEq ((0:Nat):Int) 0=true from rfl] at this;cases this
      have hws:w<=rs.size:=by
        have:=of_decide_eq_false hf.2
        have e:pSize rs=(rs.size:Int):=rfl
        rw [e] at this
        omega
      obtain ⟨r, hr, hr2⟩ := zK2 (N := N) rs w hws h3 (onSum (fun d =>
            let x54:=d.1;
            let x55:=d.2.1;
            let x56:=d.2.2.1;
            bindO (zBQ N x56) fun y57 =>
            ifB (pNot y57) (
              some (65533,1)) (
              ifB (pLe 0 0) (
                ifB (pLe 0 x55) (
                  ifB (pLe x55 (pSize x54)) (
                    bindO (zC9 N x56) fun y58 =>
                    ifB (pNot (pSEq (bytesOf y58) (ssub x54 0 x55))) (
                      some (65533,1)) (
                      some (x56,x55))) (
                    none)) (
                  none)) (
                none))) (
          fun d =>
          let x59:=d.1;
          let x60:=d.2.1;
          some (x59,x60))) _ 1 N ra rfl (by omega) (by omega)
      refine (show Tot _ _ from ?_:Tot _ _)
      rw [show ((1:Nat):Int)=1 from rfl] at hr
      rw [hr]
      rcases hr2 with hr2 | ⟨a',hr2⟩
      · rw [hr2];exact bad
      · rw [hr2]
        simp only [onSum]
        rw [zDI,zA2]
        cases hp:ptG a' with
        | false=>exact bad
        | true =>
          rw [zCZ,Bool.not_true,ifB_f,pLe_t (by omega),ifB_t,pLe_t (by omega),ifB_t,pLe_t (by show (w:Int)<=(rs.size:Int);omega),ifB_t]
          refine Tot.bind (zKY N a') fun l _=>?_
          exact Tot.both bad (Tot.ret ⟨hp,by show (1:Int)<=(w:Int);omega,by show (w:Int)<=(rs.size:Int);omega⟩)
theorem zMT (N:Nat) (s:SrcT) (hs:srcOk s):Tot (fun r:Int×SrcT=>srcOk r.2) (zC0 N s):=by
 unfold zC0
 refine Tot.bind (nT N s 14 hs (by omega)) fun r h=>?_
 refine Tot.both (Tot.ret h.1) (Tot.both (Tot.ret h.1) (Tot.both ?_ (Tot.both ?_ (Tot.both ?_ (Tot.both ?_ (Tot.both ?_ ?_))))))
 ·refine Tot.bind (nT N _ 5 h.1 (by omega)) fun q hq=>?_
  have:=hq.2.2.2 (by omega)
  exact Tot.bind (idxT _ _ hq.2.1 (by simp;omega)) fun _ _=>Tot.bind (idxT _ _ hq.2.1 (by simp;omega)) fun _ _=>Tot.ret hq.1
 ·refine Tot.bind (nT N _ 20 h.1 (by omega)) fun q hq=>?_
  have:=hq.2.2.2 (by omega)
  exact Tot.bind (idxT _ _ hq.2.1 (by simp;omega)) fun _ _=>Tot.bind (idxT _ _ hq.2.1 (by simp;omega)) fun _ _=>Tot.ret hq.1
 ·refine Tot.bind (nT N _ 8 h.1 (by omega)) fun q hq=>?_
  have:=hq.2.2.2 (by omega)
  exact Tot.bind (idxT _ _ hq.2.1 (by simp;omega)) fun _ _=>Tot.bind (idxT _ _ hq.2.1 (by simp;omega)) fun _ _=>Tot.ret hq.1
 ·refine Tot.bind (nT N _ 5 h.1 (by omega)) fun q hq=>?_
  have:=hq.2.2.2 (by omega)
  exact Tot.bind (idxT _ _ hq.2.1 (by simp;omega)) fun _ _=>Tot.bind (idxT _ _ hq.2.1 (by simp;omega)) fun _ _=>Tot.ret hq.1
 ·exact Tot.bind (nT N _ 10 h.1 (by omega)) fun q hq=>Tot.ret hq.1
 ·exact Tot.bind (nT N _ 6 h.1 (by omega)) fun q hq=>Tot.ret hq.1
theorem zHS {N:Nat} {R:Type} (k:SrcT×List Int×Unit->Option R):∀ (m n:Nat) (s:SrcT) (out:List Int),m < n->srcOk s->out.length+m<=100000 ->
  ∃ s' l,loopP (zA7.l2 N) n ((m:Int),s,out,()) k=k (s',l,())/\srcOk s'/\l.length<=out.length+m:=by
 intro m
 induction m with
 | zero =>
  intro n s out hn hs ho
  obtain ⟨n,rfl⟩:=zCU hn
  refine ⟨s,out,?_,hs,by omega⟩
  rw [zCO];unfold zA7.l2;simp only []
  rw [pGt_f (by omega),ifB_f]
 | succ m ih =>
  intro n s out hn hs ho
  obtain ⟨n,rfl⟩:=zCU hn
  obtain ⟨⟨p,s1⟩,h1,hs1⟩:=zMT N s hs
  have e:pSub .i64 ((m+1:Nat):Int) 1=(m:Int):=by rw [zCX (by omega) (by omega)];omega
  rw [zCO];unfold zA7.l2;simp only []
  rw [pGt_t (by omega),ifB_t,h1,zA2]
  simp only []
  rw [zD0 (by simp;omega),ifB_t,e]
  obtain ⟨s2,l,g1,g2,g3⟩:=ih n s1 (pApp out [p]) (by omega) hs1 (by simp [pApp];omega)
  exact ⟨s2,l,g1,g2,by simp [pApp] at g3;omega⟩
theorem zE9 (N:Nat) (s:SrcT) (k:Int) (hs:srcOk s) (h0:0<=k) (hk:k<=100000) (hN:100001 < N):Tot (fun r:List Int×SrcT=>srcOk r.2/\(r.1.length:Int)<=k) (zA7 N s k):=by
 obtain ⟨p,rfl⟩:∃ p:Nat,k=(p:Int):=⟨k.toNat,by omega⟩
 unfold zA7
 obtain ⟨s',l,g1,g2,g3⟩:=zHS (N:=N) (fun d =>
  let x17:=d.1;
  let x18:=d.2.1;
  some (x18,x17)) p N s [] (by omega) hs (by simp;omega)
 exact ⟨(l,s'),g1,g2,by simp at g3;show (l.length:Int)<=p;omega⟩
end Go.AE.F
namespace Go.AE.F
open Go.AE
def shortB (r:BufT×SrcT):Prop:=srcOk r.2/\r.1.1.length<=1000
theorem zIC (N:Nat) (l:List Int) (hl:l.length<=400) (s:SrcT) (hs:srcOk s):Tot shortB (
  bindO (zAC N s (pAdd Go.IntKind.i64 (pLen l) 1)) fun y40 =>
  bindO (zAC N y40.2 (pAdd Go.IntKind.i64 (pLen l) 1)) fun y41 =>
  bindO (zBC N y41.2 15) fun y42 =>
  ifB y42.1 (
   bindO (zAC N y42.2 3) fun y43 =>
   ifB (pEq y43.1 0) (
    bindO (zAC N y43.2 2) fun y44 =>
    bindO (idx ([(-1),(pAdd Go.IntKind.i64 (pLen l) 1)]) y44.1) fun y45 =>
    bindO (idx ([(-1),(pAdd Go.IntKind.i64 (pLen l) 1)]) y44.1) fun y46 =>
    some ((l,(y46,(y41.1,()))),y44.2)) (
    ifB (pEq y43.1 1) (
     bindO (zAC N y43.2 2) fun y47 =>
     bindO (idx ([(-1),(pAdd Go.IntKind.i64 (pLen l) 1)]) y47.1) fun y48 =>
     bindO (idx ([(-1),(pAdd Go.IntKind.i64 (pLen l) 1)]) y47.1) fun y49 =>
     some ((l,(y40.1,(y49,()))),y47.2)) (
     ifB (pFit l [55296]) (
      some (((pApp l [55296]),(y40.1,(y41.1,()))),y43.2)) (
      none)))) (
   some ((l,(y40.1,(y41.1,()))),y42.2))):=by
 have e:pAdd .i64 (pLen l) 1=(l.length:Int)+1:=by rw [zCP,zC6 (by omega) (by omega)]
 rw [e]
 refine Tot.bind (nT N s _ hs (by omega)) fun a ha=>?_
 refine Tot.bind (nT N _ _ ha.1 (by omega)) fun b hb=>?_
 refine Tot.bind (oneT N _ 15 hb.1 (by omega)) fun o ho=>?_
 have hlen:l.length<=1000:=by omega
 refine Tot.both ?_ (Tot.ret ⟨ho,hlen⟩)
 refine Tot.bind (nT N _ 3 ho (by omega)) fun u hu=>?_
 refine Tot.both ?_ (Tot.both ?_ ?_)
 ·refine Tot.bind (nT N _ 2 hu.1 (by omega)) fun w hw=>?_
  have hw2:=hw.2.2.2 (by omega)
  exact Tot.bind (idxT _ _ hw.2.1 (by simp;omega)) fun _ _=>Tot.bind (idxT _ _ hw.2.1 (by simp;omega)) fun _ _=>Tot.ret ⟨hw.1,hlen⟩
 ·refine Tot.bind (nT N _ 2 hu.1 (by omega)) fun w hw=>?_
  have hw2:=hw.2.2.2 (by omega)
  exact Tot.bind (idxT _ _ hw.2.1 (by simp;omega)) fun _ _=>Tot.bind (idxT _ _ hw.2.1 (by simp;omega)) fun _ _=>Tot.ret ⟨hw.1,hlen⟩
 ·exact Tot.fit (by simp;omega) (Tot.ret ⟨hu.1,by show (pApp l [55296]).length<=1000;simp [pApp];omega⟩)
theorem zNM (N:Nat) (hN:100001 < N) (s:SrcT) (hs:srcOk s):Tot shortB (zBS N s):=by
 unfold zBS
 have hz:=hs.2.2.2
 have e1:pMul .i64 2 s.2.2.2.1=2 * s.2.2.2.1:=zE0 (by omega) (by omega)
 rw [e1,zC6 (a:=14) (by omega) (by omega)]
 refine Tot.bind (nT N s _ hs (by omega)) fun v hv=>?_
 have hv2:=hv.2.2.2 (by omega)
 refine Tot.bind (zE9 N _ _ hv.1 hv.2.1 (by omega) hN) fun p hp=>?_
 have hpl:=hp.2
 refine Tot.bind (oneT N _ 50 hp.1 (by omega)) fun o ho=>?_
 refine Tot.both ?_ ?_
 ·refine Tot.bind (nT N _ 4 ho (by omega)) fun w hw=>?_
  have hw2:=hw.2.2.2 (by omega)
  have hw0:=hw.2.1
  have e2:pAdd .i64 298 w.1=298+w.1:=zC6 (by omega) (by omega)
  rw [e2]
  refine Tot.bind (zE9 N _ _ hw.1 (by omega) (by omega) hN) fun q hq=>?_
  have hql:=hq.2
  exact zIC N q.1 (by omega) q.2 hq.1
 ·exact zIC N p.1 (by omega) o.2 ho
end Go.AE.F
namespace Go.AE.F
open Go.AE
theorem zO0 {A:Type} (x:List A) (n:Nat):sub x (n:Int) (x.length:Int)=x.drop n:=by simp [sub]
end Go.AE.F
namespace Go.AE.F
open Go.AE
theorem zEO {D E R:Type} {step:D->(D->Option R)->(E->Option R)->Option R} {k:E->Option R} {Q:R->Prop} (I:Nat->D->Prop) (X:E->Prop)
  (hk:∀ e,X e->Tot Q (k e))
  (hs:∀ m d (kn:D->Option R) (kx:E->Option R),I m d->(∀ m' d',m' < m->I m' d'->Tot Q (kn d'))->(∀ e,X e->Tot Q (kx e))->Tot Q (step d kn kx)) :
  ∀ (n m:Nat) (d:D),m < n->I m d->Tot Q (loopP step n d k)
 | 0,m,d,h,_=>absurd h (Nat.not_lt_zero _)
 | n+1,m,d,h,hi=>by
  rw [zCO]
  exact hs m d _ _ hi (fun m' d' hm' hi'=>zEO I X hk hs n m' d' (by omega) hi') hk
def TT {A:Type}:A->Prop:=fun _=>True
end Go.AE.F
namespace Go.AE.F
open Go.AE
def ex:Nat->Nat
 | 0=>1
 | a+1=>1+2 * ex a
end Go.AE.F
