/- Plain laws of those functions. -/
import Derived.Test.YtkknmokglbhheaaGreatLMachineP18
namespace Go.AE.F
open Go.AE
abbrev MkT:=List NodeT×List ByteArray×List OpT×Unit
def MP (l:List NodeT) (names:List ByteArray) (e lo hi:Nat) (r:Int×MkT):Prop:=∃ ops:List OpT,r=((e:Int),(l,(names,(ops,()))))∧lo≤ops.length∧ops.length≤hi
theorem mput_eq (F:Nat) (l:List NodeT) (names:List ByteArray) (ops:List OpT) (k v:Int) (h:ops.length≤100000):zBD F (l,(names,(ops,()))) k v=some ((ops.length:Int),(l,(names,(ops ++ [(k,(v,()))],())))):=by
  unfold zBD
  rw [pFit_t (by simp;omega),ifB_t,pLen_d]
  have:pSub .i64 ((pApp ops [(k,(v,()))]).length:Int) 1=(ops.length:Int):=by
    unfold pApp
    rw [List.length_append,pSub_i (by simp only [List.length_cons,List.length_nil];omega) (by simp only [List.length_cons,List.length_nil];omega)]
    simp
  rw [this];rfl
theorem slot_tot (F:Nat) (m:MkT) (s:ByteArray) (h:m.2.1.length≤1000) (hF:m.2.1.length < F):Tot TT (zAM F m s):=by
  unfold zAM
  refine loop_tot (fun k d=>∃ i:Nat,d.1=m∧d.2.2.1=(i:Int)∧m.2.1.length≤k+i) (fun _=>True) (fun e _=>by cases e <;> exact Tot.ret trivial) ?_ F m.2.1.length _ hF ⟨0,rfl,rfl,by omega⟩
  intro k d kn kx ⟨i,h1,h2,h3⟩ hn hx
  unfold zAM.l2
  simp only [h1,h2,pLen_d]
  refine Tot.ite (fun hh=>?_) (fun _=>hx _ trivial)
  have hlt:i < m.2.1.length:=by rw [pLt_d] at hh;have:=of_decide_eq_true hh;omega
  rw [idx_lt hlt,bindO_s]
  refine Tot.both (hx _ trivial) ?_
  exact hn (k - 1) _ (by omega) ⟨i+1,rfl,by show pAdd .i64 (i:Int) 1=_;rw [pAdd_i (by omega) (by omega)];rfl,by omega⟩
theorem own13_tot (F:Nat) (k:Int):Tot TT (zD9 F k):=by
  unfold zD9
  repeat (refine Tot.both (Tot.ret trivial) ?_)
  exact Tot.ret trivial
theorem kid_loop (l:List NodeT) (names:List ByteArray) (d F:Nat) (n:NodeT)
    (rec':∀ (a e:Nat) (ops:List OpT),TreeR l d a e→e≤1000→ops.length+4 * (e - a)≤10000→Tot (MP l names e ops.length (ops.length+4 * (e - a))) (zAA F (l,(names,(ops,()))) (a:Int))) {R:Type} {Q:R→Prop} (K:Nat) (hK:n.2.2.2.1=(K:Int)) (hK2:K≤200) (kont:Int×MkT×NodeT×Unit→Option R)
    (e lo hi:Nat) (he:e≤1000) (hhi:hi≤10000) (hk:∀ ops:List OpT,lo≤ops.length→ops.length≤hi→Tot Q (kont ((e:Int),(l,(names,(ops,()))),n,()))) :
    ∀ (k m i a:Nat) (ops:List OpT),k+i=K→k < m→chainR (TreeR l d) k a e→lo≤ops.length→ops.length+4 * (e - a)≤hi →
      Tot Q (loopP (zAA.l25 F (zAA F)) m ((a:Int),(i:Int),(l,(names,(ops,()))),n,()) kont):=by
  intro k
  induction k with
  | zero =>
    intro m i a ops h1 h2 hc h3 h4
    obtain ⟨m,rfl⟩:=succ_of h2
    have:a=e:=hc
    subst this
    rw [loopP_s];unfold zAA.l25;simp only [hK]
    rw [pLt_f (by omega),ifB_f]
    exact hk ops h3 (by omega)
  | succ k ih =>
    intro m i a ops h1 h2 hc h3 h4
    obtain ⟨m,rfl⟩:=succ_of h2
    obtain ⟨x,c1,c2⟩:=hc
    have hx:=tree_lt _ _ _ c1
    have hxe:=chain_le (tree_lt (l:=l) d) _ _ _ c2
    rw [loopP_s];unfold zAA.l25;simp only [hK]
    rw [pLt_t (by omega),ifB_t]
    refine Tot.bind (rec' a x ops c1 (by omega) (by omega)) fun r hr=>?_
    obtain ⟨ops',rfl,g1,g2⟩:=hr
    rw [show pAdd .i64 (i:Int) 1=((i+1:Nat):Int) by rw [pAdd_i (by omega) (by omega)];rfl]
    exact ih m (i+1) x ops' (by omega) (by omega) c2 (by omega) (by omega)
theorem set_op {ops:List OpT} {j:Nat} (h:j < ops.length) {l:List NodeT} {names:List ByteArray} {e:Int} {v:Int} {lo hi:Nat} {E:Nat} (he:e=(E:Int)) (h1:lo≤ops.length) (h2:ops.length≤hi) :
    Tot (MP l names E lo hi) (bindO (idx ops (j:Int)) fun y76=>bindO (idx ops (j:Int)) fun y77=>some (e,(l,(names,((pSet ops (j:Int) (y77.1,(v,y77.2.2))),()))))):=by
  rw [idx_lt h,bindO_s,bindO_s]
  exact Tot.ret ⟨_,by rw [he],by simp [pSet];omega,by simp [pSet];omega⟩
theorem node_ok (l:List NodeT) (names:List ByteArray) (hnm:names.length≤250):∀ (d F:Nat),300+d < F→∀ (a e:Nat) (ops:List OpT),TreeR l d a e→e≤1000→ops.length+4 * (e - a)≤10000 →
    Tot (MP l names e ops.length (ops.length+4 * (e - a))) (zAA F (l,(names,(ops,()))) (a:Int)):=by
  intro d
  induction d with
  | zero=>intro F hF a e ops h;exact h.elim
  | succ d ih =>
    intro F hF a e ops ⟨n,hg,hok,hc⟩ he hb
    obtain ⟨F,rfl⟩:=succ_of hF
    have rec':=ih F (by omega)
    show Tot _ (zAA.st F (zAA F) (l,(names,(ops,()))) (a:Int))
    unfold zAA.st
    have hi:idx l (a:Int)=some n:=by
      unfold idx
      rw [if_pos (by omega),Int.toNat_natCast,hg]
    have hal:=chain_le (tree_lt (l:=l) d) _ _ _ hc
    obtain ⟨o1,o2,o3,o4⟩:=hok
    obtain ⟨K,hK⟩:∃ K:Nat,n.2.2.2.1=(K:Int):=⟨n.2.2.2.1.toNat,by omega⟩
    rw [hK,Int.toNat_natCast] at hc hal
    have ea:pAdd .i64 (a:Int) 1=((a+1:Nat):Int):=by rw [pAdd_i (by omega) (by omega)];rfl
    simp only []
    rw [hi,bindO_s,mput_eq F l names ops 1 0 (by omega),bindO_s,ea]
    simp only []
    have hl1:(ops ++ [((1:Int),((0:Int),()))]).length=ops.length+1:=by simp
    generalize hops1:ops ++ [((1:Int),((0:Int),()))]=ops1 at hl1
    by_cases h3:n.1=3
    · rw [pEq_t h3,ifB_t]
      rcases o3 h3 with hk | hk
      · have hK2:K=2:=by omega
        subst hK2
        obtain ⟨x,c1,y,c2,c3⟩:=hc
        have c3:y=e:=c3
        subst c3
        have l1:=tree_lt _ _ _ c1
        have l2:=tree_lt _ _ _ c2
        refine Tot.bind (rec' (a+1) x ops1 c1 (by omega) (by omega)) fun r hr=>?_
        obtain ⟨ops2,rfl,g1,g2⟩:=hr
        simp only []
        rw [mput_eq F l names ops2 12 0 (by omega),bindO_s]
        simp only []
        have hl2:(ops2 ++ [((12:Int),((0:Int),()))]).length=ops2.length+1:=by simp
        refine Tot.bind (rec' x y (ops2 ++ [((12:Int),((0:Int),()))]) c2 (by omega) (by omega)) fun r hr=>?_
        obtain ⟨ops3,rfl,g3,g4⟩:=hr
        rw [pEq_f (show n.2.2.2.1≠3 by omega),ifB_f]
        unfold zBL
        rw [bindO_s]
        simp only []
        exact set_op (by omega) rfl (by omega) (by omega)
      · have hK3:K=3:=by omega
        subst hK3
        obtain ⟨x,c1,y,c2,z,c3,c4⟩:=hc
        have c4:z=e:=c4
        subst c4
        have l1:=tree_lt _ _ _ c1
        have l2:=tree_lt _ _ _ c2
        have l3:=tree_lt _ _ _ c3
        refine Tot.bind (rec' (a+1) x ops1 c1 (by omega) (by omega)) fun r hr=>?_
        obtain ⟨ops2,rfl,g1,g2⟩:=hr
        simp only []
        rw [mput_eq F l names ops2 12 0 (by omega),bindO_s]
        simp only []
        have hl2:(ops2 ++ [((12:Int),((0:Int),()))]).length=ops2.length+1:=by simp
        refine Tot.bind (rec' x y (ops2 ++ [((12:Int),((0:Int),()))]) c2 (by omega) (by omega)) fun r hr=>?_
        obtain ⟨ops3,rfl,g3,g4⟩:=hr
        rw [pEq_t hk,ifB_t]
        simp only []
        rw [mput_eq F l names ops3 11 0 (by omega),bindO_s]
        unfold zBL
        rw [bindO_s]
        simp only []
        have hl3:(ops3 ++ [((11:Int),((0:Int),()))]).length=ops3.length+1:=by simp
        generalize ops3 ++ [((11:Int),((0:Int),()))]=ops4 at hl3
        rw [idx_lt (show ops2.length < ops4.length by omega),bindO_s,bindO_s]
        have hl4:∀ w:OpT,(pSet ops4 (ops2.length:Int) w).length=ops4.length:=fun w=>by simp [pSet]
        refine Tot.bind (rec' y z (pSet ops4 (ops2.length:Int) _) c3 (by omega) (by rw [hl4];omega)) fun r hr=>?_
        obtain ⟨ops5,rfl,g5,g6⟩:=hr
        rw [hl4] at g5 g6
        rw [bindO_s]
        simp only []
        exact set_op (by omega) rfl (by omega) (by omega)
    rw [pEq_f h3,ifB_f]
    by_cases h4:n.1=4
    · rw [pEq_t h4,ifB_t]
      have hk:=o4 h4
      have hK2:K=2:=by omega
      subst hK2
      obtain ⟨x,c1,y,c2,c3⟩:=hc
      have c3:y=e:=c3
      subst c3
      have l1:=tree_lt _ _ _ c1
      have l2:=tree_lt _ _ _ c2
      unfold zBL
      rw [bindO_s]
      refine Tot.bind (rec' (a+1) x ops1 c1 (by omega) (by omega)) fun r hr=>?_
      obtain ⟨ops2,rfl,g1,g2⟩:=hr
      simp only []
      rw [mput_eq F l names ops2 12 0 (by omega),bindO_s]
      simp only []
      have hl2:(ops2 ++ [((12:Int),((0:Int),()))]).length=ops2.length+1:=by simp
      refine Tot.bind (rec' x y (ops2 ++ [((12:Int),((0:Int),()))]) c2 (by omega) (by omega)) fun r hr=>?_
      obtain ⟨ops3,rfl,g3,g4⟩:=hr
      simp only []
      rw [mput_eq F l names ops3 11 _ (by omega),bindO_s,bindO_s]
      simp only []
      have hl3:∀ w:Int,(ops3 ++ [((11:Int),(w,()))]).length=ops3.length+1:=fun w=>by simp
      exact set_op (by rw [hl3];omega) rfl (by rw [hl3];omega) (by rw [hl3];omega)
    rw [pEq_f h4,ifB_f]
    have kl:=kid_loop l names d F n rec' (Q:=MP l names e ops.length (ops.length+4 * (e - a))) K hK (by omega)
    refine kl _ e (ops.length+1) (ops.length+4 * (e - a) - 1) he (by omega) (fun ops' w1 w2=>?_) K F 0 (a+1) ops1 rfl (by omega) hc (by omega) (by omega)
    simp only []
    have fin:∀ (k v:Int),Tot (MP l names e ops.length (ops.length+4 * (e - a))) (bindO (bindO (zBD F (l,(names,(ops',()))) k v) fun y=>some (((e:Int),y.2,()):Int×MkT×Unit)) fun d=>some (d.1,d.2.1)):=fun k v=>by
      rw [mput_eq F l names ops' k v (by omega),bindO_s,bindO_s]
      exact Tot.ret ⟨_,rfl,by simp;omega,by simp;omega⟩
    have pre:∀ {o:Option Int} (k:Int),Tot TT o→Tot (MP l names e ops.length (ops.length+4 * (e - a))) (bindO (bindO o fun v=>bindO (zBD F (l,(names,(ops',()))) k v) fun y=>some (((e:Int),y.2,()):Int×MkT×Unit)) fun d=>some (d.1,d.2.1)):=fun k ho=>by
      obtain ⟨v,rfl,_⟩:=ho
      exact fin k v
    by_cases k2:n.1=2
    · rw [pEq_t k2,ifB_t];exact pre 4 (slot_tot F _ _ (by show names.length≤1000;omega) (by show names.length < F;omega))
    rw [pEq_f k2,ifB_f]
    by_cases k12:n.1=12
    · rw [pEq_t k12,ifB_t];exact pre 3 (slot_tot F _ _ (by show names.length≤1000;omega) (by show names.length < F;omega))
    rw [pEq_f k12,ifB_f]
    by_cases k11:n.1=11
    · rw [pEq_t k11,ifB_t];exact fin 2 _
    rw [pEq_f k11,ifB_f]
    by_cases k10:n.1=10
    · rw [pEq_t k10,ifB_t];exact pre 18 (motion_tot F (by omega) _)
    rw [pEq_f k10,ifB_f]
    by_cases k18:18≤n.1
    · rw [pGe_t (by omega),ifB_t];exact fin 10 _
    rw [pGe_f (by omega),ifB_f]
    obtain ⟨v,hv,_⟩:=own13_tot F n.1
    rw [hv,bindO_s]
    by_cases hv0:pGt v 0=true
    · rw [hv0,ifB_t,bindO_s];exact fin v 0
    · have:pGt v 0=false:=by simpa using hv0
      rw [this,ifB_f,bindO_s]
      exact Tot.ret ⟨ops',rfl,by omega,by omega⟩
theorem code_tot (N:Nat) (hN:2000 < N) (l:List NodeT) (hl2:l.length≤1000000):Tot (fun ops:List OpT=>ops.length≤1000) (zDB N l):=by
  unfold zDB
  rw [pLen_d]
  by_cases h4:400 < l.length
  · rw [pGt_t (by omega),ifB_t,bindO_s,ifB_t];exact Tot.ret (by simp)
  rw [pGt_f (by omega),ifB_f]
  obtain ⟨c,q1,q2⟩:=right_tot N hN l (by omega)
  rw [q1,bindO_s,bindO_s]
  cases c with
  | false=>exact Tot.ret (by simp)
  | true =>
    obtain ⟨w1,e,w2,w3⟩:=q2 rfl
    show Tot _ (bindO (zAL N l) fun y6=>bindO (zAA N (l,(y6,([],()))) 0) fun y7=>some y7.2.2.2.1)
    obtain ⟨v,v1,v2⟩:=vars_tot N hN l (by omega)
    rw [v1,bindO_s]
    have v3:=node_ok l v (by omega) 20 N (by omega) 0 e [] w2 (by omega) (by simp;omega)
    obtain ⟨r,r1,ops,rfl,r2,r3⟩:=v3
    have r1:zAA N (l,(v,([],()))) 0=_:=r1
    rw [r1,bindO_s]
    refine Tot.ret ?_
    simp only [List.length_nil] at r3
    show ops.length≤1000
    omega
end Go.AE.F
