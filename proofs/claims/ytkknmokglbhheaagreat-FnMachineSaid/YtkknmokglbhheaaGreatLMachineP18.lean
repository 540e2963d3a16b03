/- Plain laws of those functions. -/
import Derived.Test.YtkknmokglbhheaaGreatLMachineP17
namespace Go.AE.F
open Go.AE
theorem loop_tot {D E R:Type} {step:D→(D→Option R)→(E→Option R)→Option R} {k:E→Option R} {Q:R→Prop} (I:Nat→D→Prop) (X:E→Prop)
    (hk:∀ e,X e→Tot Q (k e))
    (hs:∀ m d (kn:D→Option R) (kx:E→Option R),I m d→(∀ m' d',m' < m→I m' d'→Tot Q (kn d'))→(∀ e,X e→Tot Q (kx e))→Tot Q (step d kn kx)) :
    ∀ (n m:Nat) (d:D),m < n→I m d→Tot Q (loopP step n d k)
  | 0,m,d,h,_=>absurd h (Nat.not_lt_zero _)
  | n+1,m,d,h,hi=>by
    rw [loopP_s]
    exact hs m d _ _ hi (fun m' d' hm' hi'=>loop_tot I X hk hs n m' d' (by omega) hi') hk
theorem tl2_loop (s:ByteArray):∀ (n i:Nat) (r:List UInt8),s.size - i=n→(ByteArray.toList.loop s i r).length=r.length+n
  | 0,i,r,h=>by
    rw [ByteArray.toList.loop,if_neg (by omega),List.length_reverse];rfl
  | n+1,i,r,h=>by
    rw [ByteArray.toList.loop,if_pos (by omega),tl2_loop s n (i+1) _ (by omega),List.length_cons];omega
theorem seq_size {a b:ByteArray} (h:a.size≠b.size):pSEq a b=false:=by
  unfold pSEq
  rw [beq_eq_false_iff_ne]
  intro e
  have e2:=congrArg List.length e
  unfold ByteArray.toList at e2
  rw [tl2_loop a a.size 0 [] (by omega),tl2_loop b b.size 0 [] (by omega)] at e2
  simp only [List.length_nil] at e2
  omega
abbrev NodeT:=Int×Int×ByteArray×Int×Unit
def TT {A:Type}:A→Prop:=fun _=>True
theorem motion_tot (N:Nat) (hN:20 < N) (s:ByteArray):Tot TT (zAU N s):=by
  unfold zAU zBM
  rw [bindO_s]
  refine loop_tot (fun m d=>∃ i:Nat,d.2.1=(i:Int)∧d.2.2.1.length=11∧11≤m+i) (fun _=>True) (fun e _=>?_) (fun m d kn kx ⟨i,h1,h2,h3⟩ hn hx=>?_) N 10 _ (by omega) ⟨1,rfl,rfl,by omega⟩
  · cases e <;> exact Tot.ret trivial
  · unfold zAU.l3
    simp only [h1,pLen_d,h2]
    refine Tot.ite (fun h=>?_) (fun _=>hx _ trivial)
    have hlt:(i:Int) < 11:=by rw [pLt_d] at h;exact of_decide_eq_true h
    refine Tot.bind (idxT d.2.2.1 (i:Int) (by omega) (by omega)) fun x _=>Tot.bind (idxT d.2.2.1 (i:Int) (by omega) (by omega)) fun y _=>?_
    refine Tot.both (hx _ trivial) ?_
    exact hn (m - 1) _ (by omega) ⟨i+1,by show pAdd .i64 (i:Int) 1=_;rw [pAdd_i (by omega) (by omega)];rfl,h2,by omega⟩
theorem word_tot (N:Nat) (hN:40 < N) (s:ByteArray):Tot TT (zBA N s):=by
  unfold zBA zCO
  rw [bindO_s]
  refine loop_tot (fun m d=>∃ i:Nat,d.2.1=(i:Int)∧d.2.2.1.length=28∧28≤m+i) (fun _=>True) (fun e _=>?_) (fun m d kn kx ⟨i,h1,h2,h3⟩ hn hx=>?_) N 28 _ (by omega) ⟨2,rfl,rfl,by omega⟩
  · cases e <;> exact Tot.ret trivial
  · unfold zBA.l3
    simp only [h1,pLen_d,h2]
    refine Tot.ite (fun h=>?_) (fun _=>hx _ trivial)
    have hlt:(i:Int) < 28:=by rw [pLt_d] at h;exact of_decide_eq_true h
    refine Tot.bind (idxT d.2.2.1 (i:Int) (by omega) (by omega)) fun x _=>Tot.bind (idxT d.2.2.1 (i:Int) (by omega) (by omega)) fun y _=>?_
    refine Tot.bind (P:=TT) (Tot.both (Tot.ret trivial) (Tot.ret trivial)) fun c _=>?_
    refine Tot.both (hx _ trivial) ?_
    exact hn (m - 1) _ (by omega) ⟨i+1,by show pAdd .i64 (i:Int) 1=_;rw [pAdd_i (by omega) (by omega)];rfl,h2,by omega⟩
theorem name7_tot (N:Nat) (hN:30 < N) (s:ByteArray):Tot (fun b=>b=true→1≤s.size) (zBB N s):=by
  unfold zBB
  refine Tot.bind (P:=fun c=>c=false→1≤s.size∧s.size≤20) ?_ fun c hc=>?_
  · refine Tot.ite (fun _=>Tot.ret (fun h=>by cases h)) (fun h=>Tot.ret fun h2=>?_)
    rw [pLt_d] at h;rw [pGt_d] at h2
    have h:=of_decide_eq_false h
    have h2:=of_decide_eq_false h2
    unfold pSize at h h2
    omega
  refine Tot.ite (fun _=>Tot.ret (fun h=>by cases h)) (fun h=>?_)
  obtain ⟨a1,a2⟩:=hc h
  refine loop_tot (fun m d=>∃ i:Nat,d.2.1=(i:Int)∧d.1=s∧s.size≤m+i) (fun _=>True) (fun e _=>?_) (fun m d kn kx ⟨i,h1,h2,h3⟩ hn hx=>?_) N 20 _ (by omega) ⟨0,rfl,rfl,by omega⟩
  · cases e <;> exact Tot.ret (fun _=>a1)
  · unfold zBB.l4
    simp only [h1,h2]
    refine Tot.ite (fun h=>?_) (fun _=>hx _ trivial)
    have hlt:(i:Int) < (s.size:Int):=by rw [pLt_d] at h;exact of_decide_eq_true h
    have hb:=byte_at s i (by omega)
    refine Tot.bind hb fun x _=>?_
    refine Tot.bind (P:=TT) (Tot.both (Tot.bind hb fun _ _=>Tot.ret trivial) (Tot.ret trivial)) fun c _=>?_
    refine Tot.bind (P:=TT) (Tot.both (Tot.ret trivial) (Tot.bind hb fun _ _=>Tot.ret trivial)) fun c _=>?_
    refine Tot.both (hx _ trivial) ?_
    exact hn (m - 1) _ (by omega) ⟨i+1,by show pAdd .i64 (i:Int) 1=_;rw [pAdd_i (by omega) (by omega)];rfl,rfl,by omega⟩
theorem name_tot (N:Nat) (hN:40 < N) (s:ByteArray):Tot TT (zD0 N s):=by
  unfold zD0
  refine Tot.bind (name7_tot N (by omega) s) fun b hb=>?_
  refine Tot.bind (P:=TT) (Tot.ite (fun h=>Tot.bind (byte_at s 0 (hb h)) fun _ _=>Tot.ret trivial) (fun _=>Tot.ret trivial)) fun c _=>?_
  refine Tot.bind (P:=TT) (Tot.both (Tot.bind (word_tot N hN s) fun _ _=>Tot.ret trivial) (Tot.ret trivial)) fun c _=>?_
  exact Tot.ret trivial
theorem own_tot (N:Nat) (hN:40 < N) (n:NodeT):Tot TT (zDC N n):=by
  unfold zDC
  have q:∀ {o:Option Bool},Tot TT o→Tot TT (bindO o fun y=>some y):=fun h=>Tot.bind h fun _ _=>Tot.ret trivial
  refine Tot.bind (P:=TT) (Tot.both (Tot.ret trivial) (Tot.ret trivial)) fun c _=>Tot.both (Tot.ret trivial) ?_
  refine Tot.both ?_ (Tot.both ?_ (Tot.both ?_ (Tot.both ?_ ?_)))
  · refine Tot.bind (P:=TT) (Tot.both (Tot.ret trivial) (Tot.ret trivial)) fun c _=>?_
    exact q (Tot.both (Tot.ret trivial) (Tot.ret trivial))
  · exact q (Tot.both (q (name_tot N hN _)) (Tot.ret trivial))
  · exact q (Tot.both (q (name_tot N hN _)) (Tot.ret trivial))
  · exact q (Tot.both (Tot.bind (motion_tot N (by omega) _) fun _ _=>Tot.ret trivial) (Tot.ret trivial))
  · exact q (Tot.both (Tot.ret trivial) (Tot.ret trivial))
def chainR (R:Nat→Nat→Prop):Nat→Nat→Nat→Prop
  | 0,a,e=>a=e
  | k+1,a,e=>∃ m,R a m∧chainR R k m e
theorem chain_snoc {R:Nat→Nat→Prop}:∀ (k:Nat) {a m e:Nat},chainR R k a m→R m e→chainR R (k+1) a e
  | 0,a,m,e,h,h2=>by
    have:a=m:=h
    subst this
    exact ⟨e,h2,rfl⟩
  | k+1,a,m,e,⟨x,h1,h3⟩,h2=>⟨x,h1,chain_snoc k h3 h2⟩
def nodeOk (n:NodeT):Prop:=0≤n.2.2.2.1∧n.2.2.2.1≤200∧(n.1=3→n.2.2.2.1=2 ∨ n.2.2.2.1=3)∧(n.1=4→n.2.2.2.1=2)
def TreeR (l:List NodeT):Nat→Nat→Nat→Prop
  | 0,_,_=>False
  | d+1,at',e=>∃ n,l[at']?=some n∧nodeOk n∧chainR (TreeR l d) n.2.2.2.1.toNat (at'+1) e
theorem chain_le {R:Nat→Nat→Prop} (h:∀ a e,R a e→a < e):∀ (k a e:Nat),chainR R k a e→a+k≤e
  | 0,a,e,h1=>by have:a=e:=h1;omega
  | k+1,a,e,⟨m,h1,h2⟩=>by have:=h a m h1;have:=chain_le h k m e h2;omega
theorem tree_lt {l:List NodeT}:∀ (d a e:Nat),TreeR l d a e→a < e
  | 0,_,_,h=>h.elim
  | d+1,a,e,⟨n,_,_,h⟩=>by have:=chain_le (tree_lt (l:=l) d) _ _ _ h;omega
theorem kids_tot (N:Nat) (n:NodeT):∃ s,zD8 N n=some s∧s.size≤200∧(n.1=3→((n.2.2.2.1=3∧s.size=3) ∨ s.size=2))∧(n.1=4→s.size=2):=by
  unfold zD8
  by_cases h3:n.1=3
  · rw [h3]
    by_cases hk:n.2.2.2.1=3
    · rw [hk];exact ⟨(ByteArray.mk #[101,98,98]),rfl,by decide,fun _=>.inl ⟨rfl,by decide⟩,fun h=>by omega⟩
    · have:pEq n.2.2.2.1 3=false:=pEq_f hk
      rw [this];exact ⟨(ByteArray.mk #[101,98]),rfl,by decide,fun _=>.inr (by decide),fun h=>by omega⟩
  by_cases h4:n.1=4
  · rw [h4];exact ⟨(ByteArray.mk #[101,98]),rfl,by decide,fun h=>by omega,fun _=>by decide⟩
  rw [pEq_f h3,pEq_f h4,ifB_f,ifB_f]
  have q:Tot (fun s:ByteArray=>s.size≤200) (
    ifB (pEq n.1 1) (
    some (ByteArray.mk #[42])) (
    ifB (pEq n.1 2) (
      some (ByteArray.mk #[101])) (
      ifB (pEq n.1 5) (
        some (ByteArray.mk #[101])) (
        ifB (pEq n.1 7) (
          some (ByteArray.mk #[101])) (
          ifB (pEq n.1 8) (
            some (ByteArray.mk #[101])) (
            ifB (pEq n.1 16) (
              some (ByteArray.mk #[101])) (
              ifB (pEq n.1 17) (
                some (ByteArray.mk #[101])) (
                    ifB (pEq n.1 6) (
                      some (ByteArray.mk #[101,101])) (
                      ifB (pEq n.1 9) (
                        some (ByteArray.mk #[])) (
                        ifB (pEq n.1 10) (
                          some (ByteArray.mk #[])) (
                          ifB (pEq n.1 11) (
                            some (ByteArray.mk #[])) (
                            ifB (pEq n.1 12) (
                              some (ByteArray.mk #[])) (
                              ifB (pEq n.1 13) (
                                some (ByteArray.mk #[])) (
                                ifB (pEq n.1 14) (
                                  some (ByteArray.mk #[])) (
                                  ifB (pEq n.1 15) (
                                    some (ByteArray.mk #[])) (
                                    some (ByteArray.mk #[101,101]))))))))))))))))):=by
    repeat (refine Tot.both (Tot.ret (by decide)) ?_)
    exact Tot.ret (by decide)
  obtain ⟨s,q1,q2⟩:=q
  exact ⟨s,q1,q2,fun h=>absurd h h3,fun h=>absurd h h4⟩
end Go.AE.F
namespace Go.AE.F
open Go.AE
theorem end_tot (l:List NodeT) (hl:l.length≤1000):∀ (d F a:Nat) (kind:Int),300+d < F→d≤20→Tot (fun v=>v < 0 ∨ ∃ e:Nat,v=(e:Int)∧TreeR l d a e) (zAT F l (a:Int) kind (21 - (d:Int))):=by
  intro d
  induction d with
  | zero =>
    intro F a kind hF hd
    obtain ⟨F,rfl⟩:=succ_of hF
    show Tot _ (zAT.st F (zAT F) l (a:Int) kind (21 - ((0:Nat):Int)))
    unfold zAT.st
    have e:∀ c:Bool,(ifB c (some true) (some (pGt (21 - ((0:Nat):Int)) 20)))=some true:=fun c=>by cases c <;> rfl
    rw [e,bindO_s,ifB_t,bindO_s,ifB_t]
    exact Tot.ret (.inl (by omega))
  | succ d ih =>
    intro F a kind hF hd
    obtain ⟨F,rfl⟩:=succ_of hF
    show Tot _ (zAT.st F (zAT F) l (a:Int) kind (21 - ((d+1:Nat):Int)))
    unfold zAT.st
    rw [pLen_d]
    refine Tot.bind (P:=fun c=>c=false→a < l.length) (Tot.ite (fun _=>Tot.ret fun h=>by cases h) (fun h=>Tot.ret fun _=>?_)) fun c hc=>?_
    · rw [pGe_d] at h
      have:=of_decide_eq_false h
      omega
    have neg:Tot (fun v:Int=>v < 0 ∨ ∃ e:Nat,v=(e:Int)∧TreeR l (d+1) a e) (some (-1)):=Tot.ret (.inl (by omega))
    refine Tot.bind (P:=fun c'=>c'=false→a < l.length) ?_ fun c' hc'=>?_
    · refine Tot.ite (fun _=>Tot.ret fun h=>by cases h) (fun h=>?_)
      have hlt:=hc h
      rw [idx_lt hlt,bindO_s]
      exact Tot.bind (own_tot F (by omega) _) fun y _=>Tot.ret fun _=>hlt
    refine Tot.ite (fun _=>neg) (fun h=>?_)
    have hlt:=hc' h
    have hget:l[a]?=some l[a]:=List.getElem?_eq_getElem hlt
    rw [idx_lt hlt,bindO_s]
    generalize l[a]=n at hget
    refine Tot.bind (P:=TT) (Tot.both (Tot.ret trivial) (Tot.ret trivial)) fun c1 _=>?_
    have st:∀ x,Tot TT (zD6 F x):=fun x=>by
      unfold zD6
      exact Tot.bind (P:=TT) (Tot.both (Tot.ret trivial) (Tot.ret trivial)) fun _ _=>Tot.ret trivial
    have ex:∀ x,Tot TT (zD7 F x):=fun x=>by
      unfold zD7
      exact Tot.bind (P:=TT) (Tot.both (Tot.ret trivial) (Tot.ret trivial)) fun _ _=>Tot.ret trivial
    refine Tot.bind (P:=TT) (Tot.both (Tot.ret trivial) (Tot.bind (P:=TT) (Tot.both (Tot.bind (st _) fun _ _=>Tot.ret trivial) (Tot.ret trivial)) fun _ _=>Tot.ret trivial)) fun c2 _=>?_
    refine Tot.bind (P:=TT) (Tot.both (Tot.ret trivial) (Tot.bind (P:=TT) (Tot.both (Tot.bind (ex _) fun _ _=>Tot.ret trivial) (Tot.ret trivial)) fun _ _=>Tot.ret trivial)) fun c3 _=>?_
    refine Tot.both neg ?_
    obtain ⟨s,q1,q0,q3,q4⟩:=kids_tot F n
    rw [q1,bindO_s]
    have hstar:(ByteArray.mk #[42]).size=1:=rfl
    refine Tot.bind (P:=fun c=>c=false→pSEq s (ByteArray.mk #[42])=true ∨ n.2.2.2.1=(s.size:Int)) ?_ fun c4 h4=>?_
    · refine Tot.ite (fun _=>Tot.ret fun h=>?_) (fun h=>Tot.ret fun _=>.inl ?_)
      · rw [pNe_d] at h
        right
        have h2:decide (n.2.2.2.1=pSize s)=true:=by simpa using h
        exact of_decide_eq_true h2
      · rw [pNot_d] at h
        simpa using h
    refine Tot.bind (P:=fun c=>c=false→c4=false∧0≤n.2.2.2.1) ?_ fun c5 h5=>?_
    · refine Tot.ite (fun _=>Tot.ret fun h=>by cases h) (fun h=>Tot.ret fun h2=>⟨h,?_⟩)
      rw [pLt_d] at h2
      have:=of_decide_eq_false h2
      omega
    refine Tot.bind (P:=fun c=>c=false→c5=false∧n.2.2.2.1≤200) ?_ fun c6 h6=>?_
    · refine Tot.ite (fun _=>Tot.ret fun h=>by cases h) (fun h=>Tot.ret fun h2=>⟨h,?_⟩)
      rw [pGt_d] at h2
      have:=of_decide_eq_false h2
      omega
    refine Tot.ite (fun _=>neg) (fun h=>?_)
    obtain ⟨g1,g2⟩:=h6 h
    obtain ⟨g3,g4⟩:=h5 g1
    have g5:=h4 g3
    have hnok:nodeOk n:=by
      refine ⟨g4,g2,fun h=>?_,fun h=>?_⟩
      · rcases g5 with g5 | g5
        · exfalso
          have:=q3 h
          rw [seq_size (by rw [hstar];omega)] at g5;cases g5
        · have:=q3 h;omega
      · rcases g5 with g5 | g5
        · exfalso
          have:=q4 h
          rw [seq_size (by rw [hstar];omega)] at g5;cases g5
        · have:=q4 h;omega
    obtain ⟨K,hK⟩:∃ K:Nat,n.2.2.2.1=(K:Int):=⟨n.2.2.2.1.toNat,by omega⟩
    rw [pAdd_i (by omega) (by omega)]
    refine loop_tot (fun m d'=>∃ i e:Nat,d'.1=l∧d'.2.1=21 - ((d+1:Nat):Int)∧d'.2.2.1=s∧d'.2.2.2.1=(e:Int)∧d'.2.2.2.2.1=(i:Int)∧d'.2.2.2.2.2.1=n∧i≤K∧K≤m+i∧chainR (TreeR l d) i (a+1) e)
      (fun e=>match e with | .inl x=>∃ e:Nat,x.1=(e:Int)∧chainR (TreeR l d) K (a+1) e | .inr x=>x.1 < 0) ?_ ?_ F K _ (by omega) ⟨0,a+1,rfl,rfl,rfl,by show (a:Int)+1=_;omega,rfl,rfl,by omega,by omega,rfl⟩
    · intro e he
      rcases e with ⟨x,u⟩ | ⟨x,u⟩
      · obtain ⟨e,h1,h2⟩:=he
        exact Tot.ret (.inr ⟨e,h1,n,hget,hnok,by rw [hK,Int.toNat_natCast];exact h2⟩)
      · exact Tot.ret (.inl he)
    · intro m d' kn kx ⟨i,e,h1,h2,h3,h4,h5,h6,h7,h8,h9⟩ hn hx
      unfold zAT.l11
      simp only [h1,h2,h3,h4,h5,h6,hK]
      refine Tot.ite (fun h=>?_) (fun h=>hx _ ?_)
      · have hlt:(i:Int) < (K:Int):=by rw [pLt_d] at h;exact of_decide_eq_true h
        have hdd:pAdd .i64 (21 - ((d+1:Nat):Int)) 1=21 - (d:Int):=by rw [pAdd_i (by omega) (by omega)];omega
        rw [hdd]
        have next:∀ v:Int,(v < 0 ∨ ∃ e':Nat,v=(e':Int)∧TreeR l d e e')→Tot (fun r:((List NodeT)×Int×ByteArray×Int×Int×NodeT×Unit) ⊕ (Int×Unit)=>(∃ e':Nat,r=.inl (l,21 - ((d+1:Nat):Int),s,(e':Int),(i:Int),n,())∧TreeR l d e e') ∨ r=.inr (-1,())) (ifB (pLt v 0) (some (.inr ((-1),()))) (some (.inl (l,21 - ((d+1:Nat):Int),s,v,(i:Int),n,())))):=fun v hv=>by
          refine Tot.ite (fun _=>Tot.ret (.inr rfl)) (fun h=>Tot.ret (.inl ?_))
          rw [pLt_d] at h
          have:=of_decide_eq_false h
          rcases hv with hv | ⟨e',w1,w2⟩
          · exact absurd hv this
          · subst w1;exact ⟨e',rfl,w2⟩
        refine Tot.bind (P:=fun r:((List NodeT)×Int×ByteArray×Int×Int×NodeT×Unit) ⊕ (Int×Unit)=>(∃ e':Nat,r=.inl (l,21 - ((d+1:Nat):Int),s,(e':Int),(i:Int),n,())∧TreeR l d e e') ∨ r=.inr (-1,())) ?_ ?_
        · refine Tot.ite (fun h=>?_) (fun h=>?_)
          · have hns:pSEq s (ByteArray.mk #[42])=false:=by rw [pNot_d] at h;simpa using h
            have hsz:(K:Int)=(s.size:Int):=by
              rcases g5 with g5 | g5
              · rw [hns] at g5;cases g5
              · rw [← hK];exact g5
            refine Tot.bind (byte_at s i (by omega)) fun b _=>?_
            exact Tot.bind (ih F e b (by omega) (by omega)) next
          · exact Tot.bind (ih F e 115 (by omega) (by omega)) next
        · intro r hr
          rcases hr with ⟨e',rfl,ht⟩ | rfl
          · refine hn (m - 1) _ (by omega) ⟨i+1,e',rfl,rfl,rfl,rfl,?_,rfl,by omega,by omega,chain_snoc i h9 ht⟩
            show pAdd .i64 (i:Int) 1=_
            rw [pAdd_i (by omega) (by omega)];rfl
          · exact hx _ (by show (-1:Int) < 0;omega)
      · rw [pLt_d] at h
        have:=of_decide_eq_false h
        have:i=K:=by omega
        subst this
        exact ⟨e,rfl,h9⟩
theorem vars_tot (N:Nat) (hN:2000 < N) (l:List NodeT) (hl:l.length≤1000):Tot (fun v:List ByteArray=>v.length≤l.length) (zAL N l):=by
  unfold zAL
  refine loop_tot (fun m d=>∃ i:Nat,d.1=l∧d.2.1=(i:Int)∧d.2.2.1.length≤i∧i≤l.length∧l.length≤m+i) (fun e=>e.1.length≤l.length) (fun e he=>Tot.ret he) ?_ N l.length _ (by omega) ⟨0,rfl,rfl,by simp,by omega,by omega⟩
  intro m d kn kx ⟨i,h1,h2,h3,h4,h5⟩ hn hx
  unfold zAL.l3
  simp only [h1,h2,pLen_d]
  refine Tot.ite (fun h=>?_) (fun _=>hx _ (by show d.2.2.1.length≤l.length;omega))
  have hlt:i < l.length:=by rw [pLt_d] at h;have:=of_decide_eq_true h;omega
  refine Tot.bind (P:=fun r:(List NodeT)×Int×List ByteArray×Unit=>r.1=l∧r.2.1=(i:Int)∧r.2.2.1.length≤i+1) ?_ fun r hr=>?_
  · rw [idx_lt hlt,bindO_s]
    refine Tot.bind (P:=TT) (Tot.both (Tot.ret trivial) (Tot.ret trivial)) fun c _=>?_
    refine Tot.both (Tot.ret ⟨rfl,rfl,by show d.2.2.1.length≤i+1;omega⟩) ?_
    refine loop_tot (fun m' d'=>∃ j:Nat,d'.1=l∧d'.2.1=(i:Int)∧d'.2.2.2.1=(j:Int)∧d'.2.2.2.2.1.length≤i∧d'.2.2.2.2.1.length≤m'+j) (fun e=>e.1=l∧e.2.1=(i:Int)∧e.2.2.2.1.length≤i) ?_ ?_ N i _ (by omega) ⟨0,rfl,rfl,rfl,h3,by omega⟩
    · intro e ⟨e1,e2,e3⟩
      simp only [e1,e2]
      refine Tot.both ?_ (Tot.ret ⟨rfl,rfl,by show e.2.2.2.1.length≤i+1;omega⟩)
      rw [idx_lt hlt,bindO_s]
      exact Tot.fit (by simp;omega) (Tot.ret ⟨rfl,rfl,by show (pApp e.2.2.2.1 _).length≤i+1;simp [pApp];omega⟩)
    · intro m' d' kn' kx' ⟨j,g1,g2,g3,g4,g5⟩ hn' hx'
      unfold zAL.l8
      simp only [g1,g2,g3,pLen_d]
      refine Tot.ite (fun h=>?_) (fun _=>hx' _ ⟨rfl,rfl,g4⟩)
      have hlt2:j < d'.2.2.2.2.1.length:=by rw [pLt_d] at h;have:=of_decide_eq_true h;omega
      refine Tot.bind (P:=fun r:(List NodeT)×Int×Bool×Int×List ByteArray×Unit=>r.1=l∧r.2.1=(i:Int)∧r.2.2.2.1=(j:Int)∧r.2.2.2.2.1=d'.2.2.2.2.1) ?_ fun r hr=>?_
      · refine Tot.both (Tot.ret ⟨rfl,rfl,rfl,rfl⟩) ?_
        rw [idx_lt hlt2,bindO_s,bindO_s,idx_lt hlt,bindO_s]
        exact Tot.ret ⟨rfl,rfl,rfl,rfl⟩
      · obtain ⟨r1,r2,r3,r4⟩:=hr
        exact hn' (m' - 1) _ (by omega) ⟨j+1,r1,r2,by show pAdd .i64 r.2.2.2.1 1=_;rw [r3,pAdd_i (by omega) (by omega)];rfl,by rw [r4];exact g4,by rw [r4];omega⟩
  · obtain ⟨r1,r2,r3⟩:=hr
    exact hn (m - 1) _ (by omega) ⟨i+1,r1,by show pAdd .i64 r.2.1 1=_;rw [r2,pAdd_i (by omega) (by omega)];rfl,r3,by omega,by omega⟩
theorem right_tot (N:Nat) (hN:2000 < N) (l:List NodeT) (hl:l.length≤1000):Tot (fun c=>c=true→l.length≤200∧∃ e,TreeR l 20 0 e∧e=l.length) (zCE N l):=by
  unfold zCE
  rw [pLen_d]
  refine Tot.bind (P:=fun c=>c=true→l.length≤200∧∃ e,TreeR l 20 0 e∧e=l.length) ?_ fun c hc=>?_
  · refine Tot.ite (fun h=>?_) (fun _=>Tot.ret fun h=>by cases h)
    have hle:l.length≤200:=by rw [pLe_d] at h;have:=of_decide_eq_true h;omega
    refine Tot.bind (end_tot l hl 20 N 0 98 (by omega) (by omega)) fun v hv=>Tot.ret fun h=>⟨hle,?_⟩
    rw [pEq_d] at h
    have h:=of_decide_eq_true h
    rcases hv with hv | ⟨e,h1,h2⟩
    · omega
    · exact ⟨e,h2,by omega⟩
  refine Tot.bind (P:=fun d=>d=true→c=true) (Tot.ite (fun h=>Tot.bind (vars_tot N hN l hl) fun _ _=>Tot.ret fun _=>h) (fun _=>Tot.ret fun h=>by cases h)) fun d hd=>Tot.ret fun h=>hc (hd h)
end Go.AE.F
