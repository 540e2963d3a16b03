/- Plain laws of those functions. -/
import Derived.Test.YtkknmokglbhheaaGreatLMachineP9
namespace Go.AE.F
open Go.AE
abbrev OutT:=BufT×List Int×Int×Unit
def mvG (p a b d:Int):Int:=if p≤a then p else if p < b then a else p+d
def failG (c:Int):OutT:=(([],(0,(0,()))),([],(c,())))
def replG (b:BufT) (i j:Int) (ps:List Int):OutT :=
  if i < 0 ∨ j < i ∨ (b.1.length:Int) < j then failG 8 else
  if 300 < (b.1.length:Int) - (j - i)+ps.length then failG 5 else
  ((sub b.1 0 i ++ ps ++ sub b.1 j b.1.length,((if i=j∧b.2.1=i then i+ps.length else mvG b.2.1 i j (ps.length - (j - i))),(mvG b.2.2.1 i j (ps.length - (j - i)),()))),(sub b.1 i j,(0,())))
theorem spec_moved_eq (N:Nat) (p a b d:Int) (h1:-4611686018427387904≤p+d) (h2:p+d≤4611686018427387904):zCV N p a b d=some (mvG p a b d):=by
  unfold zCV mvG
  by_cases e1:p≤a
  · rw [pLe_t e1,ifB_t,if_pos e1]
  · rw [pLe_f (by omega),ifB_f,if_neg e1]
    by_cases e2:p < b
    · rw [pLt_t e2,ifB_t,if_pos e2]
    · rw [pLt_f (by omega),ifB_f,if_neg e2,pAdd_i (by omega) (by omega)]
theorem impl_moved_eq (N:Nat) (p a b d:Int) (h1:-4611686018427387904≤p+d) (h2:p+d≤4611686018427387904):zCB N p a b d=some (mvG p a b d):=by
  unfold zCB mvG
  by_cases e1:p≤a
  · rw [pLe_t e1,ifB_t,if_pos e1]
  · rw [pLe_f (by omega),ifB_f,if_neg e1]
    by_cases e2:p < b
    · rw [pLt_t e2,ifB_t,if_pos e2]
    · rw [pLt_f (by omega),ifB_f,if_neg e2,pAdd_i (by omega) (by omega)]
theorem sub_len {A:Type} (x:List A) (i j:Int) (h0:0≤i) (h1:i≤j) (h2:j≤x.length):((sub x i j).length:Int)=j - i:=by
  unfold sub
  simp only [List.length_drop,List.length_take]
  omega
theorem grow_eq (N:Nat) (n:Int) (h0:0≤n) (h1:n≤68719476736):zB8 N [] n=some []:=by
  unfold zB8
  simp only [pLen_d,List.length_nil]
  rw [pLt_f (by omega),ifB_f]
  have e:pSub .i64 n (pSub .i64 0 ((0:Nat):Int))=n:=by
    rw [pSub_i (a:=0) (by omega) (by omega),pSub_i (by omega) (by omega)];omega
  rw [e]
  by_cases h:n > 0
  · rw [pGt_t h,ifB_t,pEq_t rfl,ifB_t,ifB_t,pLe_t h0,ifB_t,pLe_t h1,ifB_t,pLe_t (Int.le_refl _),ifB_t,pLe_t (by omega),ifB_t,pLe_t (by omega),ifB_t]
    rfl
  · rw [pGt_f (by omega),ifB_f]
theorem concat3_eq (N:Nat) (x y z:List Int) (h:x.length+y.length+z.length≤100000) (hN:4≤N):zA2 N [x,y,z]=some (x ++ y ++ z):=by
  obtain ⟨M,rfl⟩:∃ M,N=M+4:=⟨N - 4,by omega⟩
  unfold zA2
  have i0:idx [x,y,z] 0=some x:=rfl
  have i1:idx [x,y,z] (0+1)=some y:=rfl
  have i2:idx [x,y,z] (0+1+1)=some z:=rfl
  have l3:pLen [x,y,z]=3:=rfl
  simp only [loopP_s,zA2.l3,zA2.l11,l3]
  have a1:pAdd .i64 0 (1:Int)=0+1:=rfl
  have a2:pAdd .i64 (0+1) (1:Int)=0+1+1:=rfl
  have a3:pAdd .i64 (0+1+1) (1:Int)=3:=rfl
  have b1:pLt 0 3=true:=rfl
  have b2:pLt (0+1) 3=true:=rfl
  have b3:pLt (0+1+1) 3=true:=rfl
  have b4:pLt 3 3=false:=rfl
  have s1:pAdd .i64 0 (pLen x)=x.length:=by rw [pLen_d,pAdd_i (by omega) (by omega)];omega
  have s2:pAdd .i64 (x.length:Int) (pLen y)=x.length+y.length:=by rw [pLen_d,pAdd_i (by omega) (by omega)]
  have s3:pAdd .i64 ((x.length:Int)+y.length) (pLen z)=x.length+y.length+z.length:=by rw [pLen_d,pAdd_i (by omega) (by omega)]
  have p1:pLt (x.length:Int) 0=false:=pLt_f (by omega)
  have p2:pLt ((x.length:Int)+y.length) 0=false:=pLt_f (by omega)
  have p3:pLt ((x.length:Int)+y.length+z.length) 0=false:=pLt_f (by omega)
  have g:zB8 (M+4) [] ((x.length:Int)+y.length+z.length)=some []:=grow_eq _ _ (by omega) (by omega)
  have f1:pFit ([]:List Int) x=true:=pFit_t (by simp;omega)
  have f2:pFit (pApp [] x) y=true:=pFit_t (by simp [pApp];omega)
  have f3:pFit (pApp (pApp [] x) y) z=true:=pFit_t (by simp [pApp];omega)
  simp only [b1,ifB_t,i0,bindO_s,s1,p1,ifB_f,a1,b2,i1,s2,p2,a2,b3,i2,s3,p3,a3,b4,g,f1,f2,f3]
  rfl
theorem impl_replace_eq (N:Nat) (b:BufT) (i j:Int) (ps:List Int) (hb:bufG b=true) (hp:ps.length≤4000) (hi:-4611686018427387904≤i∧i≤4611686018427387904) (hj:-4611686018427387904≤j∧j≤4611686018427387904) (hN:4≤N) :
    zCW N b i j ps=some (replG b i j ps):=by
  obtain ⟨h1,h2,h3,h4,h5⟩:=bufG_iff.1 hb
  have hl:=ptsG_len h1
  unfold zCW replG
  rw [impl_size_eq N b.1 (by omega),impl_size_eq N ps (by omega)]
  simp only [bindO_s]
  by_cases e1:i < 0
  · rw [pLt_t e1,ifB_t,if_pos (Or.inl e1)];rfl
  rw [pLt_f (by omega),ifB_f]
  by_cases e2:j < i
  · rw [pGt_t e2,ifB_t,if_pos (Or.inr (Or.inl e2))];rfl
  rw [pGt_f (by omega),ifB_f]
  by_cases e3:(b.1.length:Int) < j
  · rw [pGt_t e3,ifB_t,if_pos (Or.inr (Or.inr e3))];rfl
  rw [pGt_f (by omega),ifB_f,if_neg (by omega)]
  have d1:pSub .i64 j i=j - i:=pSub_i (by omega) (by omega)
  have d2:pSub .i64 (ps.length:Int) (j - i)=ps.length - (j - i):=pSub_i (by omega) (by omega)
  have d3:pAdd .i64 (b.1.length:Int) (ps.length - (j - i))=b.1.length+(ps.length - (j - i)):=pAdd_i (by omega) (by omega)
  rw [d1,d2,d3]
  by_cases e4:300 < (b.1.length:Int) - (j - i)+ps.length
  · rw [pGt_t (by omega),ifB_t,if_pos e4];rfl
  rw [pGt_f (by omega),ifB_f,if_neg e4]
  simp only [pLen_d]
  have l1:=sub_len b.1 0 i (by omega) (by omega) (by omega)
  have l2:=sub_len b.1 j b.1.length (by omega) (by omega) (by omega)
  have l3:=sub_len b.1 i j (by omega) (by omega) (by omega)
  have q1:pLe 0 0=true:=rfl
  have q2:pLe 0 i=true:=pLe_t (by omega)
  have q3:pLe i (b.1.length:Int)=true:=pLe_t (by omega)
  have q4:pLe 0 j=true:=pLe_t (by omega)
  have q5:pLe j (b.1.length:Int)=true:=pLe_t (by omega)
  have q6:pLe (b.1.length:Int) (b.1.length:Int)=true:=pLe_t (Int.le_refl _)
  have q7:pLe i j=true:=pLe_t (by omega)
  have c:=concat3_eq N (sub b.1 0 i) ps (sub b.1 j b.1.length) (by omega) hN
  have k:=clone_eq N (sub b.1 i j) (by omega)
  have m1:=impl_moved_eq N b.2.1 i j (ps.length - (j - i)) (by omega) (by omega)
  have m2:=impl_moved_eq N b.2.2.1 i j (ps.length - (j - i)) (by omega) (by omega)
  have a1:pAdd .i64 i (ps.length:Int)=i+ps.length:=pAdd_i (by omega) (by omega)
  simp only [q1,q2,q3,q4,q5,q6,q7,ifB_t,c,k,m1,m2,bindO_s,a1]
  by_cases e5:i=j
  · by_cases e6:b.2.1=i
    · rw [pEq_t e5,ifB_t,bindO_s,pEq_t e6,ifB_t,if_pos ⟨e5,e6⟩]
    · rw [pEq_t e5,ifB_t,bindO_s,pEq_f e6,ifB_f,if_neg (fun h=>e6 h.2)]
  · rw [pEq_f e5,ifB_f,bindO_s,ifB_f,if_neg (fun h=>e5 h.1)]
theorem spec_Replace_eq (N:Nat) (b:BufT) (i j:Int) (ps:List Int) (hb:bufG b=true) (hp:ptsG ps=true) (hi:-4611686018427387904≤i∧i≤4611686018427387904) (hj:-4611686018427387904≤j∧j≤4611686018427387904) (hN:301 < N) :
    zBW N b i j ps=some (replG b i j ps):=by
  obtain ⟨h1,h2,h3,h4,h5⟩:=bufG_iff.1 hb
  have hl:=ptsG_len h1
  have hpl:=ptsG_len hp
  unfold zBW replG
  rw [spec_BufRight_eq N b hN,spec_PointsRight_eq N ps hN,hb,hp]
  have n1:pNot true=false:=rfl
  have g1:pGt (ps.length:Int) 400=false:=pGt_f (by omega)
  simp only [pLen_d,bindO_s,n1,ifB_f,g1]
  by_cases e1:i < 0
  · rw [pLt_t e1,ifB_t,bindO_s,ifB_t,bindO_s,ifB_t,if_pos (Or.inl e1)];rfl
  rw [pLt_f (by omega),ifB_f,bindO_s]
  by_cases e2:j < i
  · rw [pGt_t e2,ifB_t,bindO_s,ifB_t,if_pos (Or.inr (Or.inl e2))];rfl
  rw [pGt_f (by omega),ifB_f,bindO_s]
  by_cases e3:(b.1.length:Int) < j
  · rw [pGt_t e3,ifB_t,if_pos (Or.inr (Or.inr e3))];rfl
  rw [pGt_f (a:=j) (by omega),ifB_f,if_neg (by omega)]
  have d1:pSub .i64 j i=j - i:=pSub_i (by omega) (by omega)
  have d2:pSub .i64 (ps.length:Int) (j - i)=ps.length - (j - i):=pSub_i (by omega) (by omega)
  have d3:pSub .i64 (b.1.length:Int) (j - i)=b.1.length - (j - i):=pSub_i (by omega) (by omega)
  have d4:pAdd .i64 ((b.1.length:Int) - (j - i)) ps.length=b.1.length - (j - i)+ps.length:=pAdd_i (by omega) (by omega)
  rw [d1,d2,d3,d4]
  by_cases e4:300 < (b.1.length:Int) - (j - i)+ps.length
  · rw [pGt_t (by omega),ifB_t,if_pos e4];rfl
  rw [pGt_f (by omega),ifB_f,if_neg e4]
  have l1:=sub_len b.1 0 i (by omega) (by omega) (by omega)
  have l2:=sub_len b.1 j b.1.length (by omega) (by omega) (by omega)
  have l3:=sub_len b.1 i j (by omega) (by omega) (by omega)
  have q1:pLe 0 0=true:=rfl
  have q2:pLe 0 i=true:=pLe_t (by omega)
  have q3:pLe i (b.1.length:Int)=true:=pLe_t (by omega)
  have q4:pLe 0 j=true:=pLe_t (by omega)
  have q5:pLe j (b.1.length:Int)=true:=pLe_t (by omega)
  have q6:pLe (b.1.length:Int) (b.1.length:Int)=true:=pLe_t (Int.le_refl _)
  have q7:pLe i j=true:=pLe_t (by omega)
  have c:=copy_eq N (sub b.1 0 i) (by omega)
  have k:=copy_eq N (sub b.1 i j) (by omega)
  have m1:=spec_moved_eq N b.2.1 i j (ps.length - (j - i)) (by omega) (by omega)
  have m2:=spec_moved_eq N b.2.2.1 i j (ps.length - (j - i)) (by omega) (by omega)
  have a1:pAdd .i64 i (ps.length:Int)=i+ps.length:=pAdd_i (by omega) (by omega)
  have f1:pFit (sub b.1 0 i) ps=true:=pFit_t (by omega)
  have f2:pFit (pApp (sub b.1 0 i) ps) (sub b.1 j b.1.length)=true:=pFit_t (by simp only [pApp,List.length_append];omega)
  simp only [q1,q2,q3,q4,q5,q6,q7,ifB_t,c,k,m1,m2,bindO_s,a1,f1,f2]
  by_cases e5:i=j
  · by_cases e6:b.2.1=i
    · rw [pEq_t e5,ifB_t,bindO_s,pEq_t e6,ifB_t,if_pos ⟨e5,e6⟩];rfl
    · rw [pEq_t e5,ifB_t,bindO_s,pEq_f e6,ifB_f,if_neg (fun h=>e6 h.2)];rfl
  · rw [pEq_f e5,ifB_f,bindO_s,ifB_f,if_neg (fun h=>e5 h.1)];rfl
theorem ptsG_sub {x y:List Int} (h:ptsG x=true) (hs:y.Sublist x):ptsG y=true:=by
  unfold ptsG at h ⊢
  simp only [Bool.and_eq_true,decide_eq_true_eq,List.all_eq_true] at h ⊢
  exact ⟨Nat.le_trans hs.length_le h.1,fun a ha=>h.2 a (hs.subset ha)⟩
theorem sub_sublist {A:Type} (x:List A) (i j:Int):(sub x i j).Sublist x:=by
  unfold sub
  exact (List.drop_sublist _ _).trans (List.take_sublist _ _)
end Go.AE.F
namespace Go.AE.F
open Go.AE
def insG (b:BufT) (ps:List Int):OutT :=
  if 400 < ps.length then failG 2 else if (bufG b && ptsG ps)=false then failG 1 else replG b b.2.1 b.2.1 ps
theorem spec_Insert_eq (N:Nat) (b:BufT) (ps:List Int) (hN:301 < N):zCM N b ps=some (insG b ps):=by
  unfold zCM insG
  by_cases h:400 < ps.length
  · unfold zBW
    rw [if_pos h,pLen_d,pGt_t (by omega),ifB_t];rfl
  · rw [if_neg h]
    cases h1:bufG b with
    | false =>
      unfold zBW
      rw [pLen_d,pGt_f (by omega),ifB_f,spec_BufRight_eq N b hN,bindO_s,h1];rfl
    | true =>
      cases h2:ptsG ps with
      | false =>
        unfold zBW
        rw [pLen_d,pGt_f (by omega),ifB_f,spec_BufRight_eq N b hN,bindO_s,h1,spec_PointsRight_eq N ps hN,h2];rfl
      | true =>
        obtain ⟨h3,h4,h5,h6,h7⟩:=bufG_iff.1 h1
        have:=ptsG_len h3
        rw [spec_Replace_eq N b _ _ ps h1 h2 (by omega) (by omega) hN,bindO_s];rfl
theorem ptsG_app {x y:List Int} (hx:ptsG x=true) (hy:ptsG y=true) (hl:x.length+y.length≤300):ptsG (x ++ y)=true:=by
  unfold ptsG at hx hy ⊢
  simp only [Bool.and_eq_true,decide_eq_true_eq,List.all_eq_true,List.mem_append,List.length_append] at hx hy ⊢
  exact ⟨hl,fun a ha=>ha.elim (hx.2 a) (hy.2 a)⟩
theorem lwBuf_self (N:Nat) (b:BufT) (h:b.1.length≤1000) (hN:2000 < N):zDF N b b=some true:=by
  unfold zDF
  rw [lwSame_self N b.1 h hN,bindO_s,ifB_t,pEq_t rfl,bindO_s,ifB_t,pEq_t rfl,bindO_s]
end Go.AE.F
namespace Go.AE.F
open Go.AE
def GoodAt (ops:List OpT) (out:List Int) (k:Nat):Prop:=∀ (h:k < ops.length) (v:Int),out[k]?=some v→0≤v →
  0≤v - (takesG ops[k].1).1∧v - (takesG ops[k].1).1+(takesG ops[k].1).2≤24∧∀ j∈nextG ops[k] (k:Int),out[j.toNat]?=some (v - (takesG ops[k].1).1+(takesG ops[k].1).2)
def CInv (ops:List OpT) (s:List Int×List Int):Prop:=s.1[0]?=some 0∧∀ k,k < ops.length→(k:Int) ∉ s.2→GoodAt ops s.1 k
theorem pushG_grow {n:Nat} {d:Int} (hd:0≤d):∀ (ks:List Int) (s t:List Int×List Int),(∀ k∈ks,0≤k∧k≤(n:Int))→s.1.length=n+1→pushG d ks s=some t →
    (∀ (i:Nat) v,s.1[i]?=some v→0≤v→t.1[i]?=some v)∧(∀ k∈ks,t.1[k.toNat]?=some d)∧(∀ x∈s.2,x∈t.2)∧(∀ (i:Nat) v,t.1[i]?=some v→0≤v→s.1[i]?=some v ∨ (i:Int)∈t.2)
  | [],s,t,_,_,h=>by
    have:=Option.some.inj h
    subst this
    exact ⟨fun _ _ h _=>h,fun k hk=>(by cases hk),fun _ h=>h,fun _ _ h _=>.inl h⟩
  | k::ks,s,t,hk,hs,h=>by
    unfold pushG at h
    have hk0:=hk k (by simp)
    have hks:∀ k∈ks,0≤k∧k≤(n:Int):=fun k h=>hk k (by simp [h])
    have hlt:k.toNat < s.1.length:=by omega
    split at h
    · rename_i h1
      obtain ⟨g1,g2,g3,g4⟩:=pushG_grow hd ks _ t hks (by simp [hs]) h
      refine ⟨fun i v hi h0=>?_,fun j hj=>?_,fun x hx=>g3 x (List.mem_append_left _ hx),fun i v hi h0=>?_⟩
      · refine g1 i v ?_ h0
        have hne:k.toNat≠i:=by
          intro he
          rw [← he,h1] at hi
          have:=Option.some.inj hi
          omega
        show (s.1.set k.toNat d)[i]?=some v
        rw [List.getElem?_set_ne hne];exact hi
      · rcases List.mem_cons.1 hj with e | e
        · rw [e]
          exact g1 k.toNat d (by show (s.1.set k.toNat d)[k.toNat]?=some d;rw [List.getElem?_set_self hlt]) hd
        · exact g2 j e
      · rcases g4 i v hi h0 with e | e
        · by_cases hne:k.toNat=i
          · exact .inr (g3 _ (by show (i:Int)∈s.2 ++ [k];rw [List.mem_append];right;simp;omega))
          · have e:(s.1.set k.toNat d)[i]?=some v:=e
            rw [List.getElem?_set_ne hne] at e
            exact .inl e
        · exact .inr e
    · split at h
      · rename_i h2
        obtain ⟨g1,g2,g3,g4⟩:=pushG_grow hd ks s t hks hs h
        refine ⟨g1,fun j hj=>?_,g3,g4⟩
        rcases List.mem_cons.1 hj with e | e
        · rw [e];exact g1 _ _ h2 hd
        · exact g2 j e
      · cases h
theorem walk_closed {N:Nat} (hN:10 < N) (ops:List OpT) (hl:ops.length≤1500) (hop:opsG ops=true):∀ (m n:Nat) (out td:List Int),meas (out,td)=m→m < n→m≤2000→DInv ops.length (out,td)→CInv ops (out,td) →
    ∀ o',loopP (zA7.l9 N) n (ops,(ops.length:Int),out,td,()) specEnd=some (o',true)→DInv ops.length (o',[])∧CInv ops (o',[]):=by
  intro m
  induction m with
  | zero =>
    intro n out td hm hn h2 hi hc o' h
    obtain ⟨n,rfl⟩:=succ_of hn
    have hl0:td.length=0:=by unfold meas at hm;simp only [] at hm;omega
    have htd:td=[]:=List.eq_nil_of_length_eq_zero hl0
    subst htd
    have hlen:out.length=ops.length+1:=hi.len
    rw [loopP_s] at h;unfold zA7.l9 at h;simp only [] at h
    rw [show pGt (pLen ([]:List Int)) 0=false from rfl,ifB_f] at h
    unfold specEnd at h
    simp only [onSum] at h
    rw [idx_lt (by omega:ops.length < out.length),bindO_s,bindO_s] at h
    have:=Option.some.inj h
    have e:out=o':=congrArg Prod.fst this
    subst e
    exact ⟨hi,hc⟩
  | succ m ih =>
    intro n out td hm hn h2 hi hc o' h
    obtain ⟨n,rfl⟩:=succ_of hn
    have hlen:out.length=ops.length+1:=hi.len
    rcases List.eq_nil_or_concat td with htd | ⟨td',k,htd⟩
    · subst htd
      rw [loopP_s] at h;unfold zA7.l9 at h;simp only [] at h
      rw [show pGt (pLen ([]:List Int)) 0=false from rfl,ifB_f] at h
      unfold specEnd at h
      simp only [onSum] at h
      rw [idx_lt (by omega:ops.length < out.length),bindO_s,bindO_s] at h
      have:=Option.some.inj h
      have e:out=o':=congrArg Prod.fst this
      subst e
      exact ⟨hi,hc⟩
    · rw [List.concat_eq_append] at htd
      subst htd
      obtain ⟨hi2,hm2⟩:=pop_inv hi
      obtain ⟨k0,k1,vk,hvk,hvk0⟩:=hi.pla k (by simp)
      obtain ⟨q,rfl⟩:∃ q:Nat,k=(q:Int):=⟨k.toNat,by omega⟩
      have htl:td'.length≤2000:=by unfold meas at hm;simp at hm;omega
      obtain ⟨s1,s2⟩:=spec_step hN ops hl hop out td' q n hi htl specEnd
      by_cases hq:q=ops.length
      · rw [s1 hq] at h
        refine ih n out td' (by omega) (by omega) (by omega) hi2 ⟨hc.1,fun j hj hjn=>hc.2 j hj ?_⟩ o' h
        rw [List.mem_append]
        rintro (e | e)
        · exact hjn e
        · have:(j:Int)=(q:Int):=by simpa using e
          omega
      · obtain ⟨o2,h3⟩:=s2 (by omega)
        rw [h3] at h
        have hql:q < ops.length:=by omega
        cases hst:stepG ops (out,td') q (ops[q]'hql) with
        | none =>
          rw [hst] at h
          have:=Option.some.inj h
          have:false=true:=congrArg Prod.snd this
          cases this
        | some t =>
          rw [hst] at h
          obtain ⟨i1,i2,_⟩:=step_inv hop hql hi2 hst
          have hv':out[q]?=some vk:=hvk
          unfold stepG at hst
          simp only [hv',Option.getD_some] at hst
          split at hst
          · cases hst
          · rename_i hf
            have hb:=takes_bd (ops[q]'hql).1
            obtain ⟨g1,g2,g3,g4⟩:=pushG_grow (n:=ops.length) (by omega) _ _ _ (fun j hj=>by have:=next_in hop hql rfl j hj;omega) hlen hst
            refine ih n t.1 t.2 (by have:meas (t.1,t.2)=meas t:=rfl;omega) (by omega) (by omega) i1 ⟨g1 0 0 hc.1 (by omega),fun j hj hjn=>?_⟩ o' h
            intro hjl v hv h0
            by_cases hjq:j=q
            · subst hjq
              have e:=g1 j vk hv' hvk0
              rw [e] at hv
              have:=Option.some.inj hv
              subst this
              exact ⟨by omega,by omega,g2⟩
            · rcases g4 j v hv h0 with e | e
              · have hjn2:(j:Int) ∉ td' ++ [(q:Int)]:=by
                  rw [List.mem_append]
                  rintro (e2 | e2)
                  · exact hjn (g3 _ e2)
                  · have:(j:Int)=(q:Int):=by simpa using e2
                    omega
                obtain ⟨a1,a2,a3⟩:=hc.2 j hj hjn2 hjl v e h0
                have hb2:=takes_bd (ops[j]'hjl).1
                exact ⟨a1,a2,fun x hx=>g1 _ _ (a3 x hx) (by omega)⟩
              · exact absurd e hjn
theorem right_closed (N:Nat) (hN:2000 < N) (l:List OpT) (h:zAV N l=some true):l.length≤1500∧opsG l=true∧∃ o:List Int,o.length=l.length+1∧(∀ v∈o,-1≤v∧v≤24)∧o[0]?=some 0∧∀ k,k < l.length→GoodAt l o k:=by
  obtain ⟨h1,h2⟩:=spec_right_ops N l hN
  by_cases hc:l.length≤1500∧opsG l=true
  · refine ⟨hc.1,hc.2,?_⟩
    obtain ⟨hl,hop⟩:=hc
    rw [h1 ⟨hl,hop⟩] at h
    obtain ⟨o,o',b,hs,_,_⟩:=depths_ok N hN l hl hop
    rw [hs,bindO_s] at h
    have hb:b=true:=Option.some.inj h
    subst hb
    obtain ⟨g1,_,g3⟩:=start_inv l.length
    have hrun:loopP (zA7.l9 N) N (l,(l.length:Int),(List.replicate (l.length+1) (-1:Int)).set 0 0,[0],()) specEnd=some (o',true):=by
      rw [← hs]
      unfold zA7
      have:=spec_fill (N:=N) (R:=List Int×Bool) l l.length hl (fun d =>
        let x153:=d.1;
        let x154:=d.2.1;
        let x155:=d.2.2.1;
        bindO (idx x155 0) fun y156 =>
        bindO (idx x155 0) fun y157 =>
        loopP (zA7.l9 N) N (x153,x154,(pSet x155 0 0),[0],()) specEnd) _ 0 N rfl (by omega) (by omega)
      refine Eq.trans ?_ this.symm
      simp only []
      have h0:idx (List.replicate (l.length+1) (-1:Int)) ((0:Nat):Int)=some (-1):=by rw [idx_lt (by simp)];simp
      rw [show ((0:Nat):Int)=0 from rfl] at h0
      rw [h0,bindO_s,bindO_s]
      rfl
    have hlt:0 < ((List.replicate (l.length+1) (-1:Int))).length:=by simp
    obtain ⟨r1,r2⟩:=walk_closed (N:=N) (by omega) l hl hop _ N _ _ rfl (by omega) (by omega) g1 ⟨by show ((List.replicate (l.length+1) (-1:Int)).set 0 0)[0]?=some 0;rw [List.getElem?_set_self hlt],fun k hk hkn hkl v hv h0=>by
      exfalso
      by_cases e:k=0
      · subst e;exact hkn (by simp)
      · have hv:((List.replicate (l.length+1) (-1:Int)).set 0 0)[k]?=some v:=hv
        rw [List.getElem?_set_ne (by omega)] at hv
        have:=List.mem_of_getElem? hv
        have:=(List.mem_replicate.1 this).2
        omega⟩ o' hrun
    exact ⟨o',r1.len,r1.rng,r2.1,fun k hk=>r2.2 k hk (by simp)⟩
  · rw [h2 hc] at h
    cases h
end Go.AE.F
