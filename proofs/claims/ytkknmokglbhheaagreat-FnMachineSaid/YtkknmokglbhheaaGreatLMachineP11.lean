/- Plain laws of those functions. -/
import Derived.Test.YtkknmokglbhheaaGreatLMachineP10
namespace Go.AE.F
open Go.AE
abbrev SceneT:=BufT×Int×Int×Int×Unit
abbrev NamesT:=Int×Int×Int×Int×Int×Int×Int×Int×Unit×Unit
abbrev MachT:=SceneT×List Int×NamesT×Int×Unit
def failS (sc:SceneT) (c:Int):SceneT:=(sc.1,(sc.2.1,(sc.2.2.1,(c,sc.2.2.2.2))))
def tookS (sc:SceneT) (o:OutT):SceneT:=if o.2.2.1≠0 then failS sc o.2.2.1 else (o.1,sc.2)
def moveB (b:BufT) (k:Int):BufT:=if 0≤motG b k 1 0 then (b.1,motG b k 1 0,b.2.2) else b
theorem moveB_right {b:BufT} {k:Int} (h:bufG b=true):bufG (moveB b k)=true:=by
  unfold moveB
  split
  · rename_i h0
    obtain ⟨h1,h2,h3,h4,h5⟩:=bufG_iff.1 h
    refine bufG_iff.2 ⟨h1,h0,?_,h4,h5⟩
    rcases motG_cases b k 1 0 with e | ⟨_,_,_,_,_,e⟩
    · omega
    · have:=iter_le (b:=b) (k:=k) (c:=0) (1:Int).toNat b.2.1.toNat (by omega)
      show motG b k 1 0≤(b.1.length:Int)
      rw [e];omega
  · exact h
theorem insG_right {b:BufT} {i j:Int} {p:List Int} (hb:bufG b=true) (hp:ptsG p=true) (h0:(replG b i j p).2.2.1=0):bufG (replG b i j p).1=true:=by
  obtain ⟨k1,k2,k3,k4,k5⟩:=bufG_iff.1 hb
  have hl:=ptsG_len k1
  have hpl:=ptsG_len hp
  unfold replG at h0 ⊢
  by_cases c1:i < 0 ∨ j < i ∨ (b.1.length:Int) < j
  · rw [if_pos c1] at h0;exact absurd h0 (by simp [failG])
  rw [if_neg c1] at h0 ⊢
  by_cases c2:300 < (b.1.length:Int) - (j - i)+p.length
  · rw [if_pos c2] at h0;exact absurd h0 (by simp [failG])
  rw [if_neg c2]
  have l1:=sub_len b.1 0 i (by omega) (by omega) (by omega)
  have l2:=sub_len b.1 j b.1.length (by omega) (by omega) (by omega)
  have hln:((sub b.1 0 i ++ p ++ sub b.1 j b.1.length).length:Int)=b.1.length - (j - i)+p.length:=by
    simp only [List.length_append];omega
  refine bufG_iff.2 ⟨?_,?_,?_,?_,?_⟩
  · refine ptsG_app (ptsG_app (ptsG_sub k1 (sub_sublist _ _ _)) hp ?_) (ptsG_sub k1 (sub_sublist _ _ _)) ?_
    · omega
    · simp only [List.length_append];omega
  · show 0≤(if i=j∧b.2.1=i then i+(p.length:Int) else mvG b.2.1 i j (p.length - (j - i)))
    unfold mvG;split
    · omega
    · split <;> (try split) <;> omega
  · show (if i=j∧b.2.1=i then i+(p.length:Int) else mvG b.2.1 i j (p.length - (j - i)))≤((sub b.1 0 i ++ p ++ sub b.1 j b.1.length).length:Int)
    rw [hln];unfold mvG;split
    · omega
    · split <;> (try split) <;> omega
  · show 0≤mvG b.2.2.1 i j (p.length - (j - i))
    unfold mvG;split <;> (try split) <;> omega
  · show mvG b.2.2.1 i j (p.length - (j - i))≤((sub b.1 0 i ++ p ++ sub b.1 j b.1.length).length:Int)
    rw [hln];unfold mvG;split <;> (try split) <;> omega
theorem took_eq (N:Nat) (sc:SceneT) (o:OutT):zC4 N sc o=some (tookS sc o):=by
  unfold zC4 tookS failS
  by_cases h:o.2.2.1=0
  · rw [pNe_f h,ifB_f,if_neg (by simp [h])]
  · rw [pNe_t h,ifB_t,if_pos h]
def tickG (sc:SceneT):SceneT:=if sc.2.1=0 then failS sc 6 else (sc.1,(sc.2.1 - 1,sc.2.2))
theorem tick_eq (N:Nat) (sc:SceneT) (h:0≤sc.2.1∧sc.2.1≤5000):∃ b,zC3 N sc=some (b,tickG sc):=by
  unfold zC3 tickG failS
  by_cases h0:sc.2.1=0
  · rw [pEq_t h0,ifB_t,if_pos h0];exact ⟨_,rfl⟩
  · rw [pEq_f h0,ifB_f,if_neg h0,pSub_i (by omega) (by omega)];exact ⟨_,rfl⟩
def insS (sc:SceneT) (a:Int):SceneT:=if ptG a=false then failS sc 8 else tookS sc (replG sc.1 sc.1.2.1 sc.1.2.1 [a])
theorem insert_eq (N:Nat) (sc:SceneT) (a:Int) (hb:bufG sc.1=true) (hN:400 < N):zBQ N sc a=some (insS sc a):=by
  obtain ⟨_,b2,b3,_,_⟩:=bufG_iff.1 hb
  have hl:=bufG_len2 hb
  unfold zBQ insS failS
  rw [impl_isPoint_eq,bindO_s,pNot_d]
  cases h:ptG a with
  | false=>rfl
  | true =>
    rw [Bool.not_true,ifB_f,if_neg (by simp),impl_replace_eq N sc.1 _ _ [a] hb (by simp) (by omega) (by omega) (by omega),bindO_s,took_eq,bindO_s]
where bufG_len2 {b:BufT} (h:bufG b=true):b.1.length≤300:=ptsG_len (bufG_iff.1 h).1
theorem delete_eq (N:Nat) (sc:SceneT) (a b:Int) (hb:bufG sc.1=true) (hN:400 < N) (ha:-1000000000≤a∧a≤1000000000) (hb2:-1000000000≤b∧b≤1000000000):zBR N sc a b=some (tookS sc (replG sc.1 a b [])):=by
  unfold zBR
  rw [impl_replace_eq N sc.1 a b [] hb (by simp) (by omega) (by omega) (by omega),bindO_s,took_eq,bindO_s]
theorem isPlace_eq (N:Nat) (b:BufT) (a:Int) (hb:bufG b=true):zBK N b a=some (decide (0≤a) && decide (a≤b.1.length)):=by
  have hl:=ptsG_len (bufG_iff.1 hb).1
  unfold zBK
  rw [impl_size_eq N b.1 (by omega),bindO_s,impl_within_eq,bindO_s]
def goS (sc:SceneT) (a:Int):SceneT:=if (decide (0≤a) && decide (a≤(sc.1.1.length:Int)))=false then failS sc 8 else ((sc.1.1,(a,sc.1.2.2)),sc.2)
def markS (sc:SceneT) (a:Int):SceneT:=if (decide (0≤a) && decide (a≤(sc.1.1.length:Int)))=false then failS sc 8 else ((sc.1.1,(sc.1.2.1,(a,sc.1.2.2.2))),sc.2)
theorem goTo_eq (N:Nat) (sc:SceneT) (a:Int) (hb:bufG sc.1=true):zC0 N sc a=some (goS sc a):=by
  unfold zC0 goS failS
  rw [isPlace_eq N _ a hb,bindO_s,pNot_d]
  cases (decide (0≤a) && decide (a≤(sc.1.1.length:Int))) <;> rfl
theorem markAt_eq (N:Nat) (sc:SceneT) (a:Int) (hb:bufG sc.1=true):zBP N sc a=some (markS sc a):=by
  unfold zBP markS failS
  rw [isPlace_eq N _ a hb,bindO_s,pNot_d]
  cases (decide (0≤a) && decide (a≤(sc.1.1.length:Int))) <;> rfl
def atS (sc:SceneT) (a:Int):Int×SceneT:=if 0≤a∧a < (sc.1.1.length:Int) then ((sc.1.1[a.toNat]?).getD 0,sc) else (0,failS sc 8)
theorem at_eq (N:Nat) (sc:SceneT) (a:Int) (hb:bufG sc.1=true):zCJ N sc a=some (atS sc a):=by
  have hl:=ptsG_len (bufG_iff.1 hb).1
  unfold zCJ atS failS
  rw [impl_size_eq N _ (by omega),bindO_s,pSub_i (by omega) (by omega),impl_within_eq,bindO_s,pNot_d]
  by_cases h:0≤a∧a < (sc.1.1.length:Int)
  · rw [if_pos h,decide_eq_true h.1,decide_eq_true (by omega),show (!(true && true))=false from rfl,ifB_f]
    have hlt:a.toNat < sc.1.1.length:=by omega
    have e:idx sc.1.1 a=some sc.1.1[a.toNat]:=by
      have:=idx_lt (xs:=sc.1.1) (i:=a.toNat) hlt
      rw [show ((a.toNat:Nat):Int)=a by omega] at this
      exact this
    rw [e,bindO_s,List.getElem?_eq_getElem hlt];rfl
  · rw [if_neg h]
    have:(decide (0≤a) && decide (a≤(sc.1.1.length:Int) - 1))=false:=by
      rw [Bool.and_eq_false_iff]
      by_cases h0:0≤a
      · right;exact decide_eq_false (by omega)
      · left;exact decide_eq_false h0
    rw [this];rfl
def okV (v:Int):Bool:=decide (-1000000000≤v) && decide (v≤1000000000)
def resS (sc:SceneT) (v:Int):Int×SceneT:=(v,if okV v=false then failS sc 8 else sc)
noncomputable def twoV (k a b:Int):Option Int :=
  if k=18 then some (if a≠0 ∨ b≠0 then 1 else 0) else
  if k=19 then some (if a≠0∧b≠0 then 1 else 0) else
  if k=20 then some (if a < b then 1 else 0) else
  if k=21 then some (if a=b then 1 else 0) else
  if k=22 then some (if b < a then 1 else 0) else
  if k=23 then some (pAdd .i64 a b) else
  if k=24 then some (pSub .i64 a b) else
  if k=25 then some (pMul .i64 a b) else
  if b=0 then none else some (pQuo .i64 a b)
noncomputable def twoS (sc:SceneT) (k a b:Int):Int×SceneT:=match twoV k a b with
  | some v=>resS sc v
  | none=>(0,failS sc 8)
theorem fin_two (N:Nat) (sc:SceneT) (v:Int):(bindO (zB5 N v (-1000000000) 1000000000) fun y=>ifB (pNot y) (some (v,(sc.1,(sc.2.1,(sc.2.2.1,(8,sc.2.2.2.2)))))) (some (v,sc)))=some (resS sc v):=by
  rw [impl_within_eq,bindO_s,pNot_d]
  unfold resS okV failS
  cases (decide (-1000000000≤v) && decide (v≤1000000000)) <;> rfl
theorem one_eq (N:Nat) (b:Bool):zDG N b=some (if b=true then 1 else 0):=by cases b <;> rfl
theorem two_eq (N:Nat) (sc:SceneT) (k a b:Int) (hk:18≤k∧k≤26):zCA N sc k a b=some (twoS sc k a b):=by
  unfold zCA
  rcases (by omega:k=18 ∨ k=19 ∨ k=20 ∨ k=21 ∨ k=22 ∨ k=23 ∨ k=24 ∨ k=25 ∨ k=26) with rfl | rfl | rfl | rfl | rfl | rfl | rfl | rfl | rfl
  · have e:twoS sc 18 a b=resS sc (if a≠0 ∨ b≠0 then 1 else 0):=rfl
    rw [e,show pEq 18 18=true from rfl,ifB_t,ifB_or,bindO_s,one_eq,bindO_s,fin_two]
    congr 2
    rw [pNe_d,pNe_d]
    by_cases h1:a=0 <;> by_cases h2:b=0 <;> simp [h1,h2]
  · have e:twoS sc 19 a b=resS sc (if a≠0∧b≠0 then 1 else 0):=rfl
    rw [e,show pEq 19 18=false from rfl,show pEq 19 19=true from rfl,ifB_f,ifB_t,ifB_and,bindO_s,one_eq,bindO_s,fin_two]
    congr 2
    rw [pNe_d,pNe_d]
    by_cases h1:a=0 <;> by_cases h2:b=0 <;> simp [h1,h2]
  · have e:twoS sc 20 a b=resS sc (if a < b then 1 else 0):=rfl
    rw [e,show pEq 20 18=false from rfl,show pEq 20 19=false from rfl,show pEq 20 20=true from rfl,ifB_f,ifB_f,ifB_t,one_eq,bindO_s,fin_two]
    congr 2
    rw [pLt_d];simp
  · have e:twoS sc 21 a b=resS sc (if a=b then 1 else 0):=rfl
    rw [e,show pEq 21 18=false from rfl,show pEq 21 19=false from rfl,show pEq 21 20=false from rfl,show pEq 21 21=true from rfl,ifB_f,ifB_f,ifB_f,ifB_t,one_eq,bindO_s,fin_two]
    congr 2
    rw [pEq_d];simp
  · have e:twoS sc 22 a b=resS sc (if b < a then 1 else 0):=rfl
    rw [e,show pEq 22 18=false from rfl,show pEq 22 19=false from rfl,show pEq 22 20=false from rfl,show pEq 22 21=false from rfl,show pEq 22 22=true from rfl,ifB_f,ifB_f,ifB_f,ifB_f,ifB_t,one_eq,bindO_s,fin_two]
    congr 2
    rw [pGt_d];simp
  · exact fin_two N sc (pAdd .i64 a b)
  · exact fin_two N sc (pSub .i64 a b)
  · exact fin_two N sc (pMul .i64 a b)
  · show ifB (pEq b 0) _ (ifB (pEq b 0) none _)=_
    by_cases h:b=0
    · have e:twoS sc 26 a b=(0,failS sc 8):=by unfold twoS twoV;simp [h]
      rw [e,pEq_t h,ifB_t];rfl
    · have e:twoS sc 26 a b=resS sc (pQuo .i64 a b):=by unfold twoS twoV;simp [h]
      rw [e,pEq_f h,ifB_f,ifB_f]
      exact fin_two N sc (pQuo .i64 a b)
def tupN (v:List Int):NamesT:=let g:=fun i:Nat=>(v[i]?).getD 0;(g 0,g 1,g 2,g 3,g 4,g 5,g 6,g 7,(),())
structure EvT where
  sc:SceneT
  v:List Int
  put:List Int
  at':Int
noncomputable def evG (o:OpT) (sc:SceneT) (v:List Int) (a b at1:Int):EvT :=
  if o.1=1 then ⟨tickG sc,v,[],at1⟩ else
  if o.1=2 then ⟨sc,v,[o.2.1],at1⟩ else
  if o.1=3 then ⟨sc,v,[(v[o.2.1.toNat]?).getD 0],at1⟩ else
  if o.1=4 then ⟨sc,v.set o.2.1.toNat a,[],at1⟩ else
  if o.1=5 then ⟨sc,v,[sc.1.2.1],at1⟩ else
  if o.1=6 then ⟨sc,v,[(sc.1.1.length:Int)],at1⟩ else
  if o.1=7 then ⟨sc,v,[sc.1.2.2.1],at1⟩ else
  if o.1=8 then ⟨(atS sc a).2,v,[(atS sc a).1],at1⟩ else
  if o.1=9 then ⟨sc,v,[if a=0 then 1 else 0],at1⟩ else
  if o.1=10 then ⟨(twoS sc o.2.1 a b).2,v,[(twoS sc o.2.1 a b).1],at1⟩ else
  if o.1=11 then ⟨sc,v,[],o.2.1⟩ else
  if o.1=12 then ⟨sc,v,[],if a=0 then o.2.1 else at1⟩ else
  if o.1=13 then ⟨insS sc a,v,[],at1⟩ else
  if o.1=14 then ⟨tookS sc (replG sc.1 a b []),v,[],at1⟩ else
  if o.1=15 then ⟨goS sc a,v,[],at1⟩ else
  if o.1=16 then ⟨markS sc a,v,[],at1⟩ else
  if o.1=17 then ⟨(sc.1,(sc.2.1,(sc.2.2.1+1,sc.2.2.2))),v,[],at1⟩ else
  ⟨(moveB sc.1 o.2.1,sc.2),v,[],at1⟩
theorem pop_eq (N:Nat) (sc:SceneT) (st:List Int) (x:Int) (nm:NamesT) (p:Int) (hl:st.length≤1000):zB6 N (sc,(st ++ [x],(nm,(p,()))))=some (x,(sc,(st,(nm,(p,()))))):=by
  unfold zB6
  have hx:pLen (st ++ [x])=(st.length:Int)+1:=by rw [pLen_d];simp
  have e1:pSub .i64 (pLen (st ++ [x])) 1=(st.length:Int):=by rw [hx,pSub_i (by omega) (by omega)];omega
  simp only [e1]
  rw [idx_last,bindO_s,bindO_s,pLe_t (by omega),ifB_t,pLe_t (by omega),ifB_t,pLe_t (by rw [hx];omega),ifB_t,sub_init]
theorem push_eq (N:Nat) (m:MachT) (x:Int) (hl:m.2.1.length≤1000):zAD N m x=some (m.1,(m.2.1 ++ [x],m.2.2)):=by
  unfold zAD
  rw [pFit_t (by simp;omega),ifB_t];rfl
theorem eight {v:List Int} (h:v.length=8):∃ a b c d e f g i,v=[a,b,c,d,e,f,g,i]:=by
  match v,h with
  | [a,b,c,d,e,f,g,i],_=>exact ⟨a,b,c,d,e,f,g,i,rfl⟩
theorem op_kind {o:OpT} {n:Int} (h:opG o n=true):1≤o.1∧o.1≤18:=by
  have h0:=spec_op 0 o n
  rw [h] at h0
  refine Classical.byContradiction fun hc=>?_
  unfold zD3 at h0
  simp only [ifB_and,bindO_s] at h0
  have hk:o.1 < 1 ∨ 18 < o.1:=by omega
  rw [pEq_f (by omega:o.1≠2),ifB_f] at h0
  repeat (first | rw [pEq_f (by omega),ifB_f] at h0)
  simp only [pGe_d,pLe_d,Option.some.injEq,Bool.and_eq_true,decide_eq_true_eq] at h0
  omega
theorem op_nums {o:OpT} {n:Int} (h:opG o n=true):(o.1=2→0≤o.2.1∧o.2.1≤999999999)∧(o.1=3 ∨ o.1=4→0≤o.2.1∧o.2.1≤7)∧(o.1=10→18≤o.2.1∧o.2.1≤26):=by
  have h0:=spec_op 0 o n
  rw [h] at h0
  unfold zD3 at h0
  simp only [ifB_and,bindO_s] at h0
  refine ⟨fun hk=>?_,fun hk=>?_,fun hk=>?_⟩
  · simp only [hk,show pEq 2 2=true from rfl,ifB_t,pGe_d,pLe_d,Option.some.injEq,Bool.and_eq_true,decide_eq_true_eq] at h0
    omega
  · rcases hk with hk | hk
    · simp only [hk,show pEq 3 2=false from rfl,show pEq 3 3=true from rfl,ifB_f,ifB_t,pGe_d,pLe_d,Option.some.injEq,Bool.and_eq_true,decide_eq_true_eq] at h0
      omega
    · simp only [hk,show pEq 4 2=false from rfl,show pEq 4 3=false from rfl,show pEq 4 4=true from rfl,ifB_f,ifB_t,pGe_d,pLe_d,Option.some.injEq,Bool.and_eq_true,decide_eq_true_eq] at h0
      omega
  · simp only [hk,show pEq 10 2=false from rfl,show pEq 10 3=false from rfl,show pEq 10 4=false from rfl,show pEq 10 10=true from rfl,ifB_f,ifB_t,pGe_d,pLe_d,Option.some.injEq,Bool.and_eq_true,decide_eq_true_eq] at h0
    omega
end Go.AE.F
