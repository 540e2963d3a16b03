/- Plain laws of those functions. -/
import Derived.Test.YtkknmokglbhheaaGreatLMachineF13
import Derived.IntWalk
namespace Go.AE
theorem ifB_t {R:Type} {a b:Option R}:ifB true a b=a:=rfl
theorem ifB_f {R:Type} {a b:Option R}:ifB false a b=b:=rfl
theorem bindO_s {A R:Type} {x:A} {f:A→Option R}:bindO (some x) f=f x:=rfl
theorem loopP_s {D E R:Type} {step:D→(D→Option R)→(E→Option R)→Option R} {n:Nat} {d:D} {k:E→Option R}:loopP step (n+1) d k=step d (fun d'=>loopP step n d' k) k:=rfl
theorem wrap_i64 {n:Int} (h1:-9223372036854775808≤n) (h2:n≤9223372036854775807):IntKind.i64.wrap n=n:=IntWalk.i64_in n ⟨h1,h2⟩
theorem pAdd_i {a b:Int} (h1:-9223372036854775808≤a+b) (h2:a+b≤9223372036854775807):pAdd .i64 a b=a+b:=wrap_i64 h1 h2
theorem pSub_i {a b:Int} (h1:-9223372036854775808≤a - b) (h2:a - b≤9223372036854775807):pSub .i64 a b=a - b:=wrap_i64 h1 h2
theorem pLt_t {a b:Int} (h:a < b):pLt a b=true:=decide_eq_true h
theorem pLt_f {a b:Int} (h:b≤a):pLt a b=false:=decide_eq_false (by omega)
theorem pLe_t {a b:Int} (h:a≤b):pLe a b=true:=decide_eq_true h
theorem pLe_f {a b:Int} (h:b < a):pLe a b=false:=decide_eq_false (by omega)
theorem pGt_t {a b:Int} (h:b < a):pGt a b=true:=decide_eq_true h
theorem pGt_f {a b:Int} (h:a≤b):pGt a b=false:=decide_eq_false (by omega)
theorem pGe_t {a b:Int} (h:b≤a):pGe a b=true:=decide_eq_true h
theorem pGe_f {a b:Int} (h:a < b):pGe a b=false:=decide_eq_false (by omega)
theorem pEq_t {a b:Int} (h:a=b):pEq a b=true:=by subst h;simp [pEq]
theorem pEq_f {a b:Int} (h:a≠b):pEq a b=false:=by simp [pEq,h]
theorem pNe_t {a b:Int} (h:a≠b):pNe a b=true:=by simp [pNe,h]
theorem pNe_f {a b:Int} (h:a=b):pNe a b=false:=by subst h;simp [pNe]
theorem pFit_t {A:Type} {xs ys:List A} (h:xs.length+ys.length≤68719476736):pFit xs ys=true:=decide_eq_true h
theorem idx_n {A:Type} (xs:List A) (i:Nat):idx xs (i:Int)=xs[i]?:=by
  unfold idx;rw [if_pos (by omega)];rfl
theorem idx_lt {A:Type} {xs:List A} {i:Nat} (h:i < xs.length):idx xs (i:Int)=some xs[i]:=by rw [idx_n];simp [h]
theorem bidx_lt {s:ByteArray} {i:Nat} (h:i < s.data.toList.length):bidx s (i:Int)=some ((s.data.toList[i]).toNat:Int):=by
  have h2:i < s.data.size:=by simpa using h
  unfold bidx
  rw [if_pos (by omega)]
  have e:s.data[((i:Nat):Int).toNat]?=some (s.data.toList[i]):=by
    rw [Int.toNat_natCast,← Array.getElem?_toList,List.getElem?_eq_getElem h]
  rw [e];rfl
end Go.AE
namespace Go.AE
theorem ifB_or {c d:Bool}:ifB c (some true) (some d)=some (c || d):=by cases c <;> rfl
theorem ifB_and {c d:Bool}:ifB c (some d) (some false)=some (c && d):=by cases c <;> rfl
theorem ifB_some {A:Type} {c:Bool} {a b:A}:ifB c (some a) (some b)=some (if c=true then a else b):=by cases c <;> rfl
theorem pNot_d {b:Bool}:pNot b=!b:=rfl
theorem pGe_d {a b:Int}:pGe a b=decide (a ≥ b):=rfl
theorem pGt_d {a b:Int}:pGt a b=decide (a > b):=rfl
theorem pLe_d {a b:Int}:pLe a b=decide (a≤b):=rfl
theorem pLt_d {a b:Int}:pLt a b=decide (a < b):=rfl
theorem pEq_d {a b:Int}:pEq a b=decide (a=b):=by
  by_cases h:a=b
  · rw [pEq_t h,decide_eq_true h]
  · rw [pEq_f h,decide_eq_false h]
theorem pNe_d {a b:Int}:pNe a b=!decide (a=b):=by
  by_cases h:a=b
  · rw [pNe_f h,decide_eq_true h];rfl
  · rw [pNe_t h,decide_eq_false h];rfl
theorem pLen_d {A:Type} {xs:List A}:pLen xs=(xs.length:Int):=rfl
theorem succ_of {m N:Nat} (h:m < N):∃ q,N=q+1:=⟨N - 1,by omega⟩
theorem drop_c {A:Type} {l:List A} {i:Nat} (h:i < l.length):l.drop i=l[i]::l.drop (i+1):=List.drop_eq_getElem_cons h
theorem find_loop {A R:Type} {P:A→Option Bool} {p:A→Bool} {xs:List A} (hx:xs.length≤9223372036854775806) {step:List A×Int×Int×Unit→(List A×Int×Int×Unit→Option R)→(Unit ⊕ (Int×Unit)→Option R)→Option R}
    (hs:∀ i kn kx,step (xs,(xs.length:Int),i,()) kn kx=ifB (pLt i xs.length) (bindO (idx xs i) fun y=>bindO (P y) fun b=>ifB b (kx (.inr (i,()))) (kn (xs,(xs.length:Int),pAdd .i64 i 1,()))) (kx (.inl ())))
    (hP:∀ x∈xs,P x=some (p x)) (k:Unit ⊕ (Int×Unit)→Option R):∀ (m i n:Nat),xs.length - i=m→i≤xs.length→m < n →
    loopP step n (xs,(xs.length:Int),(i:Int),()) k=match (xs.drop i).findIdx? p with | none=>k (.inl ()) | some j=>k (.inr (((i+j:Nat):Int),())):=by
  intro m
  induction m with
  | zero =>
    intro i n hm hi hn
    obtain ⟨n,rfl⟩:=succ_of hn
    rw [loopP_s,hs,pLt_f (by omega),ifB_f,List.drop_eq_nil_of_le (by omega)]
    rfl
  | succ m ih =>
    intro i n hm hi hn
    obtain ⟨n,rfl⟩:=succ_of hn
    have hlt:i < xs.length:=by omega
    rw [loopP_s,hs,pLt_t (by omega),ifB_t,idx_lt hlt,bindO_s,hP _ (List.getElem_mem hlt),bindO_s,drop_c hlt,List.findIdx?_cons]
    cases hp:p xs[i] with
    | true=>rw [ifB_t];rfl
    | false =>
      rw [ifB_f,pAdd_i (by omega) (by omega)]
      have:=ih (i+1) n (by omega) (by omega) (by omega)
      refine Eq.trans this ?_
      cases h:(xs.drop (i+1)).findIdx? p with
      | none=>simp
      | some j =>
        simp only [Bool.false_eq_true,if_false,Option.map_some]
        congr 4
        omega
theorem find_any {A:Type} {p:A→Bool} {xs:List A}:(match xs.findIdx? p with | none=>(-1:Int) | some j=>(j:Int)) ≥ 0 ↔ xs.any p=true:=by
  cases h:xs.findIdx? p with
  | none =>
    simp only [List.findIdx?_eq_none_iff] at h
    constructor
    · intro q;simp at q
    · intro q
      obtain ⟨x,hx,hp⟩:=List.any_eq_true.1 q
      rw [h x hx] at hp;cases hp
  | some j =>
    rw [List.findIdx?_eq_some_iff_getElem] at h
    obtain ⟨hj,hp,_⟩:=h
    constructor
    · intro _;exact List.any_eq_true.2 ⟨_,List.getElem_mem hj,hp⟩
    · intro _;simp
theorem all_loop {A R:Type} {P:A→Option Bool} {p:A→Bool} {xs:List A} (hx:xs.length≤9223372036854775806) {step:List A×Int×Unit→(List A×Int×Unit→Option R)→(Unit ⊕ (Bool×Unit)→Option R)→Option R}
    (hs:∀ i kn kx,step (xs,i,()) kn kx=ifB (pLt i xs.length) (bindO (idx xs i) fun y=>bindO (P y) fun b=>ifB (pNot b) (kx (.inr (false,()))) (kn (xs,pAdd .i64 i 1,()))) (kx (.inl ())))
    (hP:∀ x∈xs,P x=some (p x)) (k:Unit ⊕ (Bool×Unit)→Option R):∀ (m i n:Nat),xs.length - i=m→i≤xs.length→m < n →
    loopP step n (xs,(i:Int),()) k=if (xs.drop i).all p=true then k (.inl ()) else k (.inr (false,())):=by
  intro m
  induction m with
  | zero =>
    intro i n hm hi hn
    obtain ⟨n,rfl⟩:=succ_of hn
    rw [loopP_s,hs,pLt_f (by omega),ifB_f,List.drop_eq_nil_of_le (by omega)]
    rfl
  | succ m ih =>
    intro i n hm hi hn
    obtain ⟨n,rfl⟩:=succ_of hn
    have hlt:i < xs.length:=by omega
    rw [loopP_s,hs,pLt_t (by omega),ifB_t,idx_lt hlt,bindO_s,hP _ (List.getElem_mem hlt),bindO_s,drop_c hlt,List.all_cons]
    cases hp:p xs[i] with
    | false=>simp [pNot_d,ifB_t]
    | true =>
      rw [pNot_d,Bool.not_true,ifB_f,pAdd_i (by omega) (by omega),Bool.true_and]
      exact ih (i+1) n (by omega) (by omega) (by omega)
theorem eq_loop {A R:Type} {P:A→A→Option Bool} {xs ys:List A} (hx:xs.length≤9223372036854775806) (hl:xs.length=ys.length) {step:List A×List A×Int×Unit→(List A×List A×Int×Unit→Option R)→(Unit ⊕ (Bool×Unit)→Option R)→Option R}
    (hs:∀ i kn kx,step (xs,ys,i,()) kn kx=ifB (pLt i xs.length) (bindO (idx xs i) fun x=>bindO (idx ys i) fun y=>bindO (P x y) fun b=>ifB b (kx (.inr (false,()))) (kn (xs,ys,pAdd .i64 i 1,()))) (kx (.inl ())))
    (hP:∀ x∈xs,∀ y∈ys,∃ b,P x y=some b∧(b=true ↔ x≠y)) (k:Unit ⊕ (Bool×Unit)→Option R):∀ (m i n:Nat),xs.length - i=m→i≤xs.length→m < n →
    (xs.drop i=ys.drop i→loopP step n (xs,ys,(i:Int),()) k=k (.inl ()))∧(xs.drop i≠ys.drop i→loopP step n (xs,ys,(i:Int),()) k=k (.inr (false,()))):=by
  intro m
  induction m with
  | zero =>
    intro i n hm hi hn
    obtain ⟨n,rfl⟩:=succ_of hn
    rw [loopP_s,hs,pLt_f (by omega),ifB_f,List.drop_eq_nil_of_le (by omega),List.drop_eq_nil_of_le (by omega)]
    exact ⟨fun _=>rfl,fun h=>absurd rfl h⟩
  | succ m ih =>
    intro i n hm hi hn
    obtain ⟨n,rfl⟩:=succ_of hn
    have hlt:i < xs.length:=by omega
    have hlt2:i < ys.length:=by omega
    obtain ⟨b,hb,hbe⟩:=hP _ (List.getElem_mem hlt) _ (List.getElem_mem hlt2)
    rw [loopP_s,hs,pLt_t (by omega),ifB_t,idx_lt hlt,bindO_s,idx_lt hlt2,bindO_s,hb,bindO_s,drop_c hlt,drop_c hlt2,List.cons.injEq]
    obtain ⟨i1,i2⟩:=ih (i+1) n (by omega) (by omega) (by omega)
    cases b with
    | true =>
      have:=hbe.1 rfl
      exact ⟨fun h=>absurd h.1 this,fun _=>by rw [ifB_t]⟩
    | false =>
      have he:xs[i]=ys[i]:=Classical.byContradiction fun h=>by cases hbe.2 h
      rw [ifB_f,pAdd_i (by omega) (by omega)]
      exact ⟨fun h=>i1 h.2,fun h=>i2 fun q=>h (by rw [he,q])⟩
end Go.AE
namespace Go.AE.F
open Go.AE
theorem repl_len {A:Type} (n:Nat) (x:A):(pRepl (n:Int) x).length=n:=by simp [pRepl]
end Go.AE.F
namespace Go.AE.F
open Go.AE
def ptG (a:Int):Bool:=decide (0≤a) && decide (a≤1114111) && !(decide (55296≤a) && decide (a≤57343))
def classG (a:Int):Int :=
  if ptG a=true then (if a=32 ∨ a=9 ∨ a=10 then 1 else if (97≤a∧a≤122) ∨ (65≤a∧a≤90) ∨ (48≤a∧a≤57) ∨ a=95 ∨ 128≤a then 2 else 3) else 0
theorem spec_l01Point_eq (N:Nat) (a:Int):zC5 N a=some (ptG a):=by
  unfold zC5 ptG
  simp only [ifB_or,ifB_and,bindO_s,pNot_d,pGe_d,pLe_d]
theorem impl_within_eq (N:Nat) (a b c:Int):zB5 N a b c=some (decide (b≤a) && decide (a≤c)):=by
  unfold zB5
  simp only [ifB_and,bindO_s,pLe_d]
theorem impl_isPoint_eq (N:Nat) (a:Int):zCH N a=some (ptG a):=by
  unfold zCH ptG
  simp only [impl_within_eq,ifB_and,bindO_s,pNot_d]
theorem if_b {A:Type} {b:Bool} {p:Prop} [Decidable p] (h:b=true ↔ p) (x y:A):(if b=true then x else y)=if p then x else y:=by
  by_cases hp:p
  · rw [if_pos hp,if_pos (h.2 hp)]
  · rw [if_neg hp,if_neg (fun q=>hp (h.1 q))]
theorem spec_ClassOf_eq (N:Nat) (a:Int):zCY N a=some (classG a):=by
  unfold zCY classG
  simp only [spec_l01Point_eq,ifB_or,ifB_and,ifB_some,bindO_s,pNot_d,pGe_d,pLe_d,pEq_d]
  congr 1
  cases hp:ptG a with
  | false=>rfl
  | true =>
    simp only [Bool.not_true,Bool.false_eq_true,if_false,if_true]
    rw [if_b (p:=a=32 ∨ a=9 ∨ a=10) (by simp [or_assoc])]
    congr 1
    rw [if_b (p:=(97≤a∧a≤122) ∨ (65≤a∧a≤90) ∨ (48≤a∧a≤57) ∨ a=95 ∨ 128≤a) (by simp [or_assoc])]
theorem impl_ClassOf_eq (N:Nat) (a:Int):zD5 N a=some (classG a):=by
  unfold zD5 classG
  simp only [impl_isPoint_eq,impl_within_eq,ifB_or,ifB_and,ifB_some,bindO_s,pNot_d,pGe_d,pLe_d,pEq_d]
  congr 1
  cases hp:ptG a with
  | false=>rfl
  | true =>
    simp only [Bool.not_true,Bool.false_eq_true,if_false,if_true]
    rw [if_b (p:=a=32 ∨ a=9 ∨ a=10) (by simp [or_assoc])]
    congr 1
    rw [if_b (p:=(97≤a∧a≤122) ∨ (65≤a∧a≤90) ∨ (48≤a∧a≤57) ∨ a=95 ∨ 128≤a) (by simp;omega)]
end Go.AE.F
namespace Go.AE.F
open Go.AE
theorem not_any {A:Type} {p:A→Bool}:∀ {l:List A},(!l.any fun a=>!p a)=l.all p
  | []=>rfl
  | a::l=>by rw [List.any_cons,List.all_cons,← not_any];cases p a <;> simp
end Go.AE.F
namespace Go.AE.F
open Go.AE
def ptsG (l:List Int):Bool:=decide (l.length≤300) && l.all ptG
theorem spec_PointsRight_eq (N:Nat) (l:List Int) (hN:301 < N):zAQ N l=some (ptsG l):=by
  unfold zAQ ptsG
  rw [pLen_d]
  by_cases h:l.length≤300
  · rw [pGt_f (by omega),ifB_f,decide_eq_true h,Bool.true_and]
    have:=all_loop (R:=Bool) (P:=zC5 N) (p:=ptG) (xs:=l) (by omega) (step:=zAQ.l4 N) (fun i kn kx=>by simp only [zAQ.l4,pLen_d]) (fun x _=>spec_l01Point_eq N x)
      (onSum (fun d=>some true) (fun d=>let x37:=d.1;some x37)) _ 0 N rfl (by omega) (by omega)
    rw [List.drop_zero] at this
    refine Eq.trans this ?_
    cases l.all ptG <;> rfl
  · rw [pGt_t (by omega),ifB_t,decide_eq_false h];rfl
theorem contains_all {A:Type} {N:Nat} {P:A→Option Bool} {p:A→Bool} {l:List A} (hl:l.length < N) (hb:l.length≤9223372036854775806) {step:{R:Type}→List A×Int×Int×Unit→(List A×Int×Int×Unit→Option R)→(Unit ⊕ (Int×Unit)→Option R)→Option R}
    (hs:∀ i kn kx,step (R:=Int) (l,(l.length:Int),i,()) kn kx=ifB (pLt i l.length) (bindO (idx l i) fun y=>bindO (P y) fun b=>ifB b (kx (.inr (i,()))) (kn (l,(l.length:Int),pAdd .i64 i 1,()))) (kx (.inl ())))
    (hP:∀ x∈l,P x=some (!p x)) :
    (bindO (loopP (R:=Int) step N (l,(l.length:Int),(0:Int),()) (onSum (fun _=>some (-1)) (fun d=>let x43:=d.1;some x43))) fun y1=>some (pGe y1 0))=some (!l.all p):=by
  have:=find_loop (R:=Int) (P:=P) (p:=fun a=>!p a) (xs:=l) hb (step:=step) hs hP (onSum (fun _=>some (-1)) (fun d=>let x43:=d.1;some x43)) _ 0 N rfl (by omega) (by omega)
  rw [List.drop_zero] at this
  rw [show (0:Int)=((0:Nat):Int) from rfl,this]
  have h:=find_any (p:=fun a=>!p a) (xs:=l)
  rw [← not_any (p:=p)]
  cases hf:l.findIdx? (fun a=>!p a) with
  | none =>
    rw [hf] at h
    have ha:l.any (fun a=>!p a)=false:=by
      cases ha:l.any (fun a=>!p a) with
      | false=>rfl
      | true=>have:=h.2 ha;simp at this
    rw [ha];rfl
  | some j =>
    rw [hf] at h
    have ha:l.any (fun a=>!p a)=true:=h.1 (by simp)
    rw [ha]
    show (bindO (some ((0+j:Nat):Int)) fun y1=>some (pGe y1 0))=_
    rw [bindO_s,pGe_t (by omega)];rfl
theorem impl_PointsRight_eq (N:Nat) (l:List Int) (hl:l.length < N) (hb:l.length≤9223372036854775806):zC7 N l=some (ptsG l):=by
  unfold zC7 zAH zA1 ptsG
  rw [pLen_d,contains_all (P:=zBT N) (p:=ptG) (step:=fun {R}=>zA1.l2 (R:=R) N) hl hb (fun i kn kx=>rfl) (fun x _=>by unfold zBT;rw [impl_isPoint_eq,bindO_s,pNot_d]),bindO_s]
  have e:pLe (l.length:Int) 300=decide (l.length≤300):=by rw [pLe_d];congr 1;simp;omega
  rw [e,ifB_and,bindO_s,pNot_d]
  simp
end Go.AE.F
namespace Go.AE.F
open Go.AE
theorem same_self {R:Type} (a:Option R):same a a=a:=if_pos rfl
theorem clone_eq (N:Nat) (a:List Int) (h:a.length≤68719476736):zAO N a=some a:=by
  unfold zAO zAO.g
  rw [pFit_t (by simp;exact h),pLen_d]
  simp only [ifB_t]
  cases a with
  | nil =>
    rw [pEq_t (by simp),ifB_t]
    exact same_self _
  | cons x l =>
    rw [pEq_f (by simp;omega),ifB_f]
    rfl
theorem copy_eq (N:Nat) (a:List Int) (h:a.length≤68719476736):zC9 N a=some a:=by
  unfold zC9
  rw [pFit_t (by simp;exact h),ifB_t]
  rfl
end Go.AE.F
namespace Go.AE.F
open Go.AE
abbrev BufT:=List Int×Int×Int×Unit
def bufG (b:BufT):Bool:=ptsG b.1 && decide (0≤b.2.1) && decide (b.2.1≤b.1.length) && decide (0≤b.2.2.1) && decide (b.2.2.1≤b.1.length)
theorem bufG_iff {b:BufT}:bufG b=true ↔ ptsG b.1=true∧0≤b.2.1∧b.2.1≤b.1.length∧0≤b.2.2.1∧b.2.2.1≤b.1.length:=by
  unfold bufG
  simp only [Bool.and_eq_true,decide_eq_true_eq,and_assoc]
theorem ptsG_len {l:List Int} (h:ptsG l=true):l.length≤300:=by
  unfold ptsG at h
  simp only [Bool.and_eq_true,decide_eq_true_eq] at h
  exact h.1
theorem spec_BufRight_eq (N:Nat) (b:BufT) (hN:301 < N):zBN N b=some (bufG b):=by
  unfold zBN bufG
  rw [spec_PointsRight_eq N b.1 hN]
  simp only [bindO_s,ifB_and,pGe_d,pLe_d,pLen_d,ge_iff_le]
theorem impl_size_eq (N:Nat) (l:List Int) (h:l.length≤9223372036854775807):zAR N l=some (l.length:Int):=by
  unfold zAR
  rw [pLen_d]
  first | done | rfl | (simp only [pConv];rw [wrap_i64 (by omega) (by omega)])
theorem impl_BufRight_eq (N:Nat) (b:BufT) (hl:b.1.length < N) (hb:b.1.length≤9223372036854775806):zC6 N b=some (bufG b):=by
  unfold zC6 zBK bufG
  rw [impl_PointsRight_eq N b.1 hl hb]
  simp only [impl_size_eq N b.1 (by omega),impl_within_eq,bindO_s,ifB_and,Bool.and_assoc]
end Go.AE.F
