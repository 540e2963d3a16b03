/- Plain laws of those functions. -/
import Derived.Test.YthcbmbakpjelgaaGreatDoorLSendF10
import Derived.IntWalk
import Derived.KernelRfl
import Derived.Lib.DecodeN
import Derived.Lib.Strings
namespace Go.AE
theorem ifB_t {R:Type} {a b:Option R}:ifB true a b=a:=rfl
theorem ifB_f {R:Type} {a b:Option R}:ifB false a b=b:=rfl
theorem zA2 {A R:Type} {x:A} {f:A->Option R}:bindO (some x) f=f x:=rfl
theorem zCO {D E R:Type} {step:D->(D->Option R)->(E->Option R)->Option R} {n:Nat} {d:D} {k:E->Option R}:loopP step (n+1) d k=step d (fun d'=>loopP step n d' k) k:=rfl
theorem zE0 {n:Int} (h1:-9223372036854775808<=n) (h2:n<=9223372036854775807):IntKind.i64.wrap n=n:=IntWalk.i64_in n ⟨h1,h2⟩
theorem zC6 {a b:Int} (h1:-9223372036854775808<=a+b) (h2:a+b<=9223372036854775807):pAdd .i64 a b=a+b:=zE0 h1 h2
theorem zCX {a b:Int} (h1:-9223372036854775808<=a - b) (h2:a - b<=9223372036854775807):pSub .i64 a b=a - b:=zE0 h1 h2
theorem pLt_t {a b:Int} (h:a < b):pLt a b=true:=decide_eq_true h
theorem pLt_f {a b:Int} (h:b<=a):pLt a b=false:=decide_eq_false (by omega)
theorem pLe_t {a b:Int} (h:a<=b):pLe a b=true:=decide_eq_true h
theorem pLe_f {a b:Int} (h:b < a):pLe a b=false:=decide_eq_false (by omega)
theorem pGt_t {a b:Int} (h:b < a):pGt a b=true:=decide_eq_true h
theorem pGt_f {a b:Int} (h:a<=b):pGt a b=false:=decide_eq_false (by omega)
theorem pGe_t {a b:Int} (h:b<=a):pGe a b=true:=decide_eq_true h
theorem pGe_f {a b:Int} (h:a < b):pGe a b=false:=decide_eq_false (by omega)
theorem pEq_t {a b:Int} (h:a=b):pEq a b=true:=by subst h;simp [pEq]
theorem pEq_f {a b:Int} (h:a≠b):pEq a b=false:=by simp [pEq,h]
theorem pNe_t {a b:Int} (h:a≠b):pNe a b=true:=by simp [pNe,h]
theorem pNe_f {a b:Int} (h:a=b):pNe a b=false:=by subst h;simp [pNe]
theorem zD0 {A:Type} {xs ys:List A} (h:xs.length+ys.length<=68719476736):pFit xs ys=true:=decide_eq_true h
theorem idx_n {A:Type} (xs:List A) (i:Nat):idx xs (i:Int)=xs[i]?:=by
 unfold idx;rw [if_pos (by omega)];rfl
theorem zCT {A:Type} {xs:List A} {i:Nat} (h:i < xs.length):idx xs (i:Int)=some xs[i]:=by rw [idx_n];simp [h]
theorem zOG {s:ByteArray} {i:Nat} (h:i < s.data.toList.length):bidx s (i:Int)=some ((s.data.toList[i]).toNat:Int):=by
 have h2:i < s.data.size:=by simpa using h
 unfold bidx
 rw [if_pos (by omega)]
 have e:s.data[((i:Nat):Int).toNat]?=some (s.data.toList[i]):=by
  rw [Int.toNat_natCast,← Array.getElem?_toList,List.getElem?_eq_getElem h]
 rw [e];rfl
theorem zP1 (s:ByteArray):pSize s=(s.data.toList.length:Int):=by
 show ((s.size:Nat):Int)=_
 rw [ByteArray.size,Array.length_toList]
theorem zHT (a:ByteArray):pSEq a a=true:=by unfold pSEq;exact beq_self_eq_true _
end Go.AE
namespace Go.AE
theorem zDH {c d:Bool}:ifB c (some true) (some d)=some (c || d):=by cases c <;> rfl
theorem zD4 {c d:Bool}:ifB c (some d) (some false)=some (c && d):=by cases c <;> rfl
theorem zNQ {A:Type} {c:Bool} {a b:A}:ifB c (some a) (some b)=some (if c=true then a else b):=by cases c <;> rfl
theorem zCZ {b:Bool}:pNot b=!b:=rfl
theorem pGe_d {a b:Int}:pGe a b=decide (a >= b):=rfl
theorem pGt_d {a b:Int}:pGt a b=decide (a > b):=rfl
theorem pLe_d {a b:Int}:pLe a b=decide (a<=b):=rfl
theorem pLt_d {a b:Int}:pLt a b=decide (a < b):=rfl
theorem pEq_d {a b:Int}:pEq a b=decide (a=b):=by
 by_cases h:a=b
 ·rw [pEq_t h,decide_eq_true h]
 ·rw [pEq_f h,decide_eq_false h]
theorem pNe_d {a b:Int}:pNe a b=!decide (a=b):=by
 by_cases h:a=b
 ·rw [pNe_f h,decide_eq_true h];rfl
 ·rw [pNe_t h,decide_eq_false h];rfl
theorem zCP {A:Type} {xs:List A}:pLen xs=(xs.length:Int):=rfl
theorem zCU {m N:Nat} (h:m < N):∃ q,N=q+1:=⟨N - 1,by omega⟩
theorem zDX {A:Type} {l:List A} {i:Nat} (h:i < l.length):l.drop i=l[i]::l.drop (i+1):=List.drop_eq_getElem_cons h
theorem zLQ {A R:Type} {P:A->Option Bool} {p:A->Bool} {xs:List A} (hx:xs.length<=9223372036854775806) {step:List A×Int×Int×Unit->(List A×Int×Int×Unit->Option R)->(Unit ⊕ (Int×Unit)->Option R)->Option R}
  (hs:∀ i kn kx,step (xs,(xs.length:Int),i,()) kn kx=ifB (pLt i xs.length) (bindO (idx xs i) fun y=>bindO (P y) fun b=>ifB b (kx (.inr (i,()))) (kn (xs,(xs.length:Int),pAdd .i64 i 1,()))) (kx (.inl ())))
  (hP:∀ x∈xs,P x=some (p x)) (k:Unit ⊕ (Int×Unit)->Option R):∀ (m i n:Nat),xs.length - i=m->i<=xs.length->m < n ->
  loopP step n (xs,(xs.length:Int),(i:Int),()) k=match (xs.drop i).findIdx? p with | none=>k (.inl ()) | some j=>k (.inr (((i+j:Nat):Int),())):=by
 intro m
 induction m with
 | zero =>
  intro i n hm hi hn
  obtain ⟨n,rfl⟩:=zCU hn
  rw [zCO,hs,pLt_f (by omega),ifB_f,List.drop_eq_nil_of_le (by omega)]
  rfl
 | succ m ih =>
  intro i n hm hi hn
  obtain ⟨n,rfl⟩:=zCU hn
  have hlt:i < xs.length:=by omega
  rw [zCO,hs,pLt_t (by omega),ifB_t,zCT hlt,zA2,hP _ (List.getElem_mem hlt),zA2,zDX hlt,List.findIdx?_cons]
  cases hp:p xs[i] with
  | true=>rw [ifB_t];rfl
  | false =>
   rw [ifB_f,zC6 (by omega) (by omega)]
   have:=ih (i+1) n (by omega) (by omega) (by omega)
   refine Eq.trans this ?_
   cases h:(xs.drop (i+1)).findIdx? p with
   | none=>simp
   | some j =>
    simp only [Bool.false_eq_true,if_false,Option.map_some]
    congr 4
    omega
theorem zNG {A:Type} {p:A->Bool} {xs:List A}:(match xs.findIdx? p with | none=>(-1:Int) | some j=>(j:Int)) >= 0 ↔ xs.any p=true:=by
 cases h:xs.findIdx? p with
 | none =>
  simp only [List.findIdx?_eq_none_iff] at h
  constructor
  ·intro q;simp at q
  ·intro q
   obtain ⟨x,hx,hp⟩:=List.any_eq_true.1 q
   rw [h x hx] at hp;cases hp
 | some j =>
  rw [List.findIdx?_eq_some_iff_getElem] at h
  obtain ⟨hj,hp,_⟩:=h
  constructor
  ·intro _;exact List.any_eq_true.2 ⟨_,List.getElem_mem hj,hp⟩
  ·intro _;simp
theorem zNL {A R:Type} {P:A->Option Bool} {p:A->Bool} {xs:List A} (hx:xs.length<=9223372036854775806) {step:List A×Int×Unit->(List A×Int×Unit->Option R)->(Unit ⊕ (Bool×Unit)->Option R)->Option R}
  (hs:∀ i kn kx,step (xs,i,()) kn kx=ifB (pLt i xs.length) (bindO (idx xs i) fun y=>bindO (P y) fun b=>ifB (pNot b) (kx (.inr (false,()))) (kn (xs,pAdd .i64 i 1,()))) (kx (.inl ())))
  (hP:∀ x∈xs,P x=some (p x)) (k:Unit ⊕ (Bool×Unit)->Option R):∀ (m i n:Nat),xs.length - i=m->i<=xs.length->m < n ->
  loopP step n (xs,(i:Int),()) k=if (xs.drop i).all p=true then k (.inl ()) else k (.inr (false,())):=by
 intro m
 induction m with
 | zero =>
  intro i n hm hi hn
  obtain ⟨n,rfl⟩:=zCU hn
  rw [zCO,hs,pLt_f (by omega),ifB_f,List.drop_eq_nil_of_le (by omega)]
  rfl
 | succ m ih =>
  intro i n hm hi hn
  obtain ⟨n,rfl⟩:=zCU hn
  have hlt:i < xs.length:=by omega
  rw [zCO,hs,pLt_t (by omega),ifB_t,zCT hlt,zA2,hP _ (List.getElem_mem hlt),zA2,zDX hlt,List.all_cons]
  cases hp:p xs[i] with
  | false=>simp [zCZ,ifB_t]
  | true =>
   rw [zCZ,Bool.not_true,ifB_f,zC6 (by omega) (by omega),Bool.true_and]
   exact ih (i+1) n (by omega) (by omega) (by omega)
theorem zOH {A R:Type} {P:A->A->Option Bool} {xs ys:List A} (hx:xs.length<=9223372036854775806) (hl:xs.length=ys.length) {step:List A×List A×Int×Unit->(List A×List A×Int×Unit->Option R)->(Unit ⊕ (Bool×Unit)->Option R)->Option R}
  (hs:∀ i kn kx,step (xs,ys,i,()) kn kx=ifB (pLt i xs.length) (bindO (idx xs i) fun x=>bindO (idx ys i) fun y=>bindO (P x y) fun b=>ifB b (kx (.inr (false,()))) (kn (xs,ys,pAdd .i64 i 1,()))) (kx (.inl ())))
  (hP:∀ x∈xs,∀ y∈ys,∃ b,P x y=some b/\(b=true ↔ x≠y)) (k:Unit ⊕ (Bool×Unit)->Option R):∀ (m i n:Nat),xs.length - i=m->i<=xs.length->m < n ->
  (xs.drop i=ys.drop i->loopP step n (xs,ys,(i:Int),()) k=k (.inl ()))/\(xs.drop i≠ys.drop i->loopP step n (xs,ys,(i:Int),()) k=k (.inr (false,()))):=by
 intro m
 induction m with
 | zero =>
  intro i n hm hi hn
  obtain ⟨n,rfl⟩:=zCU hn
  rw [zCO,hs,pLt_f (by omega),ifB_f,List.drop_eq_nil_of_le (by omega),List.drop_eq_nil_of_le (by omega)]
  exact ⟨fun _=>rfl,fun h=>absurd rfl h⟩
 | succ m ih =>
  intro i n hm hi hn
  obtain ⟨n,rfl⟩:=zCU hn
  have hlt:i < xs.length:=by omega
  have hlt2:i < ys.length:=by omega
  obtain ⟨b,hb,hbe⟩:=hP _ (List.getElem_mem hlt) _ (List.getElem_mem hlt2)
  rw [zCO,hs,pLt_t (by omega),ifB_t,zCT hlt,zA2,zCT hlt2,zA2,hb,zA2,zDX hlt,zDX hlt2,List.cons.injEq]
  obtain ⟨i1,i2⟩:=ih (i+1) n (by omega) (by omega) (by omega)
  cases b with
  | true =>
   have:=hbe.1 rfl
   exact ⟨fun h=>absurd h.1 this,fun _=>by rw [ifB_t]⟩
  | false =>
   have he:xs[i]=ys[i]:=Classical.byContradiction fun h=>by cases hbe.2 h
   rw [ifB_f,zC6 (by omega) (by omega)]
   exact ⟨fun h=>i1 h.2,fun h=>i2 fun q=>h (by rw [he,q])⟩
end Go.AE
namespace Go.AE.F
open Go.AE
def ptG (a:Int):Bool:=decide (0<=a) && decide (a<=1114111) && !(decide (55296<=a) && decide (a<=57343))
theorem zDI (N:Nat) (a:Int):zBQ N a=some (ptG a):=by
 unfold zBQ ptG
 simp only [zDH,zD4,zA2,zCZ,pGe_d,pLe_d]
theorem zCQ (N:Nat) (a b c:Int):zBA N a b c=some (decide (b<=a) && decide (a<=c)):=by
 unfold zBA
 simp only [zD4,zA2,pLe_d]
theorem zE4 (N:Nat) (a:Int):zCE N a=some (ptG a):=by
 unfold zCE ptG
 simp only [zCQ,zD4,zA2,zCZ]
end Go.AE.F
namespace Go.AE.F
open Go.AE
theorem zL6 {A:Type} {p:A->Bool}:∀ {l:List A},(!l.any fun a=>!p a)=l.all p
 | []=>rfl
 | a::l=>by rw [List.any_cons,List.all_cons,← zL6];cases p a <;> simp
end Go.AE.F
namespace Go.AE.F
open Go.AE
def ptsG (l:List Int):Bool:=decide (l.length<=300) && l.all ptG
theorem zE6 (N:Nat) (l:List Int) (hN:301 < N):zAJ N l=some (ptsG l):=by
 unfold zAJ ptsG
 rw [zCP]
 by_cases h:l.length<=300
 ·rw [pGt_f (by omega),ifB_f,decide_eq_true h,Bool.true_and]
  have:=zNL (R:=Bool) (P:=zBQ N) (p:=ptG) (xs:=l) (by omega) (step:=zAJ.l4 N) (fun i kn kx=>by simp only [zAJ.l4,zCP]) (fun x _=>zDI N x)
   (onSum (fun d=>some true) (fun d=>let x37:=d.1;some x37)) _ 0 N rfl (by omega) (by omega)
  rw [List.drop_zero] at this
  refine Eq.trans this ?_
  cases l.all ptG <;> rfl
 ·rw [pGt_t (by omega),ifB_t,decide_eq_false h];rfl
theorem zI4 {A:Type} {N:Nat} {P:A->Option Bool} {p:A->Bool} {l:List A} (hl:l.length < N) (hb:l.length<=9223372036854775806) {step:{R:Type}->List A×Int×Int×Unit->(List A×Int×Int×Unit->Option R)->(Unit ⊕ (Int×Unit)->Option R)->Option R}
  (hs:∀ i kn kx,step (R:=Int) (l,(l.length:Int),i,()) kn kx=ifB (pLt i l.length) (bindO (idx l i) fun y=>bindO (P y) fun b=>ifB b (kx (.inr (i,()))) (kn (l,(l.length:Int),pAdd .i64 i 1,()))) (kx (.inl ())))
  (hP:∀ x∈l,P x=some (!p x)) :
  (bindO (loopP (R:=Int) step N (l,(l.length:Int),(0:Int),()) (onSum (fun _=>some (-1)) (fun d=>let x43:=d.1;some x43))) fun y1=>some (pGe y1 0))=some (!l.all p):=by
 have:=zLQ (R:=Int) (P:=P) (p:=fun a=>!p a) (xs:=l) hb (step:=step) hs hP (onSum (fun _=>some (-1)) (fun d=>let x43:=d.1;some x43)) _ 0 N rfl (by omega) (by omega)
 rw [List.drop_zero] at this
 rw [show (0:Int)=((0:Nat):Int) from rfl,this]
 have h:=zNG (p:=fun a=>!p a) (xs:=l)
 rw [← zL6 (p:=p)]
 cases hf:l.findIdx? (fun a=>!p a) with
 | none =>
  rw [hf] at h
  have ha:l.any (fun a=>!p a)=false:=by
   cases ha:l.any (fun a=>!p a) with
   | false=>rfl
   | true=>have:=h.2 ha;simp at this
  rw [ha];rfl
 | some j =>
  rw [hf] at h
  have ha:l.any (fun a=>!p a)=true:=h.1 (by simp)
  rw [ha]
  show (bindO (some ((0+j:Nat):Int)) fun y1=>some (pGe y1 0))=_
  rw [zA2,pGe_t (by omega)];rfl
theorem zE3 (N:Nat) (l:List Int) (hl:l.length < N) (hb:l.length<=9223372036854775806):zDL N l=some (ptsG l):=by
 unfold zDL zCY zCC ptsG
 rw [zCP,zI4 (P:=zDM N) (p:=ptG) (step:=fun {R}=>zCC.l2 (R:=R) N) hl hb (fun i kn kx=>rfl) (fun x _=>by unfold zDM;rw [zE4,zA2,zCZ]),zA2]
 have e:pLe (l.length:Int) 300=decide (l.length<=300):=by rw [pLe_d];congr 1;simp;omega
 rw [e,zD4,zA2,zCZ]
 simp
theorem zEX (N:Nat) (a b:List Int) (ha:a.length<=9223372036854775806) (hN:a.length < N):zB2 N a b=some (decide (a=b)):=by
 unfold zB2
 simp only [zCP]
 by_cases hl:a.length=b.length
 ·rw [pNe_f (by omega),ifB_f]
  obtain ⟨h1,h2⟩:=zOH (R:=Bool) (P:=fun x y=>some (pNe x y)) (xs:=a) (ys:=b) ha hl (step:=zB2.l4 N) (fun i kn kx=>by simp only [zB2.l4,zA2,zCP])
   (fun x _ y _=>⟨_,rfl,by rw [pNe_d];simp⟩) (onSum (fun _=>some true) (fun d=>let x43:=d.1;some x43)) _ 0 N rfl (by omega) (by omega)
  rw [List.drop_zero,List.drop_zero] at h1 h2
  by_cases he:a=b
  ·rw [decide_eq_true he];exact h1 he
  ·rw [decide_eq_false he];exact h2 he
 ·rw [pNe_t (by omega),ifB_t,decide_eq_false (fun h=>hl (by rw [h]))]
theorem zJY {N:Nat} {R:Type} (a b:List Int) (ha:a.length<=9223372036854775806) (hl:a.length=b.length) (k:Unit ⊕ (Bool×Unit)->Option R):∀ (m i n:Nat),a.length - i=m->i<=a.length->m < n ->
  loopP (zA3.l4 N) n (a,b,(a.length:Int),(i:Int),()) k=if a.drop i=b.drop i then k (.inl ()) else k (.inr (false,())):=by
 intro m
 induction m with
 | zero =>
  intro i n hm hi hn
  obtain ⟨n,rfl⟩:=zCU hn
  simp only [zCO,zA3.l4]
  rw [pLt_f (by omega),ifB_f,List.drop_eq_nil_of_le (by omega),List.drop_eq_nil_of_le (by omega),if_pos rfl]
 | succ m ih =>
  intro i n hm hi hn
  obtain ⟨n,rfl⟩:=zCU hn
  have h1:i < a.length:=by omega
  have h2:i < b.length:=by omega
  simp only [zCO,zA3.l4]
  rw [pLt_t (by omega),ifB_t,zCT h1,zA2,zCT h2,zA2,zDX h1,zDX h2]
  by_cases he:a[i]=b[i]
  ·rw [pNe_f he,ifB_f,zC6 (by omega) (by omega)]
   refine Eq.trans (ih (i+1) n (by omega) (by omega) (by omega)) ?_
   by_cases hd:a.drop (i+1)=b.drop (i+1)
   ·rw [if_pos hd,if_pos (by rw [he,hd])]
   ·rw [if_neg hd,if_neg (fun q=>hd (List.cons.inj q).2)]
  ·rw [pNe_t he,ifB_t,if_neg (fun q=>he (List.cons.inj q).1)]
theorem zG0 (N:Nat) (a b:List Int) (ha:a.length<=9223372036854775806) (hN:a.length < N):zA3 N a b=some (decide (a=b)):=by
 unfold zA3
 simp only [zCP]
 by_cases hl:a.length=b.length
 ·rw [pNe_f (by omega),ifB_f]
  have:=zJY (N:=N) a b ha hl (onSum (fun _=>some true) (fun d=>let x49:=d.1;some x49)) _ 0 N rfl (by omega) (by omega)
  rw [List.drop_zero,List.drop_zero] at this
  refine Eq.trans this ?_
  by_cases he:a=b
  ·rw [decide_eq_true he,if_pos he];rfl
  ·rw [decide_eq_false he,if_neg he];rfl
 ·rw [pNe_t (by omega),ifB_t,decide_eq_false (fun h=>hl (by rw [h]))]
end Go.AE.F
namespace Go.AE.F
open Go.AE
theorem zL0 {R:Type} (a:Option R):same a a=a:=if_pos rfl
theorem zIU (N:Nat) (a:List Int) (h:a.length<=68719476736):zAA N a=some a:=by
 unfold zAA zAA.g
 rw [zD0 (by simp;exact h),zCP]
 simp only [ifB_t]
 cases a with
 | nil =>
  rw [pEq_t (by simp),ifB_t]
  exact zL0 _
 | cons x l =>
  rw [pEq_f (by simp;omega),ifB_f]
  rfl
theorem zIQ (N:Nat) (a:List Int) (h:a.length<=68719476736):zC1 N a=some a:=by
 unfold zC1
 rw [zD0 (by simp;exact h),ifB_t]
 rfl
end Go.AE.F
namespace Go.AE.F
open Go.AE
abbrev BufT:=List Int×Int×Int×Unit
def bufG (b:BufT):Bool:=ptsG b.1 && decide (0<=b.2.1) && decide (b.2.1<=b.1.length) && decide (0<=b.2.2.1) && decide (b.2.2.1<=b.1.length)
theorem zFF {b:BufT}:bufG b=true ↔ ptsG b.1=true/\0<=b.2.1/\b.2.1<=b.1.length/\0<=b.2.2.1/\b.2.2.1<=b.1.length:=by
 unfold bufG
 simp only [Bool.and_eq_true,decide_eq_true_eq,and_assoc]
theorem zEJ {l:List Int} (h:ptsG l=true):l.length<=300:=by
 unfold ptsG at h
 simp only [Bool.and_eq_true,decide_eq_true_eq] at h
 exact h.1
theorem zFU (N:Nat) (b:BufT) (hN:301 < N):zCK N b=some (bufG b):=by
 unfold zCK bufG
 rw [zE6 N b.1 hN]
 simp only [zA2,zD4,pGe_d,pLe_d,zCP,ge_iff_le]
theorem zIB (N:Nat) (l:List Int) (h:l.length<=9223372036854775807):zDY N l=some (l.length:Int):=by
 unfold zDY
 rw [zCP]
 first | done | rfl | (simp only [pConv];rw [zE0 (by omega) (by omega)])
theorem zFV (N:Nat) (b:BufT) (hl:b.1.length < N) (hb:b.1.length<=9223372036854775806):zEH N b=some (bufG b):=by
 unfold zEH zDZ bufG
 rw [zE3 N b.1 hl hb]
 simp only [zIB N b.1 (by omega),zCQ,zA2,zD4,Bool.and_assoc]
end Go.AE.F
