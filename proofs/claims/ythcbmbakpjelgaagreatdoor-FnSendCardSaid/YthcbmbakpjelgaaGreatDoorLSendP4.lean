/- Plain laws of those functions. -/
import Derived.Test.YthcbmbakpjelgaaGreatDoorLSendP3
namespace Go.AE.F
open Go.AE
def cellD (g:GridT) (i:Nat):CellT:=g.2.2.1.getD i ([],0,())
def nbrG (g:GridT) (i:Nat):Bool :=
 cellG (cellD g i) && (!wideC (cellD g i) || (!decide (((i+1:Nat):Int) % g.2.1=0) && decide ((cellD g (i+1)).1=[]) && decide ((cellD g (i+1)).2.1=(cellD g i).2.1)))
def headG (g:GridT):Bool :=
 decide (1<=g.1) && decide (g.1<=24) && decide (2<=g.2.1) && decide (g.2.1<=80) && decide ((g.2.2.1.length:Int)=g.1 * g.2.1) && decide (0<=g.2.2.2.1) && decide (g.2.2.2.1<=g.1 - 1) && decide (0<=g.2.2.2.2.1) && decide (g.2.2.2.2.1<=g.2.1 - 1) &&
  (!g.2.2.2.2.2.1 || decide (g.2.2.2.2.1=g.2.1 - 1)) && decide (0<=g.2.2.2.2.2.2.1) && decide (g.2.2.2.2.2.2.1<=3)
def gridG (g:GridT):Bool:=headG g && (List.range g.2.2.1.length).all (nbrG g)
theorem zD1 {g:GridT}:headG g=true ↔ 1<=g.1/\g.1<=24/\2<=g.2.1/\g.2.1<=80/\(g.2.2.1.length:Int)=g.1 * g.2.1/\0<=g.2.2.2.1/\g.2.2.2.1<=g.1 - 1/\0<=g.2.2.2.2.1/\g.2.2.2.2.1<=g.2.1 - 1 /\
  (g.2.2.2.2.2.1=true->g.2.2.2.2.1=g.2.1 - 1)/\0<=g.2.2.2.2.2.2.1/\g.2.2.2.2.2.2.1<=3:=by
 unfold headG
 simp only [Bool.and_eq_true,decide_eq_true_eq,Bool.or_eq_true,Bool.not_eq_true',and_assoc]
 constructor
 ·rintro ⟨h1,h2,h3,h4,h5,h6,h7,h8,h9,h10,h11⟩
  exact ⟨h1,h2,h3,h4,h5,h6,h7,h8,h9,fun q=>h10.elim (fun z=>by rw [z] at q;cases q) id,h11⟩
 ·rintro ⟨h1,h2,h3,h4,h5,h6,h7,h8,h9,h10,h11⟩
  refine ⟨h1,h2,h3,h4,h5,h6,h7,h8,h9,?_,h11⟩
  cases hb:g.2.2.2.2.2.1 with
  | false=>exact .inl rfl
  | true=>exact .inr (h10 hb)
theorem zD5 {g:GridT} {i:Nat} (h:i < g.2.2.1.length):cellD g i=g.2.2.1[i]:=by unfold cellD;simp [List.getD,h]
theorem zDA {a b:Int} (h1:-9223372036854775808<=a * b) (h2:a * b<=9223372036854775807):pMul .i64 a b=a * b:=zE0 h1 h2
theorem zFP {a b:Int} (h:0<=a):pRem a b=a % b:=by
 unfold pRem;exact Int.tmod_eq_emod_of_nonneg h
theorem zEN {a b:Int} (h1:0<=a) (h2:a<=24) (h3:0<=b) (h4:b<=80):0<=a * b/\a * b<=1920 :=
 ⟨Int.mul_nonneg h1 h3,by have:=Int.mul_le_mul h2 h4 h3 (by omega);omega⟩
theorem zKI {R C:Int} {i n:Nat} (hC:2<=C) (hn:(n:Int)=R * C) (h:¬ ((i+1:Nat):Int) % C=0) (hi:i < n):i+1 < n:=by
 rcases Nat.lt_or_ge (i+1) n with q | q
 ·exact q
 ·exfalso
  have:i+1=n:=by omega
  rw [this,hn] at h
  exact h (Int.mul_emod_left R C)
theorem zNR {C:Int} {i:Nat} (hC:2<=C):decide ((i:Int) % C=C - 1)=decide (((i+1:Nat):Int) % C=0):=by
 have h1:=Int.emod_nonneg (i:Int) (by omega:C≠0)
 have h2:=Int.emod_lt_of_pos (i:Int) (by omega:0 < C)
 have e:((i+1:Nat):Int) % C=((i:Int) % C+1) % C:=by
  rw [show ((i+1:Nat):Int)=(i:Int)+1 by omega,Int.emod_add_emod]
 by_cases h:(i:Int) % C=C - 1
 ·rw [decide_eq_true h,decide_eq_true]
  rw [e,h,show C - 1+1=C by omega,Int.emod_self]
 ·rw [decide_eq_false h,decide_eq_false]
  rw [e,Int.emod_eq_of_lt (by omega) (by omega)]
  omega
theorem zGR (N:Nat) (hN:10 < N) (g:GridT) (hC:2<=g.2.1/\g.2.1<=80) (hn:(g.2.2.1.length:Int)=g.1 * g.2.1) (hl:g.2.2.1.length<=2000) {R:Type} (k:Unit ⊕ (Bool×Unit)->Option R) (f:Nat) (hf:g.2.2.1.length < f) :
  loopP (zAM.l4 N) f (0,g,()) k=if (List.range g.2.2.1.length).all (nbrG g)=true then k (.inl ()) else k (.inr (false,())):=by
 have:=zEV (step:=zAM.l4 N) (fun i=>((i:Int),g,())) (nbrG g) g.2.2.1.length k (.inl ()) (.inr (false,())) (fun i kn hi=>by
   unfold zAM.l4 nbrG
   simp only [zCP]
   have hx:idx g.2.2.1 (i:Int)=some (cellD g i):=by rw [zCT hi,zD5 hi]
   have e2:pAdd .i64 (i:Int) 1=((i+1:Nat):Int):=zC6 (by omega) (by omega)
   rw [pLt_t (by omega),ifB_t,hx,zA2,zG4 N _ hN,zA2,zCZ,e2]
   cases hc:cellG (cellD g i) with
   | false=>simp [ifB_t,zA2,onSum]
   | true =>
    simp only [Bool.not_true,ifB_f,zD6,zA2,Bool.true_and]
    cases hw:wideC (cellD g i) with
    | false=>simp [ifB_f,zA2,onSum,e2]
    | true =>
     simp only [ifB_t,Bool.not_true,Bool.false_or]
     rw [pEq_f (by omega),ifB_f,zFP (by omega),zCX (by omega) (by omega),pEq_d,zNR hC.1]
     by_cases h1:((i+1:Nat):Int) % g.2.1=0
     ·rw [decide_eq_true h1,ifB_t,zA2];simp [onSum]
     ·have hi1:=zKI hC.1 hn h1 hi
      have hx1:idx g.2.2.1 (((i+1:Nat):Int))=some (cellD g (i+1)):=by rw [zCT hi1,zD5 hi1]
      rw [decide_eq_false h1,ifB_f,hx1,zA2]
      cases he:(cellD g (i+1)).1 with
      | cons a l =>
       rw [pGt_t (by simp only [List.length_cons];omega),ifB_t,zA2];simp [onSum]
      | nil =>
       rw [show pGt ((([]:List Int).length:Nat):Int) 0=false from rfl,ifB_f,zA2,pNe_d]
       by_cases h2:(cellD g (i+1)).2.1=(cellD g i).2.1
       ·rw [decide_eq_true h2,Bool.not_true,ifB_f,zA2];simp [onSum,e2]
       ·rw [decide_eq_false h2,Bool.not_false,ifB_t,zA2];simp [onSum]) (fun kn=>by
   unfold zAM.l4
   simp only [zCP]
   rw [pLt_f (by omega),ifB_f]) _ 0 f rfl (by omega) hf
 refine Eq.trans this ?_
 rw [List.drop_zero]
theorem zEG (N:Nat) (g:GridT) (hN:2000 < N) (hl:g.2.2.1.length<=1048576):zAM N g=some (gridG g):=by
 unfold zAM gridG
 have hsz:zC7 N g.1 g.2.1=some (decide (1<=g.1) && decide (g.1<=24) && decide (2<=g.2.1) && decide (g.2.1<=80)):=by
  unfold zC7
  simp only [zD4,zA2,pGe_d,pLe_d]
 rw [hsz,zA2,zCZ]
 by_cases h0:(decide (1<=g.1) && decide (g.1<=24) && decide (2<=g.2.1) && decide (g.2.1<=80))=true
 ·have h0':=h0
  simp only [Bool.and_eq_true,decide_eq_true_eq] at h0'
  obtain ⟨⟨⟨a1,a2⟩,a3⟩,a4⟩:=h0'
  have hm:=zEN (a:=g.1) (b:=g.2.1) (by omega) (by omega) (by omega) (by omega)
  rw [h0]
  simp only [Bool.not_true,ifB_f,zA2,zDH,zD4,pLt_d,pGe_d,pGt_d,pNe_d,zCP]
  rw [zDA (by omega) (by omega),zCX (by omega) (by omega)]
  by_cases hh:headG g=true
  ·obtain ⟨b1,b2,b3,b4,b5,b6,b7,b8,b9,b10,b11,b12⟩:=zD1.1 hh
   have hz:(((((((!decide ((g.2.2.1.length:Int)=g.1 * g.2.1)) || decide (g.2.2.2.1 < 0)) || decide (g.2.2.2.1 >= g.1)) || decide (g.2.2.2.2.1 < 0)) || decide (g.2.2.2.2.1 >= g.2.1)) || (g.2.2.2.2.2.1 && !decide (g.2.2.2.2.1=g.2.1 - 1))) || decide (g.2.2.2.2.2.2.1 < 0) || decide (g.2.2.2.2.2.2.1 > 3))=false:=by
    rw [decide_eq_true b5,decide_eq_false (by omega:¬ g.2.2.2.1 < 0),decide_eq_false (by omega:¬ g.2.2.2.1 >= g.1),decide_eq_false (by omega:¬ g.2.2.2.2.1 < 0),decide_eq_false (by omega:¬ g.2.2.2.2.1 >= g.2.1),decide_eq_false (by omega:¬ g.2.2.2.2.2.2.1 < 0),decide_eq_false (by omega:¬ g.2.2.2.2.2.2.1 > 3)]
    cases hb:g.2.2.2.2.2.1 with
    | false=>simp
    | true=>simp [b10 hb]
   rw [hz,ifB_f,zGR N (by omega) g ⟨a3,a4⟩ b5 (by omega) _ N (by omega),hh,Bool.true_and]
   split
   ·rename_i h;rw [h];rfl
   ·rename_i h;simp only [Bool.not_eq_true] at h;rw [h];rfl
  ·have hz:(((((((!decide ((g.2.2.1.length:Int)=g.1 * g.2.1)) || decide (g.2.2.2.1 < 0)) || decide (g.2.2.2.1 >= g.1)) || decide (g.2.2.2.2.1 < 0)) || decide (g.2.2.2.2.1 >= g.2.1)) || (g.2.2.2.2.2.1 && !decide (g.2.2.2.2.1=g.2.1 - 1))) || decide (g.2.2.2.2.2.2.1 < 0) || decide (g.2.2.2.2.2.2.1 > 3))=true:=by
    rw [← Bool.not_eq_false]
    intro hz
    apply hh
    simp only [Bool.or_eq_false_iff,Bool.not_eq_false',decide_eq_true_eq,decide_eq_false_iff_not] at hz
    obtain ⟨⟨⟨⟨⟨⟨⟨c1,c2⟩,c3⟩,c4⟩,c5⟩,c6⟩,c7⟩,c8⟩:=hz
    refine zD1.2 ⟨a1,a2,a3,a4,c1,by omega,by omega,by omega,by omega,fun hb=>?_,by omega,by omega⟩
    rw [hb] at c6
    simpa using c6
   rw [hz,ifB_t]
   simp only [Bool.not_eq_true] at hh
   rw [hh];rfl
 ·have hh:headG g=false:=by
   rw [← Bool.not_eq_true]
   intro q
   obtain ⟨b1,b2,b3,b4,_⟩:=zD1.1 q
   apply h0
   rw [decide_eq_true b1,decide_eq_true b2,decide_eq_true b3,decide_eq_true b4];rfl
  simp only [Bool.not_eq_true] at h0
  rw [h0,hh]
  simp [ifB_t,zA2]
theorem zGK (N:Nat) (g:GridT) (hC:2<=g.2.1/\g.2.1<=80) (hn:(g.2.2.1.length:Int)=g.1 * g.2.1) (hl:g.2.2.1.length<=2000) (hc:∀ x∈g.2.2.1,x.1.length<=1048576/\x.1.length+20 < N) {R:Type} (k:Unit ⊕ (Bool×Unit)->Option R) (f:Nat) (hf:g.2.2.1.length < f) :
  loopP (zAL.l4 N) f (g.2.2.1,(g.2.2.1.length:Int),0,g,()) k=if (List.range g.2.2.1.length).all (nbrG g)=true then k (.inl ()) else k (.inr (false,())):=by
 have:=zEV (step:=zAL.l4 N) (fun i=>(g.2.2.1,(g.2.2.1.length:Int),(i:Int),g,())) (nbrG g) g.2.2.1.length k (.inl ()) (.inr (false,())) (fun i kn hi=>by
   unfold zAL.l4 nbrG
   simp only []
   have hx:idx g.2.2.1 (i:Int)=some (cellD g i):=by rw [zCT hi,zD5 hi]
   have hm:cellD g i∈g.2.2.1:=by rw [zD5 hi];exact List.getElem_mem hi
   have e2:pAdd .i64 (i:Int) 1=((i+1:Nat):Int):=zC6 (by omega) (by omega)
   rw [pLt_t (by omega),ifB_t,hx,zA2,zFN N _ (hc _ hm).1 (hc _ hm).2,zA2,zCZ,e2]
   cases hc1:cellG (cellD g i) with
   | false=>simp [ifB_t,zA2,onSum]
   | true =>
    simp only [Bool.not_true,ifB_f,zEC N _ (by have:=(hc _ hm).2;omega),zA2,Bool.true_and,zCZ]
    cases hw:wideC (cellD g i) with
    | false=>simp [ifB_t,zA2,onSum,e2]
    | true =>
     simp only [Bool.not_true,ifB_f,Bool.false_or]
     rw [pEq_f (by omega),ifB_f,zFP (by omega),pEq_d]
     by_cases h1:((i+1:Nat):Int) % g.2.1=0
     ·rw [decide_eq_true h1,ifB_t,zA2];simp [onSum]
     ·have hi1:=zKI hC.1 hn h1 hi
      have hx1:idx g.2.2.1 (((i+1:Nat):Int))=some (cellD g (i+1)):=by rw [zCT hi1,zD5 hi1]
      rw [decide_eq_false h1,ifB_f,hx1,zA2,zF3,zA2]
      cases he:decide ((cellD g (i+1)).1=[]) with
      | false=>simp [ifB_t,zA2,onSum]
      | true =>
       simp only [Bool.not_true,ifB_f,zA2,pNe_d]
       by_cases h2:(cellD g (i+1)).2.1=(cellD g i).2.1
       ·rw [decide_eq_true h2,Bool.not_true,ifB_f,zA2];simp [onSum,e2]
       ·rw [decide_eq_false h2,Bool.not_false,ifB_t,zA2];simp [onSum]) (fun kn=>by
   unfold zAL.l4
   simp only []
   rw [pLt_f (by omega),ifB_f]) _ 0 f rfl (by omega) hf
 refine Eq.trans this ?_
 rw [List.drop_zero]
theorem zEF (N:Nat) (g:GridT) (hN:2100 < N) (hl:g.2.2.1.length<=1048576) (hc:∀ x∈g.2.2.1,x.1.length<=1048576/\x.1.length+20 < N):zAL N g=some (gridG g):=by
 unfold zAL gridG
 have hr:zCM N g.1=some (decide (1<=g.1) && decide (g.1<=24)):=by unfold zCM;rw [zCQ,zA2]
 have hcl:zCN N g.2.1=some (decide (2<=g.2.1) && decide (g.2.1<=80)):=by unfold zCN;rw [zCQ,zA2]
 have no:∀ {b:Bool},(headG g=true->b=true)->b=false->(headG g && (List.range g.2.2.1.length).all (nbrG g))=false:=fun {b} h1 h2=>by
  cases hq:headG g with
  | false=>rfl
  | true=>rw [h1 hq] at h2;cases h2
 rw [hr,zA2,zCZ]
 cases k1:(decide (1<=g.1) && decide (g.1<=24)) with
 | false =>
  rw [Bool.not_false,ifB_t,no (fun q=>by have:=zD1.1 q;simp [this.1,this.2.1]) k1]
 | true =>
 rw [Bool.not_true,ifB_f,hcl,zA2,zCZ]
 cases k2:(decide (2<=g.2.1) && decide (g.2.1<=80)) with
 | false =>
  rw [Bool.not_false,ifB_t,no (fun q=>by have:=zD1.1 q;simp [this.2.2.1,this.2.2.2.1]) k2]
 | true =>
 simp only [Bool.and_eq_true,decide_eq_true_eq] at k1 k2
 have hm:=zEN (a:=g.1) (b:=g.2.1) (by omega) (by omega) (by omega) (by omega)
 rw [Bool.not_true,ifB_f,show zBE N g.2.2.1=some (pLen g.2.2.1) from rfl,zA2,zCP,zDA (by omega) (by omega),pNe_d]
 cases k3:decide ((g.2.2.1.length:Int)=g.1 * g.2.1) with
 | false =>
  rw [Bool.not_false,ifB_t,no (fun q=>by have:=zD1.1 q;simp [this.2.2.2.2.1]) k3]
 | true =>
 have k3':=of_decide_eq_true k3
 rw [Bool.not_true,ifB_f,zCQ,zA2,zCZ,zCX (by omega) (by omega)]
 cases k4:(decide (0<=g.2.2.2.1) && decide (g.2.2.2.1<=g.1 - 1)) with
 | false =>
  rw [Bool.not_false,ifB_t,no (fun q=>by obtain ⟨_,_,_,_,_,b6,b7,_⟩:=zD1.1 q;simp [b6,b7]) k4]
 | true =>
 rw [Bool.not_true,ifB_f,zCQ,zA2,zCZ,zCX (by omega) (by omega)]
 cases k5:(decide (0<=g.2.2.2.2.1) && decide (g.2.2.2.2.1<=g.2.1 - 1)) with
 | false =>
  rw [Bool.not_false,ifB_t,no (fun q=>by obtain ⟨_,_,_,_,_,_,_,b8,b9,_⟩:=zD1.1 q;simp [b8,b9]) k5]
 | true =>
 rw [Bool.not_true,ifB_f]
 simp only [Bool.and_eq_true,decide_eq_true_eq] at k4 k5
 have rest:(bindO (zBA N g.2.2.2.2.2.2.1 0 3) fun y44=>ifB (pNot y44) (some false) (loopP (zAL.l4 N) N (g.2.2.1,(g.2.2.1.length:Int),0,g,()) (onSum (fun d=>some true) (fun d=>let x60:=d.1;some x60)))) =
   some ((decide (0<=g.2.2.2.2.2.2.1) && decide (g.2.2.2.2.2.2.1<=3)) && (List.range g.2.2.1.length).all (nbrG g)):=by
  rw [zCQ,zA2,zCZ]
  cases k7:(decide (0<=g.2.2.2.2.2.2.1) && decide (g.2.2.2.2.2.2.1<=3)) with
  | false=>rfl
  | true =>
   rw [Bool.not_true,ifB_f,zGK N g k2 k3' (by omega) hc _ N (by omega),Bool.true_and]
   split
   ·rename_i h;rw [h];rfl
   ·rename_i h;simp only [Bool.not_eq_true] at h;rw [h];rfl
 cases k6:g.2.2.2.2.2.1 with
 | true =>
  rw [ifB_t,pNe_d]
  cases k8:decide (g.2.2.2.2.1=g.2.1 - 1) with
  | false =>
   rw [Bool.not_false,ifB_t,no (fun q=>by obtain ⟨_,_,_,_,_,_,_,_,_,b10,_⟩:=zD1.1 q;simp [b10 k6]) k8]
  | true =>
   rw [Bool.not_true,ifB_f]
   refine Eq.trans rest ?_
   congr 2
   cases hq:headG g with
   | true=>obtain ⟨_,_,_,_,_,_,_,_,_,_,b11,b12⟩:=zD1.1 hq;simp [b11,b12]
   | false =>
    rw [← Bool.not_eq_true]
    intro z
    simp only [Bool.and_eq_true,decide_eq_true_eq] at z
    have:headG g=true:=zD1.2 ⟨k1.1,k1.2,k2.1,k2.2,k3',k4.1,k4.2,k5.1,k5.2,fun _=>of_decide_eq_true k8,z.1,z.2⟩
    rw [this] at hq;cases hq
 | false =>
  rw [ifB_f]
  refine Eq.trans rest ?_
  congr 2
  cases hq:headG g with
  | true=>obtain ⟨_,_,_,_,_,_,_,_,_,_,b11,b12⟩:=zD1.1 hq;simp [b11,b12]
  | false =>
   rw [← Bool.not_eq_true]
   intro z
   simp only [Bool.and_eq_true,decide_eq_true_eq] at z
   have:headG g=true:=zD1.2 ⟨k1.1,k1.2,k2.1,k2.2,k3',k4.1,k4.2,k5.1,k5.2,(fun q=>by rw [k6] at q;cases q),z.1,z.2⟩
   rw [this] at hq;cases hq
end Go.AE.F
