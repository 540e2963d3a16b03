/- Plain laws of those functions. -/
import Derived.Test.YthcbmbakpjelgaaGreatDoorLSendP2
namespace Go.AE.F
open Go.AE
def ctlG (a:Int):Bool:=decide (a < 32) || decide (a=127)
def wideG (a:Int):Bool:=(decide (4352<=a) && decide (a<=4447)) || (decide (11904<=a) && decide (a<=42191)) || (decide (44032<=a) && decide (a<=55203)) || (decide (63744<=a) && decide (a<=64255)) || (decide (65281<=a) && decide (a<=65376)) || (decide (127744<=a) && decide (a<=129791))
def wG (a:Int):Int:=if (!ptG a || (decide (768<=a) && decide (a<=879)))=true then 0 else if (ctlG a || wideG a)=true then 2 else 1
theorem zDR (N:Nat) (a:Int):zC3 N a=some (wG a):=by
 unfold zC3 wG
 simp only [zDI,zDH,zD4,zA2,zCZ,pGe_d,pLe_d,pEq_d,pLt_d]
 unfold ctlG wideG
 simp only [Bool.or_assoc,ge_iff_le]
 cases (!ptG a || (decide (768<=a) && decide (a<=879))) with
 | true=>rfl
 | false=>rw [ifB_f,zNQ];rfl
theorem zDE (N:Nat) (a:Int):zBT N a=some (ctlG a):=by
 unfold zBT ctlG
 simp only [zDH,zA2,pLt_d,pEq_d]
theorem zDB (N:Nat) (hN:10 < N) (a:Int):zAW N a=some (wG a):=by
 obtain ⟨M,rfl⟩:∃ M,N=M+8:=⟨N - 8,by omega⟩
 unfold zAW wG
 simp only [zE4,zCQ,zDE,zDH,zA2,zCZ]
 by_cases h0:(!ptG a || (decide (768<=a) && decide (a<=879)))=true
 ·rw [h0,ifB_t,if_pos rfl]
 have h0':(!ptG a || (decide (768<=a) && decide (a<=879)))=false:=by simpa using h0
 rw [h0',ifB_f,if_neg (by simp)]
 cases hc:ctlG a with
 | true=>rfl
 | false =>
  rw [ifB_f,Bool.false_or]
  have st:∀ (i:Nat) (lo hi:Int) (n:Nat) (k:Unit ⊕ (Int×Unit)->Option Int),i < 6->([(4352,(4447,((),()))),(11904,(42191,((),()))),(44032,(55203,((),()))),(63744,(64255,((),()))),(65281,(65376,((),()))),(127744,(129791,((),())))]:List (Int×Int×Unit×Unit))[i]?=some (lo,(hi,((),()))) ->
    loopP (zAW.l6 (M+8)) (n+1) (a,6,(i:Int),[(4352,(4447,((),()))),(11904,(42191,((),()))),(44032,(55203,((),()))),(63744,(64255,((),()))),(65281,(65376,((),()))),(127744,(129791,((),())))],()) k =
    if (decide (lo<=a) && decide (a<=hi))=true then k (.inr (2,())) else loopP (zAW.l6 (M+8)) n (a,6,((i+1:Nat):Int),[(4352,(4447,((),()))),(11904,(42191,((),()))),(44032,(55203,((),()))),(63744,(64255,((),()))),(65281,(65376,((),()))),(127744,(129791,((),())))],()) k:=fun i lo hi n k hi6 hg=>by
   rw [zCO]
   unfold zAW.l6
   simp only []
   have hix:idx ([(4352,(4447,((),()))),(11904,(42191,((),()))),(44032,(55203,((),()))),(63744,(64255,((),()))),(65281,(65376,((),()))),(127744,(129791,((),())))]:List (Int×Int×Unit×Unit)) (i:Int)=some (lo,(hi,((),()))):=by
    unfold idx
    rw [if_pos (by omega),Int.toNat_natCast,hg]
   rw [pLt_t (by omega),ifB_t,hix,zA2,zA2,zCQ,zA2,zC6 (by omega) (by omega)]
   cases (decide (lo<=a) && decide (a<=hi)) <;> rfl
  refine (st 0 4352 4447 _ _ (by omega) rfl).trans ?_
  rw [st 1 11904 42191 _ _ (by omega) rfl,st 2 44032 55203 _ _ (by omega) rfl,st 3 63744 64255 _ _ (by omega) rfl,st 4 65281 65376 _ _ (by omega) rfl,st 5 127744 129791 _ _ (by omega) rfl]
  unfold wideG
  cases (decide (4352<=a) && decide (a<=4447)) with
  | true=>rfl
  | false =>
  cases (decide (11904<=a) && decide (a<=42191)) with
  | true=>rfl
  | false =>
  cases (decide (44032<=a) && decide (a<=55203)) with
  | true=>rfl
  | false =>
  cases (decide (63744<=a) && decide (a<=64255)) with
  | true=>rfl
  | false =>
  cases (decide (65281<=a) && decide (a<=65376)) with
  | true=>rfl
  | false =>
  cases (decide (127744<=a) && decide (a<=129791)) with
  | true=>rfl
  | false=>rfl
theorem zET (a:Int):wG a=0 \/ wG a=1 \/ wG a=2:=by
 unfold wG;split
 ·exact .inl rfl
 ·split
  ·exact .inr (.inr rfl)
  ·exact .inr (.inl rfl)
def stepW (C w:Int) (rc:Int×Int):Int×Int:=if w=0 then rc else if C - rc.2 < w then (rc.1+1,w) else (rc.1,rc.2+w)
def shG (p:Int):List Int:=if ctlG p=true then [94,pXor .i64 p 64] else [p]
def foldW (C:Int) (l:List Int) (rc:Int×Int):Int×Int:=l.foldl (fun rc s=>stepW C (wG s) rc) rc
def ptM (C p:Int) (rc:Int×Int):Int×Int:=if p=10 then (rc.1+1,0) else foldW C (shG p) rc
def spotM (C:Int) (rc:Int×Int):Int×Int×Unit:=if rc.2=C then (rc.1+1,(0,())) else (rc.1,(rc.2,()))
def rcOk (C:Int) (rc:Int×Int):Prop:=0<=rc.1/\0<=rc.2/\rc.2<=C
theorem zHE {C:Int} (hC:2<=C) (p:Int) {rc:Int×Int} (h:rcOk C rc):rcOk C (stepW C (wG p) rc)/\rc.1<=(stepW C (wG p) rc).1/\(stepW C (wG p) rc).1<=rc.1+1/\(rc.1 < (stepW C (wG p) rc).1 \/ ((stepW C (wG p) rc).1=rc.1/\rc.2<=(stepW C (wG p) rc).2)):=by
 obtain ⟨h1,h2,h3⟩:=h
 have hw:=zET p
 unfold stepW
 by_cases h0:wG p=0
 ·rw [if_pos h0];exact ⟨⟨h1,h2,h3⟩,by omega,by omega,.inr ⟨rfl,by omega⟩⟩
 rw [if_neg h0]
 by_cases hl:C - rc.2 < wG p
 ·rw [if_pos hl]
  exact ⟨⟨by show 0<=rc.1+1;omega,by show 0<=wG p;omega,by show wG p<=C;omega⟩,by show rc.1<=rc.1+1;omega,by show rc.1+1<=rc.1+1;omega,.inl (by show rc.1 < rc.1+1;omega)⟩
 ·rw [if_neg hl]
  exact ⟨⟨h1,by show 0<=rc.2+wG p;omega,by show rc.2+wG p<=C;omega⟩,by show rc.1<=rc.1;omega,by show rc.1<=rc.1+1;omega,.inr ⟨rfl,by show rc.2<=rc.2+wG p;omega⟩⟩
theorem zK6 (p:Int):(shG p).length<=2:=by unfold shG;split <;> simp
theorem zP3 {C:Int} (hC:2<=C) (p:Int) {rc:Int×Int} (h:rcOk C rc):rcOk C (ptM C p rc)/\rc.1<=(ptM C p rc).1/\(ptM C p rc).1<=rc.1+2/\(rc.1 < (ptM C p rc).1 \/ ((ptM C p rc).1=rc.1/\rc.2<=(ptM C p rc).2)):=by
 unfold ptM
 by_cases h10:p=10
 ·rw [if_pos h10]
  exact ⟨⟨by show 0<=rc.1+1;have:=h.1;omega,by show (0:Int)<=0;omega,by show (0:Int)<=C;omega⟩,by show rc.1<=rc.1+1;omega,by show rc.1+1<=rc.1+2;omega,.inl (by show rc.1 < rc.1+1;omega)⟩
 rw [if_neg h10]
 unfold shG foldW
 cases ctlG p with
 | false =>
  rw [if_neg (by simp),List.foldl_cons,List.foldl_nil]
  obtain ⟨a1,a2,a3,a4⟩:=zHE hC p h
  exact ⟨a1,a2,by omega,a4⟩
 | true =>
  rw [if_pos rfl,List.foldl_cons,List.foldl_cons,List.foldl_nil]
  obtain ⟨a1,a2,a3,a4⟩:=zHE hC 94 h
  obtain ⟨b1,b2,b3,b4⟩:=zHE hC (pXor .i64 p 64) a1
  refine ⟨b1,by omega,by omega,?_⟩
  rcases a4 with a4 | ⟨a4,a5⟩
  ·exact .inl (by omega)
  ·rcases b4 with b4 | ⟨b4,b5⟩
   ·exact .inl (by omega)
   ·exact .inr ⟨by omega,by omega⟩
abbrev CellT:=List Int×Int×Unit
abbrev PenT:=Int×List (List CellT)×Int×Unit
end Go.AE.F
namespace Go.AE.F
open Go.AE
abbrev GridT:=Int×Int×List CellT×Int×Int×Bool×Int×Unit
def okP (i:Nat) (p:Int):Bool:=ptG p && !ctlG p && ((decide (i=0)) != decide (wG p=0))
def wideC (c:CellT):Bool:=match c.1 with | []=>false | p::_=>decide (wG p=2)
def cellG (c:CellT):Bool:=decide (c.1.length<=4) && decide (0<=c.2.1) && decide (c.2.1<=3) && (List.range c.1.length).all fun i=>okP i (c.1.getD i 0)
theorem zEV {D E R:Type} {step:D->(D->Option R)->(E->Option R)->Option R} (mk:Nat->D) (p:Nat->Bool) (n:Nat) (k:E->Option R) (xe xb:E)
  (hs:∀ i kn,i < n->step (mk i) kn k=if p i=true then kn (mk (i+1)) else k xb) (he:∀ kn,step (mk n) kn k=k xe) :
  ∀ (m i f:Nat),n - i=m->i<=n->m < f->loopP step f (mk i) k=if ((List.range n).drop i).all p=true then k xe else k xb:=by
 intro m
 induction m with
 | zero =>
  intro i f hm hi hf
  obtain ⟨f,rfl⟩:=zCU hf
  have:i=n:=by omega
  subst this
  rw [zCO,he,List.drop_eq_nil_of_le (by simp)]
  rfl
 | succ m ih =>
  intro i f hm hi hf
  obtain ⟨f,rfl⟩:=zCU hf
  rw [zCO,hs i _ (by omega),zDX (by simp;omega:i < (List.range n).length),List.all_cons,List.getElem_range]
  cases hp:p i with
  | false=>simp
  | true =>
   simp only [if_true,Bool.true_and]
   exact ih (i+1) f (by omega) (by omega) (by omega)
theorem zEB {l:List Int} {i:Nat} (h:i < l.length):l.getD i 0=l[i]:=by simp [List.getD,h]
theorem zK0 (a b:Bool):(a != b)=!(a == b):=by cases a <;> cases b <;> rfl
theorem zG4 (N:Nat) (c:CellT) (hN:10 < N):zB5 N c=some (cellG c):=by
 unfold zB5 cellG
 simp only [zCP,zDH,zA2,pGt_d,pLt_d]
 by_cases h1:((decide ((c.1.length:Int) > 4) || decide (c.2.1 < 0)) || decide (c.2.1 > 3))=true
 ·rw [h1,ifB_t]
  simp only [Bool.or_eq_true,decide_eq_true_eq] at h1
  rcases h1 with (h1 | h1) | h1
  ·rw [decide_eq_false (by omega:¬ c.1.length<=4)];simp
  ·rw [decide_eq_false (by omega:¬ 0<=c.2.1)];simp
  ·rw [decide_eq_false (by omega:¬ c.2.1<=3)];simp
 ·have h1':=h1
  simp only [Bool.not_eq_true] at h1
  rw [h1,ifB_f]
  simp only [Bool.or_eq_true,decide_eq_true_eq,not_or] at h1'
  obtain ⟨⟨a1,a2⟩,a3⟩:=h1'
  rw [decide_eq_true (by omega:c.1.length<=4),decide_eq_true (by omega:0<=c.2.1),decide_eq_true (by omega:c.2.1<=3)]
  simp only [Bool.true_and]
  have:=zEV (step:=zB5.l4 N) (fun i=>((i:Int),c,())) (fun i=>okP i (c.1.getD i 0)) c.1.length (onSum (fun d=>some true) (fun d=>let x35:=d.1;some x35)) (.inl ()) (.inr (false,())) (fun i kn hi=>by
    unfold zB5.l4
    simp only [zCP]
    rw [pLt_t (by omega),ifB_t,zCT hi,zA2,zDI,zA2,zEB hi]
    simp only [zDR,zA2,zDH,zCZ,pBeq,pEq_d,pLt_d]
    have e:((i:Int)=0)=(i=0):=by simp
    have e2:pAdd .i64 (i:Int) 1=((i+1:Nat):Int):=zC6 (by omega) (by omega)
    rw [e2]
    unfold okP ctlG
    rw [zK0]
    simp only [e]
    cases ptG c.1[i] <;> cases (decide (i=0) == decide (wG c.1[i]=0)) <;> cases decide (c.1[i] < 32) <;> cases decide (c.1[i]=127) <;> rfl) (fun kn=>by
    unfold zB5.l4
    simp only [zCP]
    rw [pLt_f (by omega),ifB_f]) _ 0 N rfl (by omega) (by omega)
  refine Eq.trans this ?_
  rw [List.drop_zero]
  split
  ·rename_i h;rw [h];rfl
  ·rename_i h;simp only [Bool.not_eq_true] at h;rw [h];rfl
theorem zFN (N:Nat) (c:CellT) (hl:c.1.length<=1048576) (hN:c.1.length+20 < N):zAR N c=some (cellG c):=by
 unfold zAR cellG
 simp only [zCP]
 have:=zEV (step:=zAR.l2 N) (fun i=>(c.1,(c.1.length:Int),(i:Int),c,())) (fun i=>okP i (c.1.getD i 0)) c.1.length (onSum (fun d=>let x40:=d.1;bindO (ifB (pLe (pLen x40.1) 4) (bindO (zBA N x40.2.1 0 3) fun y42=>some y42) (some false)) fun y41=>some y41) (fun d=>let x43:=d.1;some x43)) (.inl (c,())) (.inr (false,())) (fun i kn hi=>by
   unfold zAR.l2
   simp only []
   rw [pLt_t (by omega),ifB_t,zCT hi,zA2,zE4,zA2,zEB hi]
   simp only [zDE,zDB N (by omega),zA2,zDH,zCZ,pBeq,pEq_d,pGt_d]
   have e:((i:Int)=0)=(i=0):=by simp
   have e2:pAdd .i64 (i:Int) 1=((i+1:Nat):Int):=zC6 (by omega) (by omega)
   have hw:=zET c.1[i]
   have e3:decide (wG c.1[i] > 0)=!decide (wG c.1[i]=0):=by
    by_cases hz:wG c.1[i]=0
    ·rw [decide_eq_true hz,decide_eq_false (by omega)];rfl
    ·rw [decide_eq_false hz,decide_eq_true (by omega)];rfl
   rw [e2,e3]
   unfold okP
   rw [zK0]
   simp only [e]
   cases ptG c.1[i] <;> cases decide (i=0) <;> cases decide (wG c.1[i]=0) <;> cases ctlG c.1[i] <;> rfl) (fun kn=>by
   unfold zAR.l2
   simp only []
   rw [pLt_f (by omega),ifB_f]) _ 0 N rfl (by omega) (by omega)
 refine Eq.trans this ?_
 rw [List.drop_zero]
 split
 ·rename_i h
  rw [h]
  show (bindO (ifB (pLe (pLen c.1) 4) (bindO (zBA N c.2.1 0 3) fun y42=>some y42) (some false)) fun y41=>some y41)=_
  simp only [zCQ,zA2,zD4,pLe_d,zCP,Bool.and_true]
  have:decide ((c.1.length:Int)<=4)=decide (c.1.length<=4):=by
   by_cases q:c.1.length<=4
   ·rw [decide_eq_true q,decide_eq_true (by omega)]
   ·rw [decide_eq_false q,decide_eq_false (by omega)]
  rw [this,Bool.and_assoc]
 ·rename_i h;simp only [Bool.not_eq_true] at h;rw [h];simp;rfl
theorem zD6 (N:Nat) (c:CellT):zC2 N c=some (wideC c):=by
 unfold zC2 wideC
 obtain ⟨l,a,u⟩:=c
 cases l with
 | nil=>rfl
 | cons p l =>
  simp only [zCP]
  rw [pGt_t (by simp only [List.length_cons];omega),ifB_t,show idx (p::l) 0=some p from rfl,zA2,zDR,zA2,zA2,pEq_d]
theorem zEC (N:Nat) (c:CellT) (hN:10 < N):zBP N c=some (wideC c):=by
 unfold zBP wideC
 obtain ⟨l,a,u⟩:=c
 cases l with
 | nil=>rfl
 | cons p l =>
  simp only [zCP]
  rw [pGt_t (by simp only [List.length_cons];omega),ifB_t,show idx (p::l) 0=some p from rfl,zA2,zDB N hN,zA2,zA2,pEq_d]
theorem zF3 (N:Nat) (c:CellT):zB0 N c=some (decide (c.1=[])):=by
 unfold zB0
 rw [pEq_d,zCP]
 obtain ⟨l,a,u⟩:=c
 cases l with
 | nil=>rfl
 | cons p l=>simp;omega
end Go.AE.F
