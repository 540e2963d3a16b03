/- Plain laws of those functions. -/
import Derived.Test.YthcbmbakpjelgaaGreatDoorLSendP10
namespace Go.AE.F
open Go.AE
abbrev UnitT:=List Int×Int
def cellU (u:UnitT):CellT:=(u.1,u.2,())
def uC (u:UnitT):List CellT:=if wideC (cellU u)=true then [cellU u,([],u.2,())] else [cellU u]
def rowUC (us:List UnitT):List CellT:=us.flatMap uC
def wR (us:List UnitT):Nat:=(rowUC us).length
def rowPad (C:Nat) (us:List UnitT):List CellT:=rowUC us ++ List.replicate (C - wR us) ([],0,())
abbrev LaidT:=List (List UnitT)×List UnitT
def modU (s:Int) (u:UnitT):UnitT:=if u.1.length < 4 then (u.1 ++ [s],u.2) else u
def modLast (s:Int) (us:List UnitT):List UnitT:=match us.getLast? with | none=>us | some u=>us.dropLast ++ [modU s u]
def addU (C:Nat) (s a:Int) (S:LaidT):LaidT :=
 if wG s=0 then (S.1,modLast s S.2) else if C - wR S.2 < (wG s).toNat then (S.1 ++ [S.2],[([s],a)]) else (S.1,S.2 ++ [([s],a)])
def pointU (C:Nat) (p a:Int) (S:LaidT):LaidT:=if p=10 then (S.1 ++ [S.2],[]) else (shG p).foldl (fun S s=>addU C s a S) S
theorem zFM (us:List UnitT) (u:UnitT):rowUC (us ++ [u])=rowUC us ++ uC u:=by unfold rowUC;rw [List.flatMap_append];simp
theorem zE5 (us:List UnitT) (u:UnitT):wR (us ++ [u])=wR us+(uC u).length:=by unfold wR;rw [zFM,List.length_append]
theorem zD7 (s:Int) (us:List UnitT) (u:UnitT):modLast s (us ++ [u])=us ++ [modU s u]:=by unfold modLast;simp
theorem zE2 (s:Int):modLast s []=[]:=rfl
theorem zIZ (s:Int) (u:UnitT) (h:u.1≠[]):wideC (cellU (modU s u))=wideC (cellU u):=by
 unfold modU
 split
 ·obtain ⟨l,a⟩:=u
  cases l with
  | nil=>exact absurd rfl h
  | cons p l=>rfl
 ·rfl
theorem zHU (s a:Int) (h:wG s≠0):(uC ([s],a)).length=(wG s).toNat:=by
 have hw:=zET s
 have e:wideC (cellU ([s],a))=decide (wG s=2):=rfl
 unfold uC
 rw [e]
 by_cases h2:wG s=2
 ·rw [decide_eq_true h2,if_pos rfl,h2];rfl
 ·rw [decide_eq_false h2,if_neg (by simp)]
  have:wG s=1:=by omega
  rw [this];rfl
theorem zJQ (s:Int) (u:UnitT) (h:u.1≠[]):(uC (modU s u)).length=(uC u).length:=by
 unfold uC;rw [zIZ s u h];split <;> rfl
def LaidOk (C:Nat) (S:LaidT):Prop:=(∀ us∈S.1,wR us<=C/\∀ u∈us,u.1≠[])/\wR S.2<=C/\∀ u∈S.2,u.1≠[]
theorem zF2 (s:Int) (us:List UnitT) (h:∀ u∈us,u.1≠[]):wR (modLast s us)=wR us:=by
 rcases List.eq_nil_or_concat us with rfl | ⟨l,u,rfl⟩
 ·rfl
 ·simp only [List.concat_eq_append] at *
  rw [zD7,zE5,zE5,zJQ s u (h u (by simp))]
theorem zIH {C:Nat} (hC:2<=C) (s a:Int) {S:LaidT} (h:LaidOk C S):LaidOk C (addU C s a S):=by
 obtain ⟨h1,h2,h3⟩:=h
 have hw:=zET s
 unfold addU
 by_cases h0:wG s=0
 ·rw [if_pos h0]
  refine ⟨h1,by show wR (modLast s S.2)<=C;rw [zF2 s _ h3];exact h2,fun u hu=>?_⟩
  rcases List.eq_nil_or_concat S.2 with e | ⟨l,x,e⟩
  ·have hu:u∈modLast s S.2:=hu
   rw [e,zE2] at hu;cases hu
  ·have hu:u∈modLast s S.2:=hu
   rw [List.concat_eq_append] at e
   rw [e,zD7] at hu
   rw [e] at h3
   rcases List.mem_append.1 hu with z | z
   ·exact h3 u (List.mem_append_left _ z)
   ·have:u=modU s x:=by simpa using z
    subst this
    unfold modU
    split
    ·simp
    ·exact h3 x (by simp)
 ·rw [if_neg h0]
  have e1:=zHU s a h0
  split
  ·refine ⟨fun us hus=>?_,?_,fun u hu=>?_⟩
   ·rcases List.mem_append.1 hus with z | z
    ·exact h1 us z
    ·have:us=S.2:=by simpa using z
     subst this;exact ⟨h2,h3⟩
   ·show wR ([] ++ [([s],a)])<=C
    rw [zE5,e1];show 0+_<=C;omega
   ·have:u=([s],a):=by simpa using hu
    subst this;simp
  ·refine ⟨h1,by show wR (S.2 ++ [([s],a)])<=C;rw [zE5,e1];omega,fun u hu=>?_⟩
   rcases List.mem_append.1 hu with z | z
   ·exact h3 u z
   ·have:u=([s],a):=by simpa using z
    subst this;simp
theorem zMC {C:Nat} {S:LaidT} (h:LaidOk C S):LaidOk C (S.1 ++ [S.2],[]):=by
 obtain ⟨h1,h2,h3⟩:=h
 refine ⟨fun us hus=>?_,Nat.zero_le _,fun u hu=>by cases hu⟩
 rcases List.mem_append.1 hus with z | z
 ·exact h1 us z
 ·have:us=S.2:=by simpa using z
  subst this;exact ⟨h2,h3⟩
theorem zIO {C:Nat} (hC:2<=C) (a:Int):∀ (l:List Int) {S:LaidT},LaidOk C S->LaidOk C (l.foldl (fun S s=>addU C s a S) S)
 | [],_,h=>h
 | s::l,_,h=>zIO hC a l (zIH hC s a h)
theorem zM2 {C:Nat} (hC:2<=C) (p a:Int) {S:LaidT} (h:LaidOk C S):LaidOk C (pointU C p a S):=by
 unfold pointU
 split
 ·exact zMC h
 ·exact zIO hC a _ h
def seenRow (r:Int):Nat->List UnitT->List SeenT
 | _,[]=>[]
 | c,u::t=>(cellU u,r,(c:Int),())::seenRow r (c+(uC u).length) t
def seenRows:Nat->List (List UnitT)->List SeenT
 | _,[]=>[]
 | r,us::t=>seenRow (r:Int) 0 us ++ seenRows (r+1) t
def seenS (S:LaidT):List SeenT:=seenRows 0 S.1 ++ seenRow (S.1.length:Int) 0 S.2
def layQ (C:Nat) (S:LaidT) (sp:List (Int×Int×Unit)):LayT:=((C:Int),(S.1.length:Int),(wR S.2:Int),seenS S,!S.2.isEmpty,sp,())
theorem zDN (r:Int) (u:UnitT):∀ (us:List UnitT) (c:Nat),seenRow r c (us ++ [u])=seenRow r c us ++ [(cellU u,r,((c+wR us:Nat):Int),())]
 | [],c=>by simp [seenRow,wR,rowUC]
 | v::us,c=>by
  have:wR (v::us)=(uC v).length+wR us:=by unfold wR rowUC;simp
  rw [List.cons_append,seenRow,seenRow,zDN r u us,this,Nat.add_assoc];rfl
theorem zDP (us:List UnitT):∀ (l:List (List UnitT)) (r:Nat),seenRows r (l ++ [us])=seenRows r l ++ seenRow ((r+l.length:Nat):Int) 0 us
 | [],r=>by simp [seenRows]
 | v::l,r=>by
  rw [List.cons_append,seenRows,seenRows,zDP us l (r+1),List.append_assoc,List.length_cons,show r+1+l.length=r+(l.length+1) by omega]
theorem zGB (S:LaidT):seenS (S.1 ++ [S.2],[])=seenS S:=by
 unfold seenS
 simp only [zDP,seenRow,List.append_nil,Nat.zero_add]
theorem zFC {A:Type} (X:List A) (y z:A):pSet (X ++ [y]) (X.length:Int) z=X ++ [z]:=by
 unfold pSet;rw [Int.toNat_natCast];simp
theorem zDW {A:Type} (X:List A) (y:A):idx (X ++ [y]) (X.length:Int)=some y:=by
 rw [idx_n];simp
theorem zFR (N:Nat) (C:Nat) (S:LaidT) (sp:List (Int×Int×Unit)) (hS:S.1.length<=100000):zDK N (layQ C S sp)=some (layQ C (S.1 ++ [S.2],[]) sp):=by
 unfold zDK layQ
 simp only [zGB]
 rw [zC6 (by omega) (by omega)]
 simp [wR,rowUC]
theorem zND (N:Nat) (hN:10 < N) (C:Nat) (hC:2<=C/\C<=80) (S:LaidT) (hS:LaidOk C S) (h1:S.1.length<=100000) (h2:(seenS S).length<=100000) (sp:List (Int×Int×Unit)) (l:List Int) (hl:l.length<=2) (i:Nat) (hi:i < l.length) (a:Int) {R:Type} (kn:_->Option R) (kx:_->Option R) :
  zCW.l3 N (a,(l.length:Int),(i:Int),layQ C S sp,l,()) kn kx=kn (a,(l.length:Int),((i+1:Nat):Int),layQ C (addU C l[i] a S) sp,l,()):=by
 have e2:pAdd .i64 (i:Int) 1=((i+1:Nat):Int):=zC6 (by omega) (by omega)
 have hw:=zET l[i]
 obtain ⟨g1,g2,g3⟩:=hS
 unfold zCW.l3
 simp only []
 rw [pLt_t (by omega),ifB_t,zCT hi,zA2,zA2,zDB N hN,zA2]
 generalize l[i]=s at *
 unfold addU
 by_cases h0:wG s=0
 ·rw [pEq_t h0,ifB_t,if_pos h0]
  rcases List.eq_nil_or_concat S.2 with e | ⟨us,u,e⟩
  ·have:(layQ C S sp).2.2.2.2.1=false:=by unfold layQ;rw [e];rfl
   rw [this,ifB_f,zA2]
   simp only [e2]
   rw [e,zE2,← e]
  ·rw [List.concat_eq_append] at e
   have hin:(layQ C S sp).2.2.2.2.1=true:=by unfold layQ;rw [e];simp
   rw [hin,ifB_t]
   have hse:seenS S=(seenRows 0 S.1 ++ seenRow (S.1.length:Int) 0 us) ++ [(cellU u,(S.1.length:Int),((0+wR us:Nat):Int),())]:=by
    unfold seenS;rw [e,zDN,List.append_assoc]
   have hsl:(layQ C S sp).2.2.2.1=seenS S:=rfl
   rw [hsl]
   rw [hse] at h2 ⊢
   generalize hX:seenRows 0 S.1 ++ seenRow (S.1.length:Int) 0 us=X at *
   have el:pSub .i64 (pLen (X ++ [(cellU u,(S.1.length:Int),((0+wR us:Nat):Int),())])) 1=(X.length:Int):=by
    rw [List.length_append] at h2
    rw [zCP,List.length_append,zCX (by simp only [List.length_singleton] at *;omega) (by simp only [List.length_singleton] at *;omega)]
    simp only [List.length_singleton];omega
   simp only [el,zDW,zA2]
   have hu:u.1≠[]:=g3 u (by rw [e];simp)
   by_cases hf:u.1.length < 4
   ·rw [zCP,pLt_t (by show ((u.1.length:Nat):Int) < 4;omega),ifB_t,zD0 (by show u.1.length+1<=_;omega),ifB_t,pEq_t rfl,ifB_t,zA2]
    simp only [e2,zFC]
    have hq:layQ C (S.1,modLast s S.2) sp=(((C:Nat):Int),(S.1.length:Int),(wR S.2:Int),X ++ [((u.1 ++ [s],(u.2,())),(S.1.length:Int),((0+wR us:Nat):Int),())],true,sp,()):=by
     unfold layQ
     have e5:modLast s S.2=us ++ [(u.1 ++ [s],u.2)]:=by rw [e,zD7];unfold modU;rw [if_pos hf]
     have e6:wR (modLast s S.2)=wR S.2:=zF2 s _ g3
     simp only [e6]
     rw [e5]
     unfold seenS
     simp only [zDN]
     rw [← List.append_assoc,hX]
     simp [cellU]
    rw [hq]
    have e8:(!S.2.isEmpty)=true:=by rw [e];simp
    unfold layQ
    simp only [e8]
    rfl
   ·rw [zCP,pLt_f (by show (4:Int)<=((u.1.length:Nat):Int);omega),ifB_f,zA2]
    simp only [e2]
    have:modLast s S.2=S.2:=by rw [e,zD7];unfold modU;rw [if_neg hf]
    rw [this]
 ·rw [pEq_f h0,ifB_f,if_neg h0]
  have es:pSub .i64 (layQ C S sp).1 (layQ C S sp).2.2.1=(C:Int) - (wR S.2:Int):=by
   show pSub .i64 (C:Int) (wR S.2:Int)=_
   rw [zCX (by omega) (by omega)]
  have en:=zHU s a h0
  rw [es]
  by_cases hl2:(C:Int) - (wR S.2:Int) < wG s
  ·rw [pLt_t hl2,ifB_t,zFR N C S sp h1,zA2,if_pos (by omega)]
   have hsl:(layQ C (S.1 ++ [S.2],[]) sp).2.2.2.1=seenS S:=zGB S
   rw [hsl,zD0 (by simp;omega),ifB_t,zA2]
   simp only [e2]
   have hq:layQ C (S.1 ++ [S.2],[([s],a)]) sp=((C:Int),((S.1 ++ [S.2]).length:Int),wG s,seenS S ++ [(([s],(a,())),(((S.1 ++ [S.2]).length:Nat):Int),(0:Int),())],true,sp,()):=by
    unfold layQ
    have e6:wR ([([s],a)]:List UnitT)=(wG s).toNat:=by rw [← en];unfold wR rowUC;simp
    have e7:seenS (S.1 ++ [S.2],[([s],a)])=seenS S ++ [(([s],(a,())),(((S.1 ++ [S.2]).length:Nat):Int),(0:Int),())]:=by
     unfold seenS
     simp only [zDP,Nat.zero_add,seenRow]
     rfl
    rw [e7]
    simp only [e6]
    have:(((wG s).toNat:Nat):Int)=wG s:=by omega
    rw [this];rfl
   rw [hq]
   have ew:(layQ C (S.1 ++ [S.2],[]) sp).2.2.1=0:=rfl
   have ea:pAdd .i64 (layQ C (S.1 ++ [S.2],[]) sp).2.2.1 (wG s)=wG s:=by rw [ew,zC6 (by omega) (by omega)];omega
   rw [ea]
   rfl
  ·rw [pLt_f (by omega),ifB_f,if_neg (by omega)]
   have hsl:(layQ C S sp).2.2.2.1=seenS S:=rfl
   rw [hsl,zD0 (by simp;omega),ifB_t,zA2]
   simp only [e2]
   have hq:layQ C (S.1,S.2 ++ [([s],a)]) sp=((C:Int),(S.1.length:Int),(wR S.2:Int)+wG s,seenS S ++ [(([s],(a,())),(S.1.length:Int),(wR S.2:Int),())],true,sp,()):=by
    unfold layQ
    have e6:wR (S.2 ++ [([s],a)])=wR S.2+(wG s).toNat:=by rw [zE5,en]
    have e7:seenS (S.1,S.2 ++ [([s],a)])=seenS S ++ [(([s],(a,())),(S.1.length:Int),(wR S.2:Int),())]:=by
     unfold seenS
     simp only [zDN,Nat.zero_add,List.append_assoc]
     rfl
    rw [e7]
    simp only [e6]
    have:((wR S.2+(wG s).toNat:Nat):Int)=(wR S.2:Int)+wG s:=by omega
    rw [this]
    simp
   rw [hq]
   have ea:pAdd .i64 (layQ C S sp).2.2.1 (wG s)=(wR S.2:Int)+wG s:=by
    show pAdd .i64 (wR S.2:Int) (wG s)=_
    rw [zC6 (by omega) (by omega)]
   rw [ea]
   rfl
def szS (S:LaidT):Nat:=S.1.length+(seenS S).length
theorem zGA (C:Nat) (s a:Int) (S:LaidT):szS (addU C s a S)<=szS S+2:=by
 unfold addU szS
 split
 ·have:(seenS (S.1,modLast s S.2)).length=(seenS S).length:=by
   unfold seenS
   rcases List.eq_nil_or_concat S.2 with e | ⟨us,u,e⟩
   ·rw [e,zE2]
   ·rw [List.concat_eq_append] at e
    rw [e,zD7]
    simp only [zDN,List.length_append,List.length_singleton]
  simp only [this];omega
 split
 ·have:(seenS (S.1 ++ [S.2],[([s],a)])).length=(seenS S).length+1:=by
   unfold seenS
   simp [zDP,seenRow];omega
  simp only [this,List.length_append,List.length_singleton];omega
 ·have:(seenS (S.1,S.2 ++ [([s],a)])).length=(seenS S).length+1:=by
   unfold seenS
   simp only [zDN,List.length_append,List.length_singleton];omega
  simp only [this];omega
theorem zL2 (C:Nat) (p a:Int) (S:LaidT):szS (pointU C p a S)<=szS S+4:=by
 unfold pointU
 split
 ·unfold szS;simp only [zGB,List.length_append,List.length_singleton];omega
 ·unfold shG
  split
  ·simp only [List.foldl_cons,List.foldl_nil]
   have h1:=zGA C 94 a S
   have h2:=zGA C (pXor .i64 p 64) a (addU C 94 a S)
   omega
  ·simp only [List.foldl_cons,List.foldl_nil]
   have h1:=zGA C p a S
   omega
theorem zFH (N:Nat) (hN:10 < N) (C:Nat) (hC:2<=C/\C<=80) (S:LaidT) (hS:LaidOk C S) (h1:szS S<=50000) (sp:List (Int×Int×Unit)) (p a:Int) :
  zCW N (layQ C S sp) p a=some (layQ C (pointU C p a S) sp):=by
 unfold zCW pointU
 by_cases h10:p=10
 ·rw [pEq_t h10,ifB_t,if_pos h10,zFR N C S sp (by unfold szS at h1;omega),zA2]
 rw [pEq_f h10,ifB_f,if_neg h10,zHC,zA2,zCP]
 have hl:=zK6 p
 generalize shG p=l at hl
 have key:∀ (m i f:Nat) (S:LaidT),l.length - i=m->i<=l.length->m < f->LaidOk C S->szS S+2 * m<=60000->∀ (k:_->Option LayT),
   loopP (zCW.l3 N) f (a,(l.length:Int),(i:Int),layQ C S sp,l,()) k=k (layQ C ((l.drop i).foldl (fun S s=>addU C s a S) S) sp,()):=by
  intro m
  induction m with
  | zero =>
   intro i f S hm hi hf hS hz k
   obtain ⟨f,rfl⟩:=zCU hf
   rw [zCO];unfold zCW.l3;simp only []
   rw [pLt_f (by omega),ifB_f,List.drop_eq_nil_of_le (by omega)];rfl
  | succ m ih =>
   intro i f S hm hi hf hS hz k
   obtain ⟨f,rfl⟩:=zCU hf
   have hlt:i < l.length:=by omega
   have:=zGA C l[i] a S
   rw [zCO,zND N hN C hC S hS (by unfold szS at hz;omega) (by unfold szS at hz;omega) sp l hl i hlt a,zDX hlt,List.foldl_cons]
   exact ih (i+1) f _ (by omega) (by omega) (by omega) (zIH hC.1 _ _ hS) (by omega) k
 exact key _ 0 N S rfl (by omega) (by omega) hS (by omega) _
end Go.AE.F
