/- Plain laws of those functions. -/
import Derived.Test.YthcbmbakpjelgaaGreatDoorLSendP11
namespace Go.AE.F
open Go.AE
def penQ (C:Nat) (S:LaidT):PenT:=((C:Int),S.1.map (rowPad C) ++ [rowPad C S.2],(wR S.2:Int),())
theorem zER {A:Type} (X Z:List A) (y z:A):pSet (X ++ y::Z) (X.length:Int) z=X ++ z::Z:=by
 unfold pSet;rw [Int.toNat_natCast];simp
theorem zES {A:Type} (X Z:List A) (y:A):idx (X ++ y::Z) (X.length:Int)=some y:=by
 rw [idx_n];simp
def uT (u:UnitT):List CellT:=if wideC (cellU u)=true then [([],u.2,())] else []
theorem zEL (u:UnitT):uC u=cellU u::uT u:=by unfold uC uT;split <;> rfl
theorem zO6 (s:Int) (u:UnitT) (h:u.1≠[]):uT (modU s u)=uT u:=by
 have e:(modU s u).2=u.2:=by unfold modU;split <;> rfl
 unfold uT;rw [zIZ s u h,e]
theorem zEI (C:Nat) (us:List UnitT) (u:UnitT):rowPad C (us ++ [u])=rowUC us ++ cellU u::(uT u ++ List.replicate (C - wR (us ++ [u])) ([],0,())):=by
 unfold rowPad;rw [zFM,zEL];simp
theorem zK3 (us:List UnitT) (h:us≠[]):∃ X c,rowUC us=X ++ [c]/\wideC c=false:=by
 rcases List.eq_nil_or_concat us with rfl | ⟨l,u,rfl⟩
 ·exact absurd rfl h
 ·rw [List.concat_eq_append,zFM,zEL]
  unfold uT
  cases hw:wideC (cellU u) with
  | true=>rw [if_pos rfl];exact ⟨rowUC l ++ [cellU u],([],u.2,()),by simp,rfl⟩
  | false=>rw [if_neg (by simp)];exact ⟨rowUC l,cellU u,rfl,hw⟩
theorem zGC (N:Nat) (C:Nat) (hC:2<=C/\C<=80) (S:LaidT) (h:S.1.length<=100000):zBG N (penQ C S)=some (penQ C (S.1 ++ [S.2],[])):=by
 unfold zBG penQ
 simp only []
 rw [pEq_t rfl,ifB_t,pLe_t (by omega),ifB_t,pLe_t (by omega),ifB_t,zD0 (by simp;omega),ifB_t]
 have e:pRepl (C:Int) ((([],(0,())):CellT))=rowPad C []:=by
  unfold pRepl rowPad rowUC;rw [Int.toNat_natCast];rfl
 rw [e]
 have e2:(wR []:Nat)=0:=rfl
 rw [e2]
 unfold pApp
 simp
theorem zL5 (N:Nat) (C:Nat) (hC:2<=C/\C<=80):zBG N ((C:Int),[],0,())=some (penQ C ([],[])):=by
 unfold zBG penQ
 simp only []
 rw [pEq_t rfl,ifB_t,pLe_t (by omega),ifB_t,pLe_t (by omega),ifB_t,zD0 (by simp),ifB_t]
 have e:pRepl (C:Int) ((([],(0,())):CellT))=rowPad C []:=by
  unfold pRepl rowPad rowUC;rw [Int.toNat_natCast];rfl
 rw [e]
 rfl
theorem zP0 (C:Nat) (us:List UnitT) (s a:Int) (h0:wG s≠0) (h:wR us+(wG s).toNat<=C) :
  ∃ t,List.replicate (C - wR us) ((([],0,()):CellT))=([],0,())::t /\
   (wG s≠2->rowPad C (us ++ [([s],a)])=rowUC us ++ ([s],a,())::t) /\
   (wG s=2->∃ t2,t=([],0,())::t2/\rowPad C (us ++ [([s],a)])=rowUC us ++ ([s],a,())::([],a,())::t2):=by
 have hw:=zET s
 have e1:=zHU s a h0
 have hwd:wideC (cellU ([s],a))=decide (wG s=2):=rfl
 refine ⟨List.replicate (C - wR us - 1) ([],0,()),?_,fun h2=>?_,fun h2=>⟨List.replicate (C - wR us - 2) ([],0,()),?_,?_⟩⟩
 ·rw [← List.replicate_succ];congr 1;omega
 ·rw [zEI,zE5,e1]
  unfold uT
  rw [hwd,decide_eq_false h2,if_neg (by simp)]
  have:wG s=1:=by omega
  rw [this]
  simp only [List.nil_append]
  rw [show C - (wR us+(1:Int).toNat)=C - wR us - 1 by omega];rfl
 ·rw [← List.replicate_succ];congr 1;rw [h2] at h;omega
 ·rw [zEI,zE5,e1]
  unfold uT
  rw [hwd,decide_eq_true h2,if_pos rfl,h2]
  rw [show C - (wR us+(2:Int).toNat)=C - wR us - 2 by omega];rfl
theorem zNW (N:Nat) (C:Nat) (hC:2<=C/\C<=80) (S:LaidT) (hS:LaidOk C S) (hr:S.1.length<=100000) (p attr:Int):zBX N (penQ C S) p attr=some (penQ C (addU C p attr S)):=by
 obtain ⟨g1,g2,g3⟩:=hS
 have hw:=zET p
 unfold zBX
 rw [zDR,zA2]
 have put:∀ (T:LaidT),LaidOk C T->T.1.length<=100001->wR T.2+(wG p).toNat<=C->wG p≠0 ->
   (bindO (idx (penQ C T).2.1 (pSub Go.IntKind.i64 (pLen (penQ C T).2.1) 1)) fun y152 =>
   bindO (idx y152 (penQ C T).2.2.1) fun y153 =>
   bindO (idx (penQ C T).2.1 (pSub Go.IntKind.i64 (pLen (penQ C T).2.1) 1)) fun y154 =>
   bindO (idx y154 (penQ C T).2.2.1) fun y155 =>
   ifB (pEq (wG p) 2) (
    bindO (idx (pSet (penQ C T).2.1 (pSub Go.IntKind.i64 (pLen (penQ C T).2.1) 1) (pSet y154 (penQ C T).2.2.1 ([p],(attr,())))) (pSub Go.IntKind.i64 (pLen (penQ C T).2.1) 1)) fun y156 =>
    bindO (idx y156 (pAdd Go.IntKind.i64 (penQ C T).2.2.1 1)) fun y157 =>
    bindO (idx (pSet (penQ C T).2.1 (pSub Go.IntKind.i64 (pLen (penQ C T).2.1) 1) (pSet y154 (penQ C T).2.2.1 ([p],(attr,())))) (pSub Go.IntKind.i64 (pLen (penQ C T).2.1) 1)) fun y158 =>
    bindO (idx y158 (pAdd Go.IntKind.i64 (penQ C T).2.2.1 1)) fun y159 =>
    some ((penQ C T).1,((pSet (pSet (penQ C T).2.1 (pSub Go.IntKind.i64 (pLen (penQ C T).2.1) 1) (pSet y154 (penQ C T).2.2.1 ([p],(attr,())))) (pSub Go.IntKind.i64 (pLen (penQ C T).2.1) 1) (pSet y158 (pAdd Go.IntKind.i64 (penQ C T).2.2.1 1) ([],(attr,())))),((pAdd Go.IntKind.i64 (penQ C T).2.2.1 (wG p)),(penQ C T).2.2.2)))) (
    some ((penQ C T).1,((pSet (penQ C T).2.1 (pSub Go.IntKind.i64 (pLen (penQ C T).2.1) 1) (pSet y154 (penQ C T).2.2.1 ([p],(attr,())))),((pAdd Go.IntKind.i64 (penQ C T).2.2.1 (wG p)),(penQ C T).2.2.2)))))=some (penQ C (T.1,T.2 ++ [([p],attr)])):=fun T hT hl hfit h0=>by
  obtain ⟨t,ht,hn,h2⟩:=zP0 C T.2 p attr h0 hfit
  have el:pSub .i64 (pLen (penQ C T).2.1) 1=((T.1.map (rowPad C)).length:Int):=by
   show pSub .i64 (((T.1.map (rowPad C) ++ [rowPad C T.2]).length:Nat):Int) 1=_
   rw [zCX (by simp <;> omega) (by simp <;> omega)];simp
  have ec:pAdd .i64 ((wR T.2:Nat):Int) 1=((wR T.2+1:Nat):Int):=zC6 (by omega) (by omega)
  have ew:pAdd .i64 ((wR T.2:Nat):Int) (wG p)=((wR (T.2 ++ [([p],attr)]):Nat):Int):=by
   rw [zC6 (by omega) (by omega),zE5,zHU p attr h0];omega
  have erow:rowPad C T.2=rowUC T.2 ++ ([],0,())::t:=by unfold rowPad;rw [ht]
  have ewr:wR T.2=(rowUC T.2).length:=rfl
  rw [el]
  unfold penQ
  simp only [zDW,zA2,ec,ew,zFC]
  rw [erow,ewr]
  simp only [zES,zER,zA2]
  rcases hw with z | z | z
  ·exact absurd z h0
  ·rw [pEq_f (by omega),ifB_f,hn (by omega)]
  ·obtain ⟨t2,ht2,hp2⟩:=h2 z
   rw [pEq_t z,ifB_t,hp2,ht2]
   have ex:rowUC T.2 ++ ([p],attr,())::([],0,())::t2=(rowUC T.2 ++ [([p],attr,())]) ++ ([],0,())::t2:=by simp
   have ey:(((rowUC T.2).length+1:Nat):Int)=((rowUC T.2 ++ [([p],attr,())]).length:Int):=by simp
   rw [ex,ey]
   simp only [zES,zER,zA2]
   simp
 have el:pSub .i64 (pLen (penQ C S).2.1) 1=((S.1.map (rowPad C)).length:Int):=by
  show pSub .i64 (((S.1.map (rowPad C) ++ [rowPad C S.2]).length:Nat):Int) 1=_
  rw [zCX (by simp <;> omega) (by simp <;> omega)];simp
 unfold addU
 by_cases h0:wG p=0
 ·rw [pEq_t h0,ifB_t,if_pos h0]
  simp only [el]
  have hrow:∀ X:LaidT,idx (penQ C X).2.1 ((X.1.map (rowPad C)).length:Int)=some (rowPad C X.2):=fun X=>zDW _ _
  simp only [hrow,zA2]
  rcases List.eq_nil_or_concat S.2 with e | ⟨us,u,e⟩
  ·have ec:(penQ C S).2.2.1=0:=by unfold penQ;rw [e];rfl
   have em:penQ C (S.1,modLast p S.2)=penQ C S:=by rw [e,zE2,← e]
   have e1:pSub .i64 0 1=-1:=rfl
   rw [ec,e1,pGt_f (by omega),ifB_f,zA2,ifB_f,pGe_f (by omega),ifB_f,zA2,ifB_f,zA2,ifB_f,em]
  rw [List.concat_eq_append] at e
  have hu:u.1≠[]:=g3 u (by rw [e];simp)
  have hpos:0 < u.1.length:=by cases hq:u.1 with | nil=>exact absurd hq hu | cons a l=>simp
  have erow:rowPad C S.2=rowUC us ++ cellU u::(uT u ++ List.replicate (C - wR S.2) ([],0,())):=by rw [e,zEI]
  have ewr:wR S.2=wR us+(1+(uT u).length):=by rw [e,zE5,zEL,List.length_cons];omega
  have eus:wR us=(rowUC us).length:=rfl
  have hut:(uT u).length<=1:=by unfold uT;split <;> simp
  have part:∀ at':Int,at'=((rowUC us).length:Int) ->
   (bindO (
    ifB (pGe at' 0) (
     bindO (idx (rowPad C S.2) at') fun y93 =>
     bindO (idx (rowPad C S.2) at') fun y95 =>
     bindO (idx (rowPad C S.2) at') fun y97 =>
     some (pGt (pLen y97.1) 0)) (
     some false)) fun y91 =>
   bindO (
    ifB y91 (
     bindO (idx (rowPad C S.2) at') fun y100 =>
     bindO (idx (rowPad C S.2) at') fun y102 =>
     bindO (idx (rowPad C S.2) at') fun y104 =>
     some (pLt (pLen y104.1) 4)) (
     some false)) fun y98 =>
   ifB y98 (
    bindO (idx (rowPad C S.2) at') fun y106 =>
    bindO (idx (rowPad C S.2) at') fun y108 =>
    bindO (idx (rowPad C S.2) at') fun y110 =>
    bindO (zC1 N y110.1) fun y111 =>
    ifB (pFit y111 [p]) (
     bindO (idx (rowPad C S.2) at') fun y113 =>
     bindO (idx (rowPad C S.2) at') fun y115 =>
     some ((penQ C S).1,((pSet (penQ C S).2.1 ((S.1.map (rowPad C)).length:Int) (pSet (rowPad C S.2) at' ((pApp y111 [p]),y115.2))),(penQ C S).2.2))) (
     none)) (
    some (penQ C S)))=some (penQ C (S.1,modLast p S.2)):=fun at' hat=>by
   have ix:idx (rowPad C S.2) at'=some (cellU u):=by rw [erow,hat,zES]
   simp only [ix,zA2]
   rw [pGe_t (by omega),ifB_t,zCP,pGt_t (by show (0:Int) < ((u.1.length:Nat):Int);omega),zA2,ifB_t]
   by_cases hf:u.1.length < 4
   ·have hf':((cellU u).1.length:Int) < 4:=by show ((u.1.length:Nat):Int) < 4;omega
    rw [pLt_t hf',zA2,ifB_t,zIQ N _ (by show u.1.length<=_;omega),zA2,zD0 (by show u.1.length+1<=_;omega),ifB_t]
    have em:modLast p S.2=us ++ [modU p u]:=by rw [e,zD7]
    have emu:modU p u=(u.1 ++ [p],u.2):=by unfold modU;rw [if_pos hf]
    have ewm:wR (modLast p S.2)=wR S.2:=zF2 p _ g3
    unfold penQ
    simp only [ewm,zFC]
    have er2:rowPad C (modLast p S.2)=pSet (rowPad C S.2) at' (pApp (cellU u).1 [p],(cellU u).2):=by
     rw [erow,hat,zER,em,zEI,zO6 p u hu]
     have:wR (us ++ [modU p u])=wR S.2:=by rw [← em];exact ewm
     rw [this,emu];rfl
    rw [er2]
   ·have hf':¬ ((cellU u).1.length:Int) < 4:=by show ¬ ((u.1.length:Nat):Int) < 4;omega
    rw [pLt_f (by omega),zA2,ifB_f]
    have:modLast p S.2=S.2:=by rw [e,zD7];unfold modU;rw [if_neg hf]
    rw [this]
  have ec:(penQ C S).2.2.1=(wR S.2:Int):=rfl
  have e1:pSub .i64 (penQ C S).2.2.1 1=((wR S.2 - 1:Nat):Int):=by rw [ec,zCX (by omega) (by omega)];omega
  simp only [e1]
  cases hwd:wideC (cellU u) with
  | true =>
   have hl1:(uT u).length=1:=by unfold uT;rw [hwd];rfl
   have e2:pSub .i64 ((wR S.2 - 1:Nat):Int) 1=((rowUC us).length:Int):=by rw [zCX (by omega) (by omega)];omega
   have ix:idx (rowPad C S.2) ((rowUC us).length:Int)=some (cellU u):=by rw [erow,zES]
   rw [pGt_t (by omega),ifB_t,e2]
   simp only [ix,zA2,zD6,hwd,ifB_t]
   have:=part _ rfl
   simp only [ix,zA2] at this
   exact this
  | false =>
   have hl1:(uT u).length=0:=by unfold uT;rw [hwd];rfl
   have hy:∀ (k:Bool->Option PenT),(bindO (
    ifB (pGt ((wR S.2 - 1:Nat):Int) 0) (
     bindO (idx (rowPad C S.2) (pSub .i64 ((wR S.2 - 1:Nat):Int) 1)) fun y85 =>
     bindO (idx (rowPad C S.2) (pSub .i64 ((wR S.2 - 1:Nat):Int) 1)) fun y87 =>
     bindO (idx (rowPad C S.2) (pSub .i64 ((wR S.2 - 1:Nat):Int) 1)) fun y89 =>
     bindO (zC2 N y89) fun y90 =>
     some y90) (
     some false)) k)=k false:=fun k=>by
    by_cases hz:us=[]
    ·have:wR us=0:=by rw [hz];rfl
     rw [pGt_f (by omega),ifB_f,zA2]
    ·obtain ⟨X,c,hX,hc⟩:=zK3 us hz
     have hlen:(rowUC us).length=X.length+1:=by rw [hX];simp
     rw [pGt_t (by omega),ifB_t]
     have e2:pSub .i64 ((wR S.2 - 1:Nat):Int) 1=(X.length:Int):=by rw [zCX (by omega) (by omega)];omega
     have ix:idx (rowPad C S.2) (X.length:Int)=some c:=by
      rw [erow,hX,List.append_assoc];exact zES _ _ _
     rw [e2,ix]
     simp only [zA2,zD6,hc]
   refine (hy _).trans ?_
   rw [ifB_f]
   exact part _ (by omega)
 ·rw [pEq_f h0,ifB_f,if_neg h0]
  have es:pSub .i64 (penQ C S).1 (penQ C S).2.2.1=(C:Int) - (wR S.2:Int):=by
   show pSub .i64 (C:Int) (wR S.2:Int)=_
   rw [zCX (by omega) (by omega)]
  rw [es]
  by_cases hl:C - wR S.2 < (wG p).toNat
  ·rw [pLt_t (by omega),ifB_t,zGC N C hC S hr,zA2,if_pos hl]
   have:=put (S.1 ++ [S.2],[]) (zMC ⟨g1,g2,g3⟩) (by simp;omega) (by show 0+_<=C;omega) h0
   rw [← show ([]:List UnitT) ++ [([p],attr)]=[([p],attr)] from rfl,← this]
   have el2:pSub .i64 (pLen (penQ C (S.1 ++ [S.2],[])).2.1) 1=(((S.1 ++ [S.2]).map (rowPad C)).length:Int):=by
    show pSub .i64 ((((S.1 ++ [S.2]).map (rowPad C) ++ [rowPad C []]).length:Nat):Int) 1=_
    rw [zCX (by simp <;> omega) (by simp <;> omega)];simp only [List.length_map,List.length_append,List.length_singleton];omega
   have hrow:idx (penQ C (S.1 ++ [S.2],[])).2.1 (((S.1 ++ [S.2]).map (rowPad C)).length:Int)=some (rowPad C []):=zDW _ _
   have hrow0:idx (penQ C S).2.1 ((S.1.map (rowPad C)).length:Int)=some (rowPad C S.2):=zDW _ _
   simp only [el,hrow0,el2,hrow,zA2]
  ·rw [pLt_f (by omega),ifB_f,if_neg hl]
   have:=put S ⟨g1,g2,g3⟩ (by omega) (by omega) h0
   rw [← this]
   have hrow:idx (penQ C S).2.1 ((S.1.map (rowPad C)).length:Int)=some (rowPad C S.2):=zDW _ _
   simp only [el,hrow,zA2]
theorem zDS {D E R:Type} {step:D->(D->Option R)->(E->Option R)->Option R} (mk:Nat->D) (n:Nat) (k:E->Option R) (xe:E)
  (hs:∀ i kn,i < n->step (mk i) kn k=kn (mk (i+1))) (he:∀ kn,step (mk n) kn k=k xe) (f:Nat) (hf:n < f):loopP step f (mk 0) k=k xe:=by
 have:=zEV (step:=step) mk (fun _=>true) n k xe xe (fun i kn hi=>by rw [hs i kn hi,if_pos rfl]) he n 0 f rfl (by omega) hf
 rw [this];split <;> rfl
theorem zK9 (C:Nat) (a:Int) (l:List Int) (S:LaidT) (i:Nat) (h:i < l.length):(l.take (i+1)).foldl (fun S s=>addU C s a S) S=addU C l[i] a ((l.take i).foldl (fun S s=>addU C s a S) S):=by
 rw [List.take_succ_eq_append_getElem h,List.foldl_append];rfl
theorem zMS (C:Nat) (a:Int):∀ (l:List Int) (S:LaidT),szS (l.foldl (fun S s=>addU C s a S) S)<=szS S+2 * l.length
 | [],S=>by simp
 | s::l,S=>by
  have h1:=zMS C a l (addU C s a S)
  have h2:=zGA C s a S
  rw [List.foldl_cons,List.length_cons];omega
theorem zFQ (N:Nat) (hN:10 < N) (C:Nat) (hC:2<=C/\C<=80) (S:LaidT) (hS:LaidOk C S) (h1:szS S<=50000) (p a:Int) :
  zAB N (penQ C S) p a=some (penQ C (pointU C p a S)):=by
 unfold zAB pointU
 by_cases h10:p=10
 ·rw [pEq_t h10,ifB_t,if_pos h10,zGC N C hC S (by unfold szS at h1;omega),zA2]
 rw [pEq_f h10,ifB_f,if_neg h10,zHB,zA2]
 have hl:=zK6 p
 generalize shG p=l at hl
 refine (zDS (step:=zAB.l4 N) (fun i=>(a,(i:Int),penQ C ((l.take i).foldl (fun S s=>addU C s a S) S),l,())) l.length _ (penQ C (l.foldl (fun S s=>addU C s a S) S),()) (fun i kn hi=>?_) (fun kn=>?_) N (by omega)).trans rfl
 ·unfold zAB.l4
  simp only [zCP]
  have hz:=zMS C a (l.take i) S
  have hlt:(l.take i).length<=2:=by rw [List.length_take];omega
  rw [pLt_t (by omega),ifB_t,zCT hi,zA2,zA2,zNW N C hC _ (zIO hC.1 a _ hS) (by unfold szS at hz h1;omega),zA2,zK9 C a l S i hi,zC6 (by omega) (by omega)]
  rfl
 ·unfold zAB.l4
  simp only [zCP]
  rw [pLt_f (by omega),ifB_f,List.take_length]
end Go.AE.F
