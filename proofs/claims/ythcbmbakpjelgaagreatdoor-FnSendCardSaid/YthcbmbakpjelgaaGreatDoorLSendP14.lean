/- Plain laws of those functions. -/
import Derived.Test.YthcbmbakpjelgaaGreatDoorLSendP13
namespace Go.AE.F
open Go.AE
abbrev repE (n:Nat):List CellT:=List.replicate n ([],0,())
def viewW (R top:Nat) (all:List (List UnitT)):List (List UnitT):=(List.range R).map fun r=>all.getD (top+r) []
theorem zG5 (R top:Nat) (all:List (List UnitT)):(viewW R top all).length=R:=by unfold viewW;simp
theorem zI3 (R top:Nat) (all:List (List UnitT)) (r:Nat) (h:r < (viewW R top all).length):(viewW R top all)[r]=all.getD (top+r) []:=by unfold viewW;simp
theorem zGE {R top:Nat} {all:List (List UnitT)} {us:List UnitT} (h:us∈viewW R top all):us=[] \/ us∈all:=by
 unfold viewW at h
 obtain ⟨r,_,rfl⟩:=List.mem_map.1 h
 by_cases hr:top+r < all.length
 ·right;simp [List.getD,hr]
 ·left;simp [List.getD,List.getElem?_eq_none (by omega:all.length<=top+r)]
def stV (C R:Nat) (ws:List (List UnitT)) (r:Nat):List CellT:=(ws.take r).flatMap (rowPad C) ++ repE ((R - r) * C)
theorem zDU {C:Nat} {us:List UnitT} (h:wR us<=C):(rowPad C us).length=C:=by
 unfold rowPad;rw [List.length_append,List.length_replicate];show wR us+_=C;omega
theorem zGV (C:Nat):rowPad C []=repE C:=by unfold rowPad rowUC;rfl
theorem zFD {C:Nat}:∀ {l:List (List UnitT)},(∀ us∈l,wR us<=C)->(l.flatMap (rowPad C)).length=l.length * C
 | [],_=>by simp
 | us::l,h=>by
  rw [List.flatMap_cons,List.length_append,zDU (h us (by simp)),zFD (fun x hx=>h x (List.mem_cons_of_mem _ hx)),List.length_cons,Nat.succ_mul,Nat.add_comm]
theorem zJ7 (C R:Nat) (ws:List (List UnitT)):stV C R ws 0=repE (R * C):=by unfold stV;simp
theorem zJ1 {C R:Nat} {ws:List (List UnitT)} (hl:ws.length=R):stV C R ws R=ws.flatMap (rowPad C):=by
 unfold stV;rw [List.take_of_length_le (by omega),Nat.sub_self,Nat.zero_mul];simp
theorem zH8 {C R:Nat} {ws:List (List UnitT)} (r:Nat) (hr:r < R):stV C R ws r=(ws.take r).flatMap (rowPad C) ++ (repE C ++ repE ((R - (r+1)) * C)):=by
 unfold stV
 rw [show repE C ++ repE ((R - (r+1)) * C)=repE (C+(R - (r+1)) * C) from List.replicate_append_replicate]
 congr 2
 rw [show R - r=(R - (r+1))+1 by omega,Nat.succ_mul,Nat.add_comm]
theorem zHA {C R:Nat} {ws:List (List UnitT)} (r:Nat) (hr:r < ws.length):stV C R ws (r+1)=(ws.take r).flatMap (rowPad C) ++ (rowPad C ws[r] ++ repE ((R - (r+1)) * C)):=by
 unfold stV
 rw [List.take_succ_eq_append_getElem hr,List.flatMap_append,List.append_assoc]
 simp
theorem zHM {C R:Nat} {ws:List (List UnitT)} (hl:ws.length=R):∀ (m r:Nat),R - r=m->r<=R->(∀ j (h:j < ws.length),r<=j->ws[j]=[])->stV C R ws r=ws.flatMap (rowPad C)
 | 0,r,hm,hr,_=>by rw [show r=R by omega,zJ1 hl]
 | m+1,r,hm,hr,h=>by
  rw [← zHM hl m (r+1) (by omega) (by omega) (fun j hj hr=>h j hj (by omega)),zH8 r (by omega),zHA r (by omega),h r (by omega) (by omega),zGV]
abbrev ViewT:=GridT×Int×Int×Unit
def gV (R C:Nat) (cells:List CellT) (a c:Int):GridT:=((R:Int),(C:Int),cells,a,c,false,0,())
theorem zO1 (N:Nat) (hN:100 < N) (R C:Nat) (hC:2<=C/\C<=80) (hR:R<=24) (S:LaidT) (r top:Nat) (hr:r < R) (ht:top<=5000) (row X Z:List CellT) (hrow:row.length=C) (hX:X.length=r * C) (hZ:Z.length=(R - (r+1)) * C)
  (hx:idx (penQ C S).2.1 ((top+r:Nat):Int)=some row) (v:ViewT) (a c:Int) {Q:Type} (k:_->Option Q) :
  loopP (zAI.l14 N) N ((R:Int),(C:Int),(r:Int),0,v,penQ C S,(gV R C (X ++ (repE C ++ Z)) a c,((top:Int),0,())),()) k=k ((R:Int),(C:Int),(r:Int),v,penQ C S,(gV R C (X ++ (row ++ Z)) a c,((top:Int),0,())),()):=by
 have hm:=Nat.mul_le_mul (Nat.le_of_lt hr) hC.2
 have hm2:r * C+C<=24 * 80:=by have:=Nat.mul_le_mul (Nat.le_trans (Nat.succ_le_of_lt hr) hR) hC.2;rw [Nat.succ_mul] at this;exact this
 refine (zDS (step:=zAI.l14 N) (fun i=>((R:Int),(C:Int),(r:Int),(i:Int),v,penQ C S,(gV R C (X ++ (row.take i ++ (repE (C - i) ++ Z))) a c,((top:Int),0,())),())) C _ ((R:Int),(C:Int),(r:Int),v,penQ C S,(gV R C (X ++ (row ++ Z)) a c,((top:Int),0,())),()) (fun i kn hi=>?_) (fun kn=>?_) N (by omega))
 ·unfold zAI.l14
  simp only []
  have e1:pAdd .i64 (top:Int) (r:Int)=((top+r:Nat):Int):=zC6 (by omega) (by omega)
  have e2:pAdd .i64 (pMul .i64 (r:Int) (C:Int)) (i:Int)=((X ++ row.take i).length:Int):=by
   have:(r:Int) * (C:Int)=((r * C:Nat):Int):=by simp
   rw [zDA (by omega) (by omega),this,zC6 (by omega) (by omega),List.length_append,List.length_take,hX,Nat.min_eq_left (by omega)];simp
  have e3:pAdd .i64 (i:Int) 1=((i+1:Nat):Int):=zC6 (by omega) (by omega)
  have hc:(gV R C (X ++ (row.take i ++ (repE (C - i) ++ Z))) a c).2.2.1=(X ++ row.take i) ++ ([],0,())::(repE (C - (i+1)) ++ Z):=by
   show X ++ (row.take i ++ (repE (C - i) ++ Z))=_
   rw [show C - i=(C - (i+1))+1 by omega,repE,List.replicate_succ]
   simp
  rw [pLt_t (by omega),ifB_t,e1,hx,zA2,zCT (by omega:i < row.length),zA2,e2,hc,zES,zA2,zA2,e3,zER]
  congr 1
  unfold gV
  congr 7
  simp only []
  rw [List.take_succ_eq_append_getElem (by omega:i < row.length)]
  simp only [List.append_assoc,List.singleton_append,List.cons_append,List.nil_append]
 ·unfold zAI.l14
  simp only []
  rw [pLt_f (by omega),ifB_f,List.take_of_length_le (by omega),Nat.sub_self]
  rfl
theorem zKF (C:Nat) (S:LaidT) (i:Nat):idx (penQ C S).2.1 (i:Int)=((S.1 ++ [S.2])[i]?).map (rowPad C):=by
 rw [idx_n]
 have:(penQ C S).2.1=(S.1 ++ [S.2]).map (rowPad C):=by unfold penQ;simp
 rw [this,List.getElem?_map]
theorem zGQ (N:Nat) (hN:100 < N) (R C:Nat) (hC:2<=C/\C<=80) (hR:R<=24) (S:LaidT) (hS:LaidOk C S) (top:Nat) (ht:top<=5000) (hl:S.1.length<=5000) (v:ViewT) (a c:Int) {Q:Type} (k:_->Option Q) :
  loopP (zAI.l11 N) N ((R:Int),(C:Int),0,v,penQ C S,(gV R C (repE (R * C)) a c,((top:Int),0,())),()) k=k (v,(gV R C ((viewW R top (S.1 ++ [S.2])).flatMap (rowPad C)) a c,((top:Int),0,())),()):=by
 have hall:∀ us∈S.1 ++ [S.2],wR us<=C:=fun us h=>by
  rcases List.mem_append.1 h with z | z
  ·exact (hS.1 us z).1
  ·have:us=S.2:=by simpa using z
   rw [this];exact hS.2.1
 have hlen:=zG5 R top (S.1 ++ [S.2])
 have hget:=zI3 R top (S.1 ++ [S.2])
 have hwr:∀ us∈viewW R top (S.1 ++ [S.2]),wR us<=C:=fun us h=>by
  rcases zGE h with z | z
  ·rw [z];exact Nat.zero_le _
  ·exact hall us z
 have hpl:pLen (penQ C S).2.1=((S.1.length+1:Nat):Int):=by
  show (((S.1.map (rowPad C) ++ [rowPad C S.2]).length:Nat):Int)=_;simp
 generalize viewW R top (S.1 ++ [S.2])=ws at *
 rw [← zJ7 C R ws]
 have key:∀ (m r f:Nat),R - r=m->r<=R->m < f->loopP (zAI.l11 N) f ((R:Int),(C:Int),(r:Int),v,penQ C S,(gV R C (stV C R ws r) a c,((top:Int),0,())),()) k=k (v,(gV R C (ws.flatMap (rowPad C)) a c,((top:Int),0,())),()):=by
  intro m
  induction m with
  | zero =>
   intro r f hm hr hf
   obtain ⟨f,rfl⟩:=zCU hf
   rw [zCO];unfold zAI.l11;simp only []
   rw [pLt_f (by omega),ifB_f,show r=R by omega,zJ1 hlen]
  | succ m ih =>
   intro r f hm hr hf
   obtain ⟨f,rfl⟩:=zCU hf
   have e1:pAdd .i64 (top:Int) (r:Int)=((top+r:Nat):Int):=zC6 (by omega) (by omega)
   rw [zCO];unfold zAI.l11;simp only []
   rw [pLt_t (by omega),ifB_t,e1,hpl]
   by_cases hin:top+r < S.1.length+1
   ·rw [pLt_t (by omega),ifB_t]
    have hla:top+r < (S.1 ++ [S.2]).length:=by simp;omega
    have hw:ws[r]'(by omega)=(S.1 ++ [S.2])[top+r]:=by
     rw [hget r (by omega)];unfold List.getD;rw [List.getElem?_eq_getElem hla];rfl
    have hx:idx (penQ C S).2.1 ((top+r:Nat):Int)=some (rowPad C (ws[r]'(by omega))):=by
     rw [zKF,List.getElem?_eq_getElem hla,hw];rfl
    rw [zH8 r (by omega)]
    refine (zO1 N hN R C hC hR S r top (by omega) ht (rowPad C (ws[r]'(by omega))) ((ws.take r).flatMap (rowPad C)) (repE ((R - (r+1)) * C)) (zDU (hwr _ (List.getElem_mem _))) ?_ (by simp) hx v a c _).trans ?_
    ·rw [zFD (fun x hx=>hwr x (List.mem_of_mem_take hx)),List.length_take,Nat.min_eq_left (by omega)]
    ·simp only []
     rw [← zHA r (by omega),zC6 (by omega) (by omega)]
     exact ih (r+1) f (by omega) (by omega) (by omega)
   ·rw [pLt_f (by omega),ifB_f,zHM hlen _ r rfl (by omega) (fun j hj hrj=>?_)]
    rw [hget j hj]
    simp [List.getD,List.getElem?_eq_none (by simp;omega:(S.1 ++ [S.2]).length<=top+j)]
 exact key R 0 N (by omega) (by omega) (by omega)
def putV (R C top:Nat) (cells:List CellT) (s:SeenT):List CellT :=
 if (top:Int)<=s.2.1/\s.2.1<=(top:Int)+R - 1 then (if wideC s.1=true then pSet (pSet cells ((s.2.1 - top) * C+s.2.2.1) s.1) ((s.2.1 - top) * C+s.2.2.1+1) ([],s.1.2.1,()) else pSet cells ((s.2.1 - top) * C+s.2.2.1) s.1) else cells
theorem zNN (R C top:Nat) (cells:List CellT) (s:SeenT):(putV R C top cells s).length=cells.length:=by
 unfold putV;split
 ·split <;> simp [pSet]
 ·rfl
theorem zFS (R C top:Nat):∀ (l:List SeenT) (cells:List CellT),(l.foldl (putV R C top) cells).length=cells.length
 | [],_=>rfl
 | s::l,cells=>by rw [List.foldl_cons,zFS R C top l,zNN]
def seenOk (C:Nat) (s:SeenT):Prop:=0<=s.2.1/\s.2.1<=10000/\0<=s.2.2.1/\s.2.2.1+(if wideC s.1=true then 2 else 1)<=C
theorem zM4 (u:UnitT):(uC u).length=if wideC (cellU u)=true then 2 else 1:=by unfold uC;split <;> rfl
theorem zGY {C:Nat} {r:Nat} (hr:r<=10000):∀ (us:List UnitT) (c:Nat),c+wR us<=C->∀ s∈seenRow (r:Int) c us,seenOk C s
 | [],_,_,_,h=>by cases h
 | u::t,c,hc,s,h=>by
  have e:wR (u::t)=(uC u).length+wR t:=by unfold wR rowUC;simp
  rw [seenRow] at h
  rcases List.mem_cons.1 h with z | z
  ·subst z
   refine ⟨by show (0:Int)<=(r:Int);omega,by show (r:Int)<=10000;omega,by show (0:Int)<=(c:Int);omega,?_⟩
   show (c:Int)+(if wideC (cellU u)=true then 2 else 1)<=C
   have:=zM4 u
   split at this <;> rename_i hw <;> simp [hw] <;> omega
  ·exact zGY hr t _ (by omega) s z
theorem zG9 {C:Nat}:∀ (l:List (List UnitT)) (r:Nat),r+l.length<=10000->(∀ us∈l,wR us<=C)->∀ s∈seenRows r l,seenOk C s
 | [],_,_,_,_,h=>by cases h
 | us::l,r,hr,hw,s,h=>by
  rw [List.length_cons] at hr
  rw [seenRows] at h
  rcases List.mem_append.1 h with z | z
  ·exact zGY (by omega) us 0 (by have:=hw us (by simp);omega) s z
  ·exact zG9 l (r+1) (by omega) (fun x hx=>hw x (List.mem_cons_of_mem _ hx)) s z
theorem zH0 (S:LaidT):seenS S=seenRows 0 (S.1 ++ [S.2]):=by unfold seenS;rw [zDP,Nat.zero_add]
theorem zK5 {R C top r:Nat} (h1:top<=r) (h2:r < top+R) (X Z:List CellT) (hX:X.length=(r - top) * C) :
  ∀ (us:List UnitT) (c m:Nat) (pre:List CellT),pre.length=c->wR us<=m->(seenRow (r:Int) c us).foldl (putV R C top) (X ++ (pre ++ (repE m ++ Z)))=X ++ (pre ++ (rowUC us ++ (repE (m - wR us) ++ Z)))
 | [],c,m,pre,_,_=>by simp [seenRow,rowUC,wR]
 | u::t,c,m,pre,hp,hm=>by
  have e:wR (u::t)=(uC u).length+wR t:=by unfold wR rowUC;simp
  have e0:rowUC (u::t)=uC u ++ rowUC t:=by unfold rowUC;simp
  have eat:((r:Int) - top) * C+c=((X ++ pre).length:Int):=by
   rw [List.length_append,hX,hp,show ((r:Int) - top)=((r - top:Nat):Int) by omega];simp
  have hone:putV R C top (X ++ (pre ++ (repE m ++ Z))) (cellU u,(r:Int),(c:Int),())=X ++ ((pre ++ uC u) ++ (repE (m - (uC u).length) ++ Z)):=by
   unfold putV
   rw [if_pos ⟨by show (top:Int)<=(r:Int);omega,by show (r:Int)<=top+R - 1;omega⟩]
   simp only [eat]
   have hul:=zM4 u
   have a1:X ++ (pre ++ (repE m ++ Z))=(X ++ pre) ++ ([],0,())::(repE (m - 1) ++ Z):=by
    have:1<=m:=by split at hul <;> omega
    rw [show m=(m - 1)+1 by omega,repE,List.replicate_succ];simp
   rw [a1,zER]
   cases hw:wideC (cellU u) with
   | false =>
    rw [hw] at hul
    have hul:(uC u).length=1:=hul
    have:uC u=[cellU u]:=by unfold uC;rw [hw];rfl
    rw [if_neg (by simp),this];simp
   | true =>
    rw [hw] at hul
    have hul:(uC u).length=2:=hul
    have:uC u=[cellU u,([],u.2,())]:=by unfold uC;rw [hw];rfl
    rw [if_pos rfl,this]
    have a2:(X ++ pre) ++ cellU u::(repE (m - 1) ++ Z)=(X ++ pre ++ [cellU u]) ++ ([],0,())::(repE (m - 2) ++ Z):=by
     rw [show m - 1=(m - 2)+1 by omega,repE,List.replicate_succ];simp
    have a3:((X ++ pre).length:Int)+1=((X ++ pre ++ [cellU u]).length:Int):=by simp;omega
    rw [a2,a3,zER]
    simp [cellU]
  rw [seenRow,List.foldl_cons,hone,zK5 h1 h2 X Z hX t (c+(uC u).length) (m - (uC u).length) (pre ++ uC u) (by simp [hp]) (by omega),e0,e]
  simp [Nat.sub_sub]
theorem zIY {R C top:Nat} {ws:List (List UnitT)} (hl:ws.length=R) (hw:∀ us∈ws,wR us<=C) :
  ∀ (l:List (List UnitT)) (k:Nat),(∀ us∈l,wR us<=C)->(∀ j (hj:j < l.length) (h1:top<=k+j) (h2:k+j - top < ws.length),ws[k+j - top]=l[j]) ->
   (seenRows k l).foldl (putV R C top) (stV C R ws (min (k - top) R))=stV C R ws (min (k+l.length - top) R)
 | [],k,_,_=>rfl
 | us::l,k,hu,hj=>by
  rw [seenRows,List.foldl_append]
  have hfst:(seenRow (k:Int) 0 us).foldl (putV R C top) (stV C R ws (min (k - top) R))=stV C R ws (min (k+1 - top) R):=by
   have out:¬ ((top:Int)<=(k:Int)/\(k:Int)<=(top:Int)+R - 1)->∀ (us:List UnitT) (c:Nat) (cells:List CellT),(seenRow (k:Int) c us).foldl (putV R C top) cells=cells:=fun hn us=>by
    induction us with
    | nil=>intro c cells;rfl
    | cons u t ih =>
     intro c cells
     rw [seenRow,List.foldl_cons]
     have:putV R C top cells (cellU u,(k:Int),(c:Int),())=cells:=by unfold putV;rw [if_neg hn]
     rw [this,ih]
   by_cases h1:top<=k
   ·by_cases h2:k < top+R
    ·rw [Nat.min_eq_left (by omega),Nat.min_eq_left (by omega),show k+1 - top=(k - top)+1 by omega,zH8 (k - top) (by omega),zHA (k - top) (by omega)]
     have hx:((ws.take (k - top)).flatMap (rowPad C)).length=(k - top) * C:=by
      rw [zFD (fun x hx=>hw x (List.mem_of_mem_take hx)),List.length_take,Nat.min_eq_left (by omega)]
     have:=zK5 h1 h2 ((ws.take (k - top)).flatMap (rowPad C)) (repE ((R - (k - top+1)) * C)) hx us 0 C [] rfl (hu us (by simp))
     rw [List.nil_append,List.nil_append] at this
     rw [this]
     have e:=hj 0 (by simp) (by omega) (by omega)
     have e:ws[k - top]'(by omega)=us:=e
     rw [e]
     unfold rowPad
     simp
    ·rw [out (by omega),Nat.min_eq_right (by omega),Nat.min_eq_right (by omega)]
   ·rw [out (by omega),show k - top=k+1 - top by omega]
  rw [hfst,zIY hl hw l (k+1) (fun x hx=>hu x (List.mem_cons_of_mem _ hx)) (fun j hjl h1 h2=>?_),List.length_cons,show k+1+l.length=k+(l.length+1) by omega]
  have:=hj (j+1) (by simp;omega) (by omega) (by omega)
  simp only [List.getElem_cons_succ] at this
  rw [← this]
  congr 1;omega
theorem zOU {R C top:Nat} (S:LaidT) (hS:LaidOk C S):(seenS S).foldl (putV R C top) (repE (R * C))=(viewW R top (S.1 ++ [S.2])).flatMap (rowPad C):=by
 have hall:∀ us∈S.1 ++ [S.2],wR us<=C:=fun us h=>by
  rcases List.mem_append.1 h with z | z
  ·exact (hS.1 us z).1
  ·have:us=S.2:=by simpa using z
   rw [this];exact hS.2.1
 have hlen:=zG5 R top (S.1 ++ [S.2])
 have hget:=zI3 R top (S.1 ++ [S.2])
 have hwr:∀ us∈viewW R top (S.1 ++ [S.2]),wR us<=C:=fun us h=>by
  rcases zGE h with z | z
  ·rw [z];exact Nat.zero_le _
  ·exact hall us z
 rw [zH0,← zJ7 C R (viewW R top (S.1 ++ [S.2]))]
 generalize hws:viewW R top (S.1 ++ [S.2])=ws at *
 have:=zIY (R:=R) (C:=C) (top:=top) hlen hwr (S.1 ++ [S.2]) 0 hall (fun j hj h1 h2=>by
  rw [hget _ h2,show top+(0+j - top)=j by omega];unfold List.getD;rw [List.getElem?_eq_getElem hj];rfl)
 rw [Nat.zero_sub,Nat.zero_min] at this
 rw [this]
 refine zHM hlen _ _ rfl (Nat.min_le_right _ _) (fun j hj hr=>?_)
 rw [hget j hj]
 have:(S.1 ++ [S.2]).length<=top+j:=by omega
 simp [List.getD,List.getElem?_eq_none this]
theorem zJG {A B:Type} (f:B->A->B) (l:List A) (z:B) (i:Nat) (h:i < l.length):(l.take (i+1)).foldl f z=f ((l.take i).foldl f z) l[i]:=by
 rw [List.take_succ_eq_append_getElem h,List.foldl_append];rfl
end Go.AE.F
