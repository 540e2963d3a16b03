/- Plain laws of those functions. -/
import Derived.Test.YthcbmbakpjelgaaGreatDoorLSendP18
namespace Go.AE.F
open Go.AE
theorem zJC (A:List CellT) (u:UnitT):noW (A ++ uC u):=fun B c h=>by
 rw [zEL] at h
 unfold uT at h
 cases hw:wideC (cellU u) with
 | true =>
  rw [hw,if_pos rfl] at h
  have e:A ++ [cellU u,([],u.2,())]=(A ++ [cellU u]) ++ [([],u.2,())]:=by simp
  rw [e] at h
  have:=List.append_inj_right' h rfl
  simp only [List.cons.injEq,and_true] at this
  rw [← this];rfl
 | false =>
  rw [hw,if_neg (by simp)] at h
  have:=List.append_inj_right' h rfl
  simp only [List.cons.injEq,and_true] at this
  rw [← this];exact hw
theorem zNJ (N:Nat) (hN:10 < N) {R C r:Nat} (hC:2<=C/\C<=80) (hr:r < R) (hR:R<=24) {X A T:List CellT} (hX:X.length=r * C) (hw:noW A) (u:UnitT) (hu:u.1≠[]) (p attr:Int) (h0:wG p=0) (hj:A.length+(uC u).length<=C) (hl:(X ++ ((A ++ uC u) ++ T)).length<=2000) :
  zAN N (gS R C (X ++ ((A ++ uC u) ++ T)) (r:Int) (colJ C (A.length+(uC u).length)) (hangJ C (A.length+(uC u).length)) attr) p =
   some (gS R C (X ++ ((A ++ uC (modU p u)) ++ T)) (r:Int) (colJ C (A.length+(uC u).length)) (hangJ C (A.length+(uC u).length)) attr):=by
 have hm:r * C+C<=24 * 80:=by have:=Nat.mul_le_mul (Nat.le_trans (Nat.succ_le_of_lt hr) hR) hC.2;rw [Nat.succ_mul] at this;exact this
 have hul:1<=(uC u).length:=by rw [zEL];simp
 have hpos:0 < u.1.length:=List.length_pos_iff.2 hu
 have hlen:(X ++ ((A ++ uC u) ++ T)).length=r * C+(A.length+(uC u).length)+T.length:=by simp [hX];omega
 generalize hjj:A.length+(uC u).length=j at *
 unfold zAN
 rw [zDB N hN,zA2,pEq_t h0,ifB_t]
 have hrc:(r:Int) * (C:Int)=((r * C:Nat):Int):=by simp
 have ecell:X ++ ((A ++ uC u) ++ T)=(X ++ A) ++ cellU u::(uT u ++ T):=by rw [zEL];simp
 have ecell2:X ++ ((A ++ uC (modU p u)) ++ T)=(X ++ A) ++ cellU (modU p u)::(uT u ++ T):=by rw [zEL,zO6 p u hu];simp
 have blk:∀ (col:Int) (hang:Bool) (q:Int),q=((X ++ A).length:Int) ->
   (bindO (idx (X ++ ((A ++ uC u) ++ T)) q) fun y43 =>
    bindO (idx (X ++ ((A ++ uC u) ++ T)) q) fun y44 =>
    bindO (zB0 N y44) fun y45 =>
    bindO (
     ifB (pNot y45) (
      bindO (idx (X ++ ((A ++ uC u) ++ T)) q) fun y47 =>
      some (pLt (pLen y47.1) 4)) (
      some false)) fun y46 =>
    ifB y46 (
     bindO (idx (X ++ ((A ++ uC u) ++ T)) q) fun y48 =>
     bindO (zAA N y48.1) fun y49 =>
     ifB (pFit y49 [p]) (
      bindO (idx (X ++ ((A ++ uC u) ++ T)) q) fun y50 =>
      some (((R:Int),(C:Int),pSet (X ++ ((A ++ uC u) ++ T)) q (pApp y49 [p],y50.2),(r:Int),col,hang,attr,()):GridT)) (
      none)) (
     some ((R:Int),(C:Int),X ++ ((A ++ uC u) ++ T),(r:Int),col,hang,attr,())))=some ((R:Int),(C:Int),X ++ ((A ++ uC (modU p u)) ++ T),(r:Int),col,hang,attr,()):=fun col hang q hq=>by
  subst hq
  have ix:idx (X ++ ((A ++ uC u) ++ T)) ((X ++ A).length:Int)=some (cellU u):=by rw [ecell,zES]
  have he:zB0 N (cellU u)=some false:=by rw [zF3,decide_eq_false (show ¬ (cellU u).1=[] from hu)]
  simp only [ix,zA2,he,zCZ,Bool.not_false,ifB_t]
  have el:pLen (cellU u).1=((u.1.length:Nat):Int):=rfl
  rw [el]
  by_cases h4:u.1.length < 4
  ·have em:modU p u=(u.1 ++ [p],u.2):=by unfold modU;rw [if_pos h4]
   rw [pLt_t (by omega),ifB_t,zIU N _ (by show u.1.length<=_;omega),zA2,zD0 (by show u.1.length+1<=_;omega),ifB_t,ecell2,ecell,zER,em]
   rfl
  ·have em:modU p u=u:=by unfold modU;rw [if_neg h4]
   rw [pLt_f (by omega),ifB_f,em]
 have hhalf:∀ (col:Int) (hang:Bool),zAV N ((R:Int),(C:Int),X ++ ((A ++ uC u) ++ T),(r:Int),col,hang,attr,()) ((r * C+j - 1:Nat):Int)=some (wideC (cellU u)):=fun col hang=>by
  rw [zLN N hN _ (show (2:Int)<=(C:Int) by omega) (r * C+j - 1) (by show r * C+j - 1 < (X ++ ((A ++ uC u) ++ T)).length;omega) (by show (X ++ ((A ++ uC u) ++ T)).length<=2000;omega)]
  congr 1
  cases hwd:wideC (cellU u) with
  | false =>
   have e1:uC u=[cellU u]:=by unfold uC;rw [hwd];rfl
   have e1l:(uC u).length=1:=by rw [e1];rfl
   rw [show r * C+j - 1=r * C+A.length by omega]
   have:=zKQ (R:=R) (T:=uC u ++ T) hX (by omega:A.length < C) hw (r:Int) col hang attr
   rw [List.append_assoc]
   exact this
  | true =>
   have e1:uC u=[cellU u,([],u.2,())]:=by unfold uC;rw [hwd];rfl
   have e1l:(uC u).length=2:=by rw [e1];rfl
   unfold halfG
   have hmod:((r * C+j - 1:Nat):Int) % (C:Int)=((A.length+1:Nat):Int):=by
    rw [show r * C+j - 1=r * C+(A.length+1) by omega];exact zGD (by omega)
   show (decide (0 < ((r * C+j - 1:Nat):Int) % (C:Int)) && _)=true
   rw [hmod,decide_eq_true (by omega),Bool.true_and]
   have:cellD ((R:Int),(C:Int),X ++ ((A ++ uC u) ++ T),(r:Int),col,hang,attr,()) (r * C+j - 1 - 1)=cellU u:=by
    unfold cellD
    show (X ++ ((A ++ uC u) ++ T)).getD _ _=_
    rw [ecell,show r * C+j - 1 - 1=(X ++ A).length by rw [List.length_append,hX];omega]
    simp [List.getD]
   rw [this];exact hwd
 have hxa:((X ++ A).length:Int)=((r * C+A.length:Nat):Int):=by rw [List.length_append,hX]
 have em:pMul .i64 (r:Int) (C:Int)=((r * C:Nat):Int):=by rw [zDA (by omega) (by omega),hrc]
 suffices hz:zCB N (gS R C (X ++ ((A ++ uC u) ++ T)) (r:Int) (colJ C j) (hangJ C j) attr) p=some (gS R C (X ++ ((A ++ uC (modU p u)) ++ T)) (r:Int) (colJ C j) (hangJ C j) attr) by rw [hz,zA2]
 unfold zCB gS
 simp only [em]
 have narrow:wideC (cellU u)=false->((r * C+j - 1:Nat):Int)=((X ++ A).length:Int):=fun hwd=>by
  have e1:uC u=[cellU u]:=by unfold uC;rw [hwd];rfl
  have e1l:(uC u).length=1:=by rw [e1];rfl
  rw [hxa];omega
 have wide:wideC (cellU u)=true->pSub .i64 ((r * C+j - 1:Nat):Int) 1=((X ++ A).length:Int):=fun hwd=>by
  have e1:uC u=[cellU u,([],u.2,())]:=by unfold uC;rw [hwd];rfl
  have e1l:(uC u).length=2:=by rw [e1];rfl
  rw [hxa,zCX (by omega) (by omega)];omega
 unfold colJ hangJ
 by_cases hjc:j=C
 ·simp only [if_pos hjc,decide_eq_true hjc]
  have eat:pAdd .i64 ((r * C:Nat):Int) ((C:Int) - 1)=((r * C+j - 1:Nat):Int):=by rw [zC6 (by omega) (by omega)];omega
  simp only [eat]
  rw [zCZ,Bool.not_true,ifB_f,hhalf,zA2]
  cases hwd:wideC (cellU u) with
  | true=>rw [ifB_t];exact blk _ _ _ (wide hwd)
  | false=>rw [ifB_f];exact blk _ _ _ (narrow hwd)
 ·simp only [if_neg hjc,decide_eq_false hjc]
  have eat:pSub .i64 (pAdd .i64 ((r * C:Nat):Int) (j:Int)) 1=((r * C+j - 1:Nat):Int):=by rw [zC6 (by omega) (by omega),zCX (by omega) (by omega)];omega
  simp only [eat]
  rw [zCZ,Bool.not_false,ifB_t,pEq_f (by omega),ifB_f,hhalf,zA2]
  cases hwd:wideC (cellU u) with
  | true=>rw [ifB_t];exact blk _ _ _ (wide hwd)
  | false=>rw [ifB_f];exact blk _ _ _ (narrow hwd)
theorem seq_H (N:Nat) {R C:Nat} (hR:R<=24) (hC:C<=80) (cells:List CellT) (row col:Int) (hang:Bool) (attr:Int) (a b:Nat) (ha:1<=a/\a<=R) (hb:1<=b/\b<=C) :
  zBF N (gS R C cells row col hang attr) 72 [(a:Int),(b:Int)]=some (gS R C cells ((a:Int) - 1) ((b:Int) - 1) false attr):=by
 unfold zBF
 rw [zD0 (by simp),ifB_t]
 have i0:idx (pApp [(a:Int),(b:Int)] [0]) 0=some (a:Int):=rfl
 have i1:idx (pApp [(a:Int),(b:Int)] [0]) 1=some (b:Int):=rfl
 rw [i0,zA2,zA2,pEq_f (by omega),ifB_f,pEq_f (by omega),ifB_f,pEq_f (by omega),ifB_f,pEq_f (by omega),ifB_f,pEq_t rfl,ifB_t,i1,zA2,zA2]
 have m1:pMax (a:Int) 1=(a:Int):=by unfold pMax;split <;> omega
 have m2:pMax (b:Int) 1=(b:Int):=by unfold pMax;split <;> omega
 have m3:pMin (a:Int) (R:Int)=(a:Int):=by unfold pMin;split <;> omega
 have m4:pMin (b:Int) (C:Int)=(b:Int):=by unfold pMin;split <;> omega
 have eR:(gS R C cells row col hang attr).1=(R:Int):=rfl
 have eC:(gS R C cells row col hang attr).2.1=(C:Int):=rfl
 rw [m1,m2,eR,eC,m3,m4,zCX (by omega) (by omega),zCX (by omega) (by omega)]
 rfl
theorem seq_K (N:Nat) (hN:100 < N) {R C r:Nat} (hC:2<=C/\C<=80) (hr:r < R) (hR:R<=24) {X old Z:List CellT} (hX:X.length=r * C) (ho:old.length=C) (hl:(X ++ (old ++ Z)).length<=2000) (attr:Int) :
  zBF N (gS R C (X ++ (old ++ Z)) (r:Int) 0 false attr) 75 [0]=some (gS R C (X ++ (repE C ++ Z)) (r:Int) 0 false attr):=by
 have hm:r * C+C<=24 * 80:=by have:=Nat.mul_le_mul (Nat.le_trans (Nat.succ_le_of_lt hr) hR) hC.2;rw [Nat.succ_mul] at this;exact this
 have hrc:(r:Int) * (C:Int)=((r * C:Nat):Int):=by simp
 unfold zBF
 rw [zD0 (by simp),ifB_t]
 have i0:idx (pApp [(0:Int)] [0]) 0=some (0:Int):=rfl
 rw [i0,zA2,zA2,pEq_f (by omega),ifB_f,pEq_f (by omega),ifB_f,pEq_f (by omega),ifB_f,pEq_f (by omega),ifB_f,pEq_f (by omega),ifB_f,pEq_f (by omega),ifB_f,pEq_t rfl,ifB_t]
 have e1:pAdd .i64 (pMul .i64 (gS R C (X ++ (old ++ Z)) (r:Int) 0 false attr).2.2.2.1 (gS R C (X ++ (old ++ Z)) (r:Int) 0 false attr).2.1) (gS R C (X ++ (old ++ Z)) (r:Int) 0 false attr).2.2.2.2.1=((r * C:Nat):Int):=by
  show pAdd .i64 (pMul .i64 (r:Int) (C:Int)) 0=_
  rw [zDA (by omega) (by omega),hrc,zC6 (by omega) (by omega)];omega
 have e2:pMul .i64 (pAdd .i64 (gS R C (X ++ (old ++ Z)) (r:Int) 0 false attr).2.2.2.1 1) (gS R C (X ++ (old ++ Z)) (r:Int) 0 false attr).2.1=(((r+1) * C:Nat):Int):=by
  show pMul .i64 (pAdd .i64 (r:Int) 1) (C:Int)=_
  have:((r:Int)+1) * (C:Int)=(((r+1) * C:Nat):Int):=by simp
  have h2:(r+1) * C=r * C+C:=Nat.succ_mul r C
  rw [zC6 (by omega) (by omega),zDA (by rw [this];omega) (by rw [this];omega),this]
 rw [e1,e2,zMO N hN hC hX ho hl,zA2]
 rfl
theorem seq_m (N:Nat) {R C:Nat} (cells:List CellT) (row col:Int) (hang:Bool) (attr a:Int) (ha:0<=a/\a<=3) :
  zBF N (gS R C cells row col hang attr) 109 [a]=some (gS R C cells row col hang a):=by
 unfold zBF
 rw [zD0 (by simp),ifB_t]
 have i0:idx (pApp [a] [0]) 0=some a:=rfl
 rw [i0,zA2,zA2,pEq_f (by omega),ifB_f,pEq_f (by omega),ifB_f,pEq_f (by omega),ifB_f,pEq_f (by omega),ifB_f,pEq_f (by omega),ifB_f,pEq_f (by omega),ifB_f,pEq_f (by omega),ifB_f,pEq_t rfl,ifB_t,zA2,zA2,zCQ,zA2,decide_eq_true ha.1,decide_eq_true ha.2,Bool.and_self,ifB_t,zA2,zA2]
 rfl
def digs (n:Nat):List Int:=if n < 10 then [(48+n:Nat)] else [(48+n / 10:Nat),(48+n % 10:Nat)]
theorem zE8 {l:List Int} {i:Nat} {d:Int} {t:List Int} (h:l.drop i=d::t):idx l (i:Int)=some d/\l.drop (i+1)=t/\i < l.length:=by
 have hi:i < l.length:=by
  rcases Nat.lt_or_ge i l.length with z | z
  ·exact z
  ·rw [List.drop_eq_nil_of_le z] at h;cases h
 rw [zDX hi] at h
 injection h with h1 h2
 exact ⟨by rw [zCT hi,h1],h2,hi⟩
abbrev EscT:=List Int×Int×List Int×Int×Int×GridT×List Int×Unit
def escS (pts:List Int) (k i:Nat) (g:GridT) (L:List Int):EscT:=(pts,(k:Int),pts,(pts.length:Int),(i:Int),g,L,())
theorem zG2 (N:Nat) (pts:List Int) (hp:pts.length<=100000) (k i:Nat) (g:GridT) (L:List Int) (hL:L.length<=1000) (n d:Nat) (t:List Int) (hd:d < 10) (hk:k+1<=4) (hn:10 * n+d<=99999) (h:pts.drop i=((48+d:Nat):Int)::t) {Q:Type} (kn:_->Option Q) (kx:_->Option Q) :
  zAE.l3 N (escS pts k i g (L ++ [(n:Int)])) kn kx=kn (escS pts (k+1) (i+1) g (L ++ [((10 * n+d:Nat):Int)])):=by
 obtain ⟨h1,h2,h3⟩:=zE8 h
 unfold zAE.l3 escS
 simp only []
 have el:pSub .i64 (pLen (L ++ [(n:Int)])) 1=(L.length:Int):=by
  rw [zCP,List.length_append,List.length_singleton,zCX (by omega) (by omega)];omega
 rw [pLt_t (by omega),ifB_t,h1,zA2,zCQ,zA2,decide_eq_true (by omega),decide_eq_true (by omega),Bool.and_self,ifB_t,el]
 simp only [zDW,zA2,zFC]
 rw [zC6 (by omega) (by omega),pGt_f (by omega),ifB_f,zA2]
 have e1:pMin (pSub .i64 (pAdd .i64 (pMul .i64 10 (n:Int)) ((48+d:Nat):Int)) 48) 99999=((10 * n+d:Nat):Int):=by
  rw [zDA (by omega) (by omega),zC6 (by omega) (by omega),zCX (by omega) (by omega)]
  unfold pMin;split <;> omega
 rw [e1]
 show kn (pts,(k:Int)+1,pts,(pts.length:Int),pAdd .i64 (i:Int) 1,g,L ++ [((10 * n+d:Nat):Int)],())=_
 rw [zC6 (by omega) (by omega)]
 rfl
theorem zNC (N:Nat) (pts:List Int) (hp:pts.length<=100000) (k i:Nat) (g:GridT) (L:List Int) (hL:L.length<=1000) (t:List Int) (h:pts.drop i=59::t) {Q:Type} (kn:_->Option Q) (kx:_->Option Q) :
  zAE.l3 N (escS pts k i g L) kn kx=kn (escS pts 0 (i+1) g (L ++ [0])):=by
 obtain ⟨h1,h2,h3⟩:=zE8 h
 unfold zAE.l3 escS
 simp only []
 rw [pLt_t (by omega),ifB_t,h1,zA2,zCQ,zA2,show (decide ((48:Int)<=59) && decide ((59:Int)<=57))=false from rfl,ifB_f,pEq_t rfl,ifB_t,zD0 (by simp;omega),ifB_t,zA2]
 show kn (pts,0,pts,(pts.length:Int),pAdd .i64 (i:Int) 1,g,L ++ [0],())=_
 rw [zC6 (by omega) (by omega)]
 rfl
theorem zII (N:Nat) (pts:List Int) (hp:pts.length<=100000) (k i:Nat) (g g':GridT) (L:List Int) (e:Int) (he:59 < e) (t:List Int) (h:pts.drop i=e::t) (hs:zBF N g e L=some g') {Q:Type} (kn:_->Option Q) (kx:_->Option Q) :
  zAE.l3 N (escS pts k i g L) kn kx=kx (.inr (((i+1:Nat):Int),g',())):=by
 obtain ⟨h1,h2,h3⟩:=zE8 h
 unfold zAE.l3 escS
 simp only []
 rw [pLt_t (by omega),ifB_t,h1,zA2,zCQ,zA2,decide_eq_true (by omega),decide_eq_false (by omega),Bool.and_false,ifB_f,pEq_f (by omega),ifB_f,hs,zA2,zA2,zC6 (by omega) (by omega)]
 rfl
theorem zIN (N:Nat) (pts:List Int) (hp:pts.length<=100000) (i:Nat) (g:GridT) (L:List Int) (hL:L.length<=1000) (n:Nat) (hn:n < 100) (t:List Int) (h:pts.drop i=digs n ++ t) (f:Nat) {Q:Type} (k:_->Option Q) :
  ∃ c:Nat,loopP (zAE.l3 N) (f+(digs n).length) (escS pts 0 i g (L ++ [0])) k=loopP (zAE.l3 N) f (escS pts c (i+(digs n).length) g (L ++ [(n:Int)])) k/\pts.drop (i+(digs n).length)=t:=by
 unfold digs at h ⊢
 by_cases h10:n < 10
 ·rw [if_pos h10] at h ⊢
  obtain ⟨_,h2,_⟩:=zE8 h
  refine ⟨1,?_,h2⟩
  simp only [List.length_singleton]
  have:=zG2 N pts hp 0 i g L hL 0 n t h10 (by omega) (by omega) h (Q:=Q)
  rw [zCO]
  refine (this _ _).trans ?_
  rw [show 10 * 0+n=n by omega]
 ·rw [if_neg h10] at h ⊢
  obtain ⟨_,h2,_⟩:=zE8 h
  obtain ⟨_,h3,_⟩:=zE8 h2
  refine ⟨2,?_,h3⟩
  simp only [List.length_cons,List.length_nil]
  have s1:=zG2 N pts hp 0 i g L hL 0 (n / 10) _ (by omega) (by omega) (by omega) h (Q:=Q)
  have s2:=zG2 N pts hp 1 (i+1) g L hL (n / 10) (n % 10) _ (by omega) (by omega) (by omega) h2 (Q:=Q)
  rw [show f+(0+1+1)=(f+1)+1 by omega,zCO]
  refine (s1 _ _).trans ?_
  rw [show 10 * 0+n / 10=n / 10 by omega,zCO]
  refine (s2 _ _).trans ?_
  rw [show 10 * (n / 10)+n % 10=n by omega]
theorem zF1 (n:Nat):(digs n).length<=2/\1<=(digs n).length:=by unfold digs;split <;> simp
theorem zOV (N:Nat) (hN:10 < N) (g g':GridT) (n:Nat) (hn:n < 100) (e:Int) (he:59 < e) (t:List Int) (hp:t.length<=90000) (hs:zBF N g e [(n:Int)]=some g') :
  zAE N g (digs n ++ e::t)=some ((((digs n).length+1:Nat):Int),g'):=by
 have hd:=zF1 n
 obtain ⟨f,rfl⟩:∃ f,N=(f+1)+(digs n).length:=⟨N - 1 - (digs n).length,by omega⟩
 unfold zAE
 rw [zCP]
 obtain ⟨c,h1,h2⟩:=zIN (f+1+(digs n).length) (digs n ++ e::t) (by simp;omega) 0 g [] (by simp) n hn (e::t) rfl (f+1) (onSum (fun d =>
   let x79:=d.1;
   let x80:=d.2.1;
   some ((pLen x79),x80)) (
  fun d =>
  let x81:=d.1;
  let x82:=d.2.1;
  some (x81,x82)))
 refine h1.trans ?_
 rw [zCO]
 refine (zII _ _ (by simp;omega) c _ g g' _ e he t h2 hs _ _).trans ?_
 show some _=some _
 rw [Nat.zero_add]
theorem zOQ (N:Nat) (hN:20 < N) (g g':GridT) (n m:Nat) (hn:n < 100) (hm:m < 100) (e:Int) (he:59 < e) (t:List Int) (hp:t.length<=90000) (hs:zBF N g e [(n:Int),(m:Int)]=some g') :
  zAE N g (digs n ++ 59::(digs m ++ e::t))=some ((((digs n).length+(digs m).length+2:Nat):Int),g'):=by
 have hd:=zF1 n
 have hd2:=zF1 m
 obtain ⟨f,rfl⟩:∃ f,N=(((f+1)+(digs m).length)+1)+(digs n).length:=⟨N - 2 - (digs n).length - (digs m).length,by omega⟩
 generalize hNN:f+1+(digs m).length+1+(digs n).length=NN at *
 unfold zAE
 rw [zCP]
 generalize hpts:digs n ++ 59::(digs m ++ e::t)=pts
 have hpl:pts.length<=100000:=by rw [← hpts];simp;omega
 obtain ⟨c,h1,h2⟩:=zIN NN pts hpl 0 g [] (by simp) n hn (59::(digs m ++ e::t)) hpts.symm ((f+1+(digs m).length)+1) (onSum (fun d =>
   let x79:=d.1;
   let x80:=d.2.1;
   some ((pLen x79),x80)) (
  fun d =>
  let x81:=d.1;
  let x82:=d.2.1;
  some (x81,x82)))
 rw [hNN] at h1
 refine h1.trans ?_
 rw [zCO,zNC NN pts hpl c _ g _ (by simp) _ h2]
 obtain ⟨_,h3,_⟩:=zE8 h2
 obtain ⟨c2,h4,h5⟩:=zIN NN pts hpl (0+(digs n).length+1) g [(n:Int)] (by simp) m hm (e::t) h3 (f+1) (onSum (fun d =>
   let x79:=d.1;
   let x80:=d.2.1;
   some ((pLen x79),x80)) (
  fun d =>
  let x81:=d.1;
  let x82:=d.2.1;
  some (x81,x82)))
 refine h4.trans ?_
 rw [zCO]
 refine (zII NN pts hpl c2 _ g g' _ e he t h5 hs _ _).trans ?_
 show some _=some _
 congr 3
 omega
end Go.AE.F
