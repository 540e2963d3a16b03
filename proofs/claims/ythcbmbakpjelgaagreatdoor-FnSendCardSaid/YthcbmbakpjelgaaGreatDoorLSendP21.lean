/- Plain laws of those functions. -/
import Derived.Test.YthcbmbakpjelgaaGreatDoorLSendP20
namespace Go.AE.F
open Go.AE
def Go1 (N:Nat) (l:List Int) (g g':GridT) (n:Nat):Prop :=
 n<=l.length/\∀ (rest:List Int) (z:GridT) (f:Nat) {Q:Type} (k:GridT×GridT×Unit->Option Q),rest.length+l.length<=60000->loopP (zB1.l5 N) (f+n) (l ++ rest,z,g,()) k=loopP (zB1.l5 N) f (rest,z,g',()) k
theorem Go1.nil (N:Nat) (g:GridT):Go1 N [] g g 0:=⟨by simp,fun _ _ _ _ _ _=>rfl⟩
theorem Go1.app {N:Nat} {a b:List Int} {g g1 g2:GridT} {n m:Nat} (h1:Go1 N a g g1 n) (h2:Go1 N b g1 g2 m):Go1 N (a ++ b) g g2 (n+m) :=
 ⟨by have:=h1.1;have:=h2.1;rw [List.length_append];omega,fun rest z f Q k hl=>by
  rw [List.length_append] at hl
  rw [List.append_assoc,show f+(n+m)=(f+m)+n by omega,h1.2 (b ++ rest) z (f+m) k (by rw [List.length_append];omega),h2.2 rest z f k (by omega)]⟩
theorem zHD (p:Int) (t:List Int):sub (p::t) 1 (pLen (p::t))=t:=by unfold sub pLen;simp
theorem zOW (a b:List Int) (n:Nat) (h:n=a.length):sub (a ++ b) (n:Int) (pLen (a ++ b))=b:=by
 subst h;unfold sub pLen;rw [Int.toNat_natCast,Int.toNat_natCast,List.take_of_length_le (Nat.le_refl _),List.drop_left]
theorem zO8 {N:Nat} {p:Int} (hc:ctlG p=false) {g g':GridT} (h:zAN N g p=some g'):Go1 N [p] g g' 1:=by
 have h1:p≠27/\p≠13/\p≠10/\p≠8:=by
  unfold ctlG at hc
  simp only [Bool.or_eq_false_iff,decide_eq_false_iff_not] at hc
  omega
 refine ⟨by simp,fun rest z f Q k hl=>?_⟩
 simp only [List.length_singleton] at hl
 rw [zCO,List.singleton_append]
 unfold zB1.l5
 simp only []
 have hlen:pLen (p::rest)=((rest.length+1:Nat):Int):=rfl
 have i0:idx (p::rest) 0=some p:=rfl
 rw [zHD,hlen,pGt_t (by omega),ifB_t,i0,zA2,pLe_t (by omega),ifB_t,pLe_t (by omega),ifB_t,pLe_t (Int.le_refl _),ifB_t,pEq_f h1.1,ifB_f,zA2,ifB_f,zA2,ifB_f,ifB_f,pEq_f h1.2.1,ifB_f,pEq_f h1.2.2.1,ifB_f,pEq_f h1.2.2.2,ifB_f,zDE,zA2,hc,zCZ,Bool.not_false,ifB_t,h,zA2]
theorem zN6 {N:Nat} {seq:List Int} (hseq:1<=seq.length) {g g':GridT} (h:∀ t:List Int,t.length<=60000->zAE N g (seq ++ t)=some ((seq.length:Int),g')):Go1 N (27::91::seq) g g' 1:=by
 refine ⟨by simp,fun rest z f Q k hl=>?_⟩
 simp only [List.length_cons] at hl
 rw [zCO,List.cons_append,List.cons_append]
 unfold zB1.l5
 simp only []
 have hlen:pLen (27::91::(seq ++ rest))=((seq.length+rest.length+2:Nat):Int):=by unfold pLen;simp;omega
 have hlen2:pLen (91::(seq ++ rest))=((seq.length+rest.length+1:Nat):Int):=by unfold pLen;simp
 have hlen3:pLen (seq ++ rest)=((seq.length+rest.length:Nat):Int):=by unfold pLen;simp
 have i0:idx (27::91::(seq ++ rest)) 0=some 27:=rfl
 have i1:idx (91::(seq ++ rest)) 0=some 91:=rfl
 rw [zHD,zHD,hlen,pGt_t (by omega),ifB_t,i0,zA2,pLe_t (by omega),ifB_t,pLe_t (by omega),ifB_t,pLe_t (Int.le_refl _),ifB_t,pEq_t rfl,ifB_t,hlen2,pGt_t (by omega),zA2,ifB_t,i1,zA2,pEq_t rfl,zA2,ifB_t,ifB_t,pLe_t (by omega),ifB_t,pLe_t (Int.le_refl _),ifB_t,h rest (by omega),zA2]
 simp only []
 rw [zOW seq rest seq.length rfl,hlen3,pLe_t (by omega),ifB_t,pLe_t (by omega),ifB_t,pLe_t (Int.le_refl _),ifB_t]
theorem zMX {N:Nat} (hN:200 < N) {R C:Nat} (hR:R<=24) (hC:C<=80) (cells:List CellT) (row col:Int) (hang:Bool) (attr:Int) (r c:Nat) (hr:r < R) (hc:c < C) :
  Go1 N (goP r c) (gS R C cells row col hang attr) (gS R C cells (r:Int) (c:Int) false attr) 1:=by
 refine zN6 (by simp;omega) fun t ht=>?_
 have hs:=seq_H N hR hC cells row col hang attr (r+1) (c+1) (by omega) (by omega)
 have:=zOQ N (by omega) (gS R C cells row col hang attr) _ (r+1) (c+1) (by omega) (by omega) 72 (by omega) t (by omega) hs
 rw [List.append_assoc,List.cons_append,List.append_assoc,List.cons_append,List.nil_append]
 rw [this]
 have e1:(((r+1:Nat):Int) - 1)=(r:Int):=by omega
 have e2:(((c+1:Nat):Int) - 1)=(c:Int):=by omega
 rw [e1,e2]
 congr 2
 simp;omega
theorem go_k {N:Nat} (hN:200 < N) {R C r:Nat} (hC:2<=C/\C<=80) (hr:r < R) (hR:R<=24) {X old Z:List CellT} (hX:X.length=r * C) (ho:old.length=C) (hl:(X ++ (old ++ Z)).length<=2000) (attr:Int) :
  Go1 N kP (gS R C (X ++ (old ++ Z)) (r:Int) 0 false attr) (gS R C (X ++ (repE C ++ Z)) (r:Int) 0 false attr) 1:=by
 refine zN6 (seq:=[75]) (by simp) fun t ht=>?_
 obtain ⟨f,rfl⟩:∃ f,N=f+1:=⟨N - 1,by omega⟩
 unfold zAE
 rw [zCO,zCP]
 refine (zII (f+1) ([75] ++ t) (by simp;omega) 0 0 _ _ [0] 75 (by omega) t rfl (seq_K (f+1) (by omega) hC hr hR hX ho hl attr) _ _).trans rfl
theorem go_m {N:Nat} (hN:200 < N) {R C:Nat} (cells:List CellT) (row col:Int) (hang:Bool) (attr:Int) (a:Nat) (ha:a<=3) :
  Go1 N (mP a) (gS R C cells row col hang attr) (gS R C cells row col hang (a:Int)) 1:=by
 refine zN6 (by simp) fun t ht=>?_
 have hs:=seq_m N (R:=R) (C:=C) cells row col hang attr (a:Int) (by omega)
 have:=zOV N (by omega) (gS R C cells row col hang attr) _ a (by omega) 109 (by omega) t (by omega) hs
 rw [List.append_assoc,List.cons_append,List.nil_append]
 rw [this]
 congr 2
 simp
def rS (R C r:Nat) (X Z A:List CellT) (attr:Int):GridT:=gS R C (X ++ (A ++ (repE (C - A.length) ++ Z))) (r:Int) (colJ C A.length) (hangJ C A.length) attr
theorem zOY {N:Nat} (hN:200 < N) {R C r:Nat} (hC:2<=C/\C<=80) (hr:r < R) (hR:R<=24) {X Z A:List CellT} (hX:X.length=r * C) (hZ:X.length+C+Z.length<=2000) (hw:noW A) (u:UnitT) (hu:uOk u) (hj:A.length+(uC u).length<=C) :
  ∃ n,Go1 N u.1 (rS R C r X Z A u.2) (rS R C r X Z (A ++ uC u) u.2) n:=by
 obtain ⟨f1,f2,f3,p,t,e1,e2,e3⟩:=zEU hu
 obtain ⟨pts,a⟩:=u
 simp only at e1 f1 f2 f3
 subst e1
 have hwr:=zET p
 have hlen0:∀ l:List Int,(uC (p::l,a)).length=(wG p).toNat:=fun l=>by
  have hwd:wideC (cellU (p::l,a))=decide (wG p=2):=rfl
  rw [zM4,hwd]
  by_cases h2:wG p=2
  ·rw [decide_eq_true h2,if_pos rfl,h2];rfl
  ·rw [decide_eq_false h2,if_neg (by simp)];omega
 rw [hlen0] at hj
 have hA:A.length < C:=by omega
 have s1:Go1 N [p] (rS R C r X Z A a) (rS R C r X Z (A ++ uC ([p],a)) a) 1:=by
  refine zO8 (f3 p (by simp)).2 ?_
  have:=zMZ N (by omega) hC hr hR hX hw p a e2 (C - A.length) (by omega) (by omega) (Z:=Z) (by simp;omega)
  unfold rS
  have c0:colJ C A.length=(A.length:Int):=by unfold colJ;rw [if_neg (by omega)]
  have h0:hangJ C A.length=false:=by unfold hangJ;rw [decide_eq_false (by omega)]
  have hl1:(A ++ uC ([p],a)).length=A.length+(wG p).toNat:=by rw [List.length_append,hlen0 []]
  rw [c0,h0,this,hl1,Nat.sub_sub]
 have s2:∀ (q l:List Int),l.length+1+q.length<=4->(∀ x∈q,wG x=0/\ctlG x=false)->∃ n,Go1 N q (rS R C r X Z (A ++ uC (p::l,a)) a) (rS R C r X Z (A ++ uC (p::(l ++ q),a)) a) n:=by
  intro q
  induction q with
  | nil=>intro l _ _;rw [List.append_nil];exact ⟨0,Go1.nil N _⟩
  | cons x q ih =>
   intro l hl hq
   rw [List.length_cons] at hl
   obtain ⟨n,hn⟩:=ih (l ++ [x]) (by simp;omega) (fun y hy=>hq y (List.mem_cons_of_mem _ hy))
   obtain ⟨hx0,hxc⟩:=hq x (by simp)
   have one:Go1 N [x] (rS R C r X Z (A ++ uC (p::l,a)) a) (rS R C r X Z (A ++ uC (p::(l ++ [x]),a)) a) 1:=by
    refine zO8 hxc ?_
    have:=zNJ N (by omega) hC hr hR hX hw (p::l,a) (by simp) x a hx0 (by rw [hlen0];omega) (T:=repE (C - (A.length+(wG p).toNat)) ++ Z) (by simp [hlen0];omega)
    have em:modU x (p::l,a)=(p::(l ++ [x]),a):=by unfold modU;rw [if_pos (by simp;omega)];simp
    rw [em,hlen0] at this
    unfold rS
    have hl1:(A ++ uC (p::l,a)).length=A.length+(wG p).toNat:=by rw [List.length_append,hlen0]
    have hl2:(A ++ uC (p::(l ++ [x]),a)).length=A.length+(wG p).toNat:=by rw [List.length_append,hlen0]
    rw [hl1,hl2,this]
   have:=Go1.app one hn
   rw [List.append_assoc] at this
   exact ⟨1+n,this⟩
 obtain ⟨n,hn⟩:=s2 t [] (by simp at f2;simp;omega) (fun x hx=>⟨e3 x hx,(f3 x (List.mem_cons_of_mem _ hx)).2⟩)
 exact ⟨1+n,Go1.app s1 hn⟩
theorem zJ2 {N:Nat} (hN:200 < N) {R C r:Nat} (hC:2<=C/\C<=80) (hr:r < R) (hR:R<=24) {X Z:List CellT} (hX:X.length=r * C) (hZ:X.length+C+Z.length<=2000) :
  ∀ (us:List UnitT) (A:List CellT) (a:Int),(∀ u∈us,uOk u)->noW A->A.length+wR us<=C->(0<=a/\a<=3)->∃ n,Go1 N (ptsU a us).1 (rS R C r X Z A a) (rS R C r X Z (A ++ rowUC us) (ptsU a us).2) n
 | [],A,a,_,_,_,_=>⟨0,by simp only [ptsU,rowUC,List.flatMap_nil,List.append_nil];exact Go1.nil N _⟩
 | u::t,A,a,hu,hw,hj,ha=>by
  have e:wR (u::t)=(uC u).length+wR t:=by unfold wR rowUC;simp
  have e0:rowUC (u::t)=uC u ++ rowUC t:=by unfold rowUC;simp
  obtain ⟨f1,_,_,_⟩:=zEU (hu u (by simp))
  obtain ⟨n1,h1⟩:=zOY hN hC hr hR hX hZ hw u (hu u (by simp)) (by omega)
  obtain ⟨n2,h2⟩:=zJ2 hN hC hr hR hX hZ t (A ++ uC u) u.2 (fun x hx=>hu x (List.mem_cons_of_mem _ hx)) (zJC A u) (by rw [List.length_append];omega) f1
  have h0:∃ n,Go1 N (if u.2=a then [] else mP u.2.toNat) (rS R C r X Z A a) (rS R C r X Z A u.2) n:=by
   by_cases hq:u.2=a
   ·rw [if_pos hq,hq];exact ⟨0,Go1.nil N _⟩
   ·rw [if_neg hq]
    have:=go_m hN (R:=R) (C:=C) (X ++ (A ++ (repE (C - A.length) ++ Z))) (r:Int) (colJ C A.length) (hangJ C A.length) a u.2.toNat (by omega)
    rw [Int.toNat_of_nonneg f1.1] at this
    exact ⟨1,this⟩
  obtain ⟨n0,h0⟩:=h0
  have:=Go1.app (Go1.app h0 h1) h2
  rw [show A ++ uC u ++ rowUC t=A ++ rowUC (u::t) by rw [e0,List.append_assoc]] at this
  exact ⟨_,this⟩
theorem zP2 {N:Nat} (hN:200 < N) {R C r:Nat} (hC:2<=C/\C<=80) (hr:r < R) (hR:R<=24) {X old Z:List CellT} (hX:X.length=r * C) (ho:old.length=C) (hl:(X ++ (old ++ Z)).length<=2000) (us:List UnitT) (hu:∀ u∈us,uOk u) (hw:wR us<=C) (row col:Int) (hang:Bool) :
  ∃ n,Go1 N (rowP r us) (gS R C (X ++ (old ++ Z)) row col hang 0) (gS R C (X ++ (rowPad C us ++ Z)) (r:Int) (colJ C (wR us)) (hangJ C (wR us)) 0) n:=by
 have hl':=hl
 simp only [List.length_append] at hl'
 have s1:=zMX hN hR hC.2 (X ++ (old ++ Z)) row col hang 0 r 0 hr (by omega)
 have s2:=go_k hN hC hr hR hX ho hl 0
 have s12:=Go1.app s1 s2
 have estart:gS R C (X ++ (repE C ++ Z)) (r:Int) 0 false 0=rS R C r X Z [] 0:=by
  unfold rS colJ hangJ
  rw [if_neg (by simp;omega),decide_eq_false (by simp;omega)]
  simp
 rw [estart] at s12
 obtain ⟨n3,s3⟩:=zJ2 hN hC hr hR hX (Z:=Z) (by omega) us [] 0 hu zOP (by simpa using hw) (by omega)
 obtain ⟨_,hfin⟩:=zH6 (us:=us) (a:=0) hu (by omega)
 rw [List.nil_append] at s3
 have eend:∀ a,rS R C r X Z (rowUC us) a=gS R C (X ++ (rowPad C us ++ Z)) (r:Int) (colJ C (wR us)) (hangJ C (wR us)) a:=fun a=>by
  unfold rS rowPad
  have:(rowUC us).length=wR us:=rfl
  rw [this,List.append_assoc]
 rw [eend] at s3
 have s4:∃ n,Go1 N (if (ptsU 0 us).2=0 then [] else mP 0) (gS R C (X ++ (rowPad C us ++ Z)) (r:Int) (colJ C (wR us)) (hangJ C (wR us)) (ptsU 0 us).2) (gS R C (X ++ (rowPad C us ++ Z)) (r:Int) (colJ C (wR us)) (hangJ C (wR us)) 0) n:=by
  by_cases hz:(ptsU 0 us).2=0
  ·rw [if_pos hz,hz];exact ⟨0,Go1.nil N _⟩
  ·rw [if_neg hz];exact ⟨1,go_m hN _ _ _ _ _ 0 (by omega)⟩
 obtain ⟨n4,s4⟩:=s4
 have:=Go1.app (Go1.app s12 s3) s4
 exact ⟨_,this⟩
end Go.AE.F
namespace Go.AE.F
open Go.AE
def hxd (m:Int):Int:=if m < 10 then 48+m else 87+m
def hx (b:UInt8):List Int:=[hxd (b.toNat / 16),hxd (b.toNat % 16)]
theorem zJP (N:Nat) (s:ByteArray) (hN:2 < N):zCR N [s]=some (decide ((s.data.toList.length:Int) > 20000)):=by
 unfold zCR zA6 zA1
 obtain ⟨n,rfl⟩:∃ q,N=q+2:=⟨N - 2,by omega⟩
 simp only [zCO,zA1.l2,zCG,pLen,List.length_singleton]
 have e0:∀ x:ByteArray,idx [x] 0=some x:=fun x=>rfl
 rw [pLt_t (by omega),ifB_t,e0,zA2,zA2,zP1]
 by_cases h:(s.data.toList.length:Int) > 20000
 ·rw [pGt_t h,ifB_t,decide_eq_true h]
  rfl
 ·rw [pGt_f (by omega),ifB_f,decide_eq_false h,zC6 (by omega) (by omega),pLt_f (by omega),ifB_f]
  rfl
end Go.AE.F
