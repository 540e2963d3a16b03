/- Plain laws of those functions. -/
import Derived.Test.YthcbmbakpjelgaaGreatDoorLSendP17
namespace Go.AE.F
open Go.AE
def gS (R C:Nat) (cells:List CellT) (row col:Int) (hang:Bool) (attr:Int):GridT:=((R:Int),(C:Int),cells,row,col,hang,attr,())
def noW (A:List CellT):Prop:=∀ B c,A=B ++ [c]->wideC c=false
theorem zOP:noW []:=fun B c h=>by simp at h
theorem zKQ {R C r:Nat} {X A T:List CellT} (hX:X.length=r * C) (hA:A.length < C) (hw:noW A) (row col:Int) (hang:Bool) (attr:Int):halfG (gS R C (X ++ (A ++ T)) row col hang attr) (r * C+A.length)=false:=by
 unfold halfG
 have hm:((r * C+A.length:Nat):Int) % (C:Int)=(A.length:Int):=zGD hA
 show (decide (0 < ((r * C+A.length:Nat):Int) % (C:Int)) && _)=false
 rw [hm]
 rcases List.eq_nil_or_concat A with e | ⟨B,c,e⟩
 ·rw [e];rfl
 ·rw [List.concat_eq_append] at e
  have hc:cellD (gS R C (X ++ (A ++ T)) row col hang attr) (r * C+A.length - 1)=c:=by
   unfold cellD
   show (X ++ (A ++ T)).getD _ _=c
   rw [e,List.length_append,List.length_singleton,show r * C+(B.length+1) - 1=(X ++ B).length by rw [List.length_append,hX];omega]
   have:X ++ (B ++ [c] ++ T)=(X ++ B) ++ c::T:=by simp
   rw [this]
   simp [List.getD]
  rw [hc,hw B c e];simp
theorem zGH (N:Nat) (hN:10 < N) {R C r:Nat} (hC:2<=C/\C<=80) {X A T:List CellT} {y:CellT} (hX:X.length=r * C) (hA:A.length < C) (hw:noW A) (hl:(X ++ (A ++ y::T)).length<=2000) (row col:Int) (hang:Bool) (attr a:Int) :
  zBU N (gS R C (X ++ (A ++ y::T)) row col hang attr) ((r * C+A.length:Nat):Int) a=some (gS R C (X ++ (A ++ ([],a,())::T)) row col hang attr):=by
 unfold zBU
 have hlt:r * C+A.length < (X ++ (A ++ y::T)).length:=by simp;omega
 rw [zLN N hN _ (show (2:Int)<=(C:Int) by omega) (r * C+A.length) hlt hl,zA2,zKQ hX hA hw,ifB_f]
 have e:X ++ (A ++ y::T)=(X ++ A) ++ y::T:=by simp
 have e2:X ++ (A ++ ([],a,())::T)=(X ++ A) ++ ([],a,())::T:=by simp
 have ei:((r * C+A.length:Nat):Int)=((X ++ A).length:Int):=by rw [List.length_append,hX]
 have g3:(gS R C (X ++ (A ++ y::T)) row col hang attr).2.2.1=(X ++ A) ++ y::T:=e
 rw [g3,ei,zES,zA2,zA2,zER,← e2]
 rfl
theorem zOT (n:Nat):noW (repE n):=fun B c h=>by
 have:c∈repE n:=by rw [h];simp
 rw [(List.mem_replicate.1 this).2];rfl
theorem zMO (N:Nat) (hN:100 < N) {R C r:Nat} (hC:2<=C/\C<=80) {X old Z:List CellT} (hX:X.length=r * C) (ho:old.length=C) (hl:(X ++ (old ++ Z)).length<=2000) (row col:Int) (hang:Bool) (attr:Int) :
  zAG N (gS R C (X ++ (old ++ Z)) row col hang attr) ((r * C:Nat):Int) (((r+1) * C:Nat):Int)=some (gS R C (X ++ (repE C ++ Z)) row col hang attr):=by
 unfold zAG
 simp only [List.length_append] at hl
 have hm:(r+1) * C=r * C+C:=Nat.succ_mul r C
 refine (zDS (step:=zAG.l1 N) (fun i=>((((r+1) * C:Nat):Int),((r * C+i:Nat):Int),gS R C (X ++ (repE i ++ (old.drop i ++ Z))) row col hang attr,())) C _ (gS R C (X ++ (repE C ++ Z)) row col hang attr,()) (fun i kn hi=>?_) (fun kn=>?_) N (by omega)).trans rfl
 ·unfold zAG.l1
  simp only []
  rw [pLt_t (by omega),ifB_t,zDX (by omega:i < old.length),List.cons_append]
  have:=zGH N (by omega) (R:=R) hC (X:=X) (A:=repE i) (T:=old.drop (i+1) ++ Z) (y:=old[i]'(by omega)) hX (by simp;omega) (zOT i) (by simp;omega) row col hang attr 0
  rw [List.length_replicate] at this
  rw [this,zA2,zC6 (by omega) (by omega)]
  congr 1
  have e:repE i ++ (([],0,()):CellT)::(old.drop (i+1) ++ Z)=repE (i+1) ++ (old.drop (i+1) ++ Z):=by
   rw [show repE (i+1)=repE i ++ [([],0,())] from List.replicate_succ'];simp
  rw [e]
  congr 2
 ·unfold zAG.l1
  simp only []
  rw [pLt_f (by omega),ifB_f,List.drop_eq_nil_of_le (by omega)]
  rfl
def colJ (C j:Nat):Int:=if j=C then (C:Int) - 1 else (j:Int)
def hangJ (C j:Nat):Bool:=decide (j=C)
theorem zLU (N:Nat) (hN:10 < N) {R C r:Nat} (hC:2<=C/\C<=80) {X A Z:List CellT} (hX:X.length=r * C) (hw:noW A) (p attr:Int) (h0:wG p≠0) (k:Nat) (hk:A.length+k=C) (hwk:(wG p).toNat<=k) (hl:(X ++ (A ++ (repE k ++ Z))).length<=2000) (row col:Int) {Q:Type} (kk:_->Option Q) :
  loopP (zAN.l8 N) N (p,wG p,((r * C+A.length:Nat):Int),wG p,0,gS R C (X ++ (A ++ (repE k ++ Z))) row col false attr,()) kk =
   kk (p,wG p,((r * C+A.length:Nat):Int),gS R C (X ++ (A ++ (List.replicate (wG p).toNat ([],attr,()) ++ (repE (k - (wG p).toNat) ++ Z)))) row col false attr,()):=by
 have hwr:=zET p
 simp only [List.length_append,List.length_replicate] at hl
 obtain ⟨N,rfl⟩:∃ M,N=M+3:=⟨N - 3,by omega⟩
 have h8:∀ (i:Nat) (cells cells':List CellT) (f:Nat) (kk:_->Option Q),(i:Int) < wG p->i < 3->zBU (N+3) (gS R C cells row col false attr) ((r * C+A.length+i:Nat):Int) attr=some (gS R C cells' row col false attr) ->
   loopP (zAN.l8 (N+3)) (f+1) (p,wG p,((r * C+A.length:Nat):Int),wG p,(i:Int),gS R C cells row col false attr,()) kk=loopP (zAN.l8 (N+3)) f (p,wG p,((r * C+A.length:Nat):Int),wG p,((i+1:Nat):Int),gS R C cells' row col false attr,()) kk:=fun i cells cells' f kk hi h3 he=>by
  rw [zCO]
  unfold zAN.l8
  simp only []
  have eg:(gS R C cells row col false attr).2.2.2.2.2.2.1=attr:=rfl
  rw [pLt_t hi,ifB_t,eg,zC6 (by omega) (by omega)]
  have ei:((r * C+A.length:Nat):Int)+(i:Int)=((r * C+A.length+i:Nat):Int):=by omega
  rw [ei,he,zA2,zC6 (by omega) (by omega)]
  rfl
 have hend:∀ (i:Nat) (cells:List CellT) (f:Nat),(i:Int)=wG p->loopP (zAN.l8 (N+3)) (f+1) (p,wG p,((r * C+A.length:Nat):Int),wG p,(i:Int),gS R C cells row col false attr,()) kk=kk (p,wG p,((r * C+A.length:Nat):Int),gS R C cells row col false attr,()):=fun i cells f hi=>by
  rw [zCO]
  unfold zAN.l8
  simp only []
  rw [pLt_f (by omega),ifB_f]
 have e1:=zGH (N+3) (by omega) (R:=R) hC (X:=X) (A:=A) (T:=repE (k - 1) ++ Z) (y:=([],0,())) hX (by omega) hw (by simp;omega) row col false attr attr
 have ek:repE k=([],0,())::repE (k - 1):=by rw [← List.replicate_succ];congr 1;omega
 rcases hwr with z | z | z
 ·exact absurd z h0
 ·rw [z] at hwk ⊢
  have:=h8 0 (X ++ (A ++ (repE k ++ Z))) (X ++ (A ++ ([],attr,())::(repE (k - 1) ++ Z))) (N+2) kk (by omega) (by omega) (by rw [ek];exact e1)
  rw [z] at this hend
  refine this.trans ?_
  refine (hend 1 _ (N+1) rfl).trans ?_
  rfl
 ·rw [z] at hwk ⊢
  have hk2:2<=k:=hwk
  have:=h8 0 (X ++ (A ++ (repE k ++ Z))) (X ++ (A ++ ([],attr,())::(repE (k - 1) ++ Z))) (N+2) kk (by omega) (by omega) (by rw [ek];exact e1)
  have ek2:repE (k - 1)=([],0,())::repE (k - 2):=by rw [← List.replicate_succ];congr 1;omega
  have hw2:noW (A ++ [([],attr,())]):=fun B c h=>by
   have:=List.append_inj_right' h rfl
   simp only [List.cons.injEq,and_true] at this
   rw [← this];rfl
  have e2:=zGH (N+3) (by omega) (R:=R) hC (X:=X) (A:=A ++ [([],attr,())]) (T:=repE (k - 2) ++ Z) (y:=([],0,())) hX (by simp;omega) hw2 (by simp;omega) row col false attr attr
  have this2:=h8 1 (X ++ (A ++ ([],attr,())::(repE (k - 1) ++ Z))) (X ++ (A ++ ([],attr,())::([],attr,())::(repE (k - 2) ++ Z))) (N+1) kk (by omega) (by omega) (by
   rw [ek2]
   simp only [List.append_assoc,List.cons_append,List.nil_append,List.length_append,List.length_singleton] at e2
   rw [Nat.add_assoc]
   exact e2)
  rw [z] at this this2 hend
  refine this.trans (this2.trans ?_)
  refine (hend 2 _ N rfl).trans ?_
  rfl
theorem zMZ (N:Nat) (hN:10 < N) {R C r:Nat} (hC:2<=C/\C<=80) (hr:r < R) (hR:R<=24) {X A Z:List CellT} (hX:X.length=r * C) (hw:noW A) (p attr:Int) (h0:wG p≠0) (k:Nat) (hk:A.length+k=C) (hwk:(wG p).toNat<=k) (hl:(X ++ (A ++ (repE k ++ Z))).length<=2000) :
    zAN N (gS R C (X ++ (A ++ (repE k ++ Z))) (r:Int) (A.length:Int) false attr) p =
      some (gS R C (X ++ ((A ++ uC ([p],attr)) ++ (repE (k - (wG p).toNat) ++ Z))) (r:Int) (colJ C (A.length+(wG p).toNat)) (hangJ C (A.length+(wG p).toNat)) attr):=by
  have hwr:=zET p
  have hm:r * C+C<=24 * 80:=by have:=Nat.mul_le_mul (Nat.le_trans (Nat.succ_le_of_lt hr) hR) hC.2;rw [Nat.succ_mul] at this;exact this
  unfold zAN
  rw [zDB N hN,zA2,pEq_f h0,ifB_f]
  have eh:(gS R C (X ++ (A ++ (repE k ++ Z))) (r:Int) (A.length:Int) false attr).2.2.2.2.2.1=false:=rfl
  have er:(gS R C (X ++ (A ++ (repE k ++ Z))) (r:Int) (A.length:Int) false attr).2.2.2.1=(r:Int):=rfl
  have ecl:(gS R C (X ++ (A ++ (repE k ++ Z))) (r:Int) (A.length:Int) false attr).2.2.2.2.1=(A.length:Int):=rfl
  have eC:(gS R C (X ++ (A ++ (repE k ++ Z))) (r:Int) (A.length:Int) false attr).2.1=(C:Int):=rfl
  have eat:pAdd .i64 (pMul .i64 (r:Int) (C:Int)) (A.length:Int)=((r * C+A.length:Nat):Int):=by
    have:(r:Int) * (C:Int)=((r * C:Nat):Int):=by simp
    rw [zDA (by omega) (by omega),this,zC6 (by omega) (by omega)];simp
  rw [eh,ifB_f,er,ecl,eC,eat]
  have fin : ∀ {kk : _ -> Option GridT}, kk = (fun d : Int × Int × Int × GridT × Unit =>
          let x93:=d.1;
          let x94:=d.2.1;
          let x95:=d.2.2.1;
          let x96:=d.2.2.2.1;
          bindO (idx x96.2.2.1 x95) fun y97 =>
          bindO (idx x96.2.2.1 x95) fun y98 =>
          ifB (pEq (pAdd Go.IntKind.i64 x96.2.2.2.2.1 x94) x96.2.1) (
            some (x96.1,(x96.2.1,((pSet x96.2.2.1 x95 ([x93],y98.2)),(x96.2.2.2.1,((pSub Go.IntKind.i64 x96.2.1 1),(true,x96.2.2.2.2.2.2))))))) (
            some (x96.1,(x96.2.1,((pSet x96.2.2.1 x95 ([x93],y98.2)),(x96.2.2.2.1,((pAdd Go.IntKind.i64 x96.2.2.2.2.1 x94),x96.2.2.2.2.2))))))) ->
      loopP (zAN.l8 N) N (p,wG p,((r * C+A.length:Nat):Int),wG p,0,gS R C (X ++ (A ++ (repE k ++ Z))) (r:Int) (A.length:Int) false attr,()) kk =
        some (gS R C (X ++ ((A ++ uC ([p],attr)) ++ (repE (k - (wG p).toNat) ++ Z))) (r:Int) (colJ C (A.length+(wG p).toNat)) (hangJ C (A.length+(wG p).toNat)) attr):=fun {kk} hkk=>by
    rw [zLU N hN hC hX hw p attr h0 k hk hwk hl,hkk]
    simp only []
    have ecell:X ++ (A ++ (List.replicate (wG p).toNat ([],attr,()) ++ (repE (k - (wG p).toNat) ++ Z)))=(X ++ A) ++ ([],attr,())::(List.replicate ((wG p).toNat - 1) ([],attr,()) ++ (repE (k - (wG p).toNat) ++ Z)):=by
      have:List.replicate (wG p).toNat ((([],attr,())):CellT)=([],attr,())::List.replicate ((wG p).toNat - 1) ([],attr,()):=by rw [← List.replicate_succ];congr 1;omega
      rw [this];simp
    have eu:uC ([p],attr)=([p],attr,())::List.replicate ((wG p).toNat - 1) ([],attr,()):=by
      have hwd:wideC (cellU ([p],attr))=decide (wG p=2):=rfl
      unfold uC
      rw [hwd]
      rcases hwr with z | z | z
      · exact absurd z h0
      · rw [z];rfl
      · rw [z];rfl
    have g3:(gS R C (X ++ (A ++ (List.replicate (wG p).toNat ([],attr,()) ++ (repE (k - (wG p).toNat) ++ Z)))) (r:Int) (A.length:Int) false attr).2.2.1=(X ++ A) ++ ([],attr,())::(List.replicate ((wG p).toNat - 1) ([],attr,()) ++ (repE (k - (wG p).toNat) ++ Z)):=ecell
    have ei:((r * C+A.length:Nat):Int)=((X ++ A).length:Int):=by rw [List.length_append,hX]
    rw [g3,ei,zES,zA2,zA2,zER]
    have g4:pAdd .i64 (gS R C (X ++ (A ++ (List.replicate (wG p).toNat ([],attr,()) ++ (repE (k - (wG p).toNat) ++ Z)))) (r:Int) (A.length:Int) false attr).2.2.2.2.1 (wG p)=((A.length+(wG p).toNat:Nat):Int):=by
      show pAdd .i64 (A.length:Int) (wG p)=_
      rw [zC6 (by omega) (by omega)];omega
    have ecells:(X ++ A) ++ ([p],attr,())::(List.replicate ((wG p).toNat - 1) ([],attr,()) ++ (repE (k - (wG p).toNat) ++ Z))=X ++ ((A ++ uC ([p],attr)) ++ (repE (k - (wG p).toNat) ++ Z)):=by rw [eu];simp
    rw [g4,ecells]
    unfold colJ hangJ
    by_cases hj:A.length+(wG p).toNat=C
    · have:((A.length+(wG p).toNat:Nat):Int)=(gS R C (X ++ (A ++ (List.replicate (wG p).toNat ([],attr,()) ++ (repE (k - (wG p).toNat) ++ Z)))) (r:Int) (A.length:Int) false attr).2.1:=by show _=(C:Int);omega
      rw [pEq_t this,ifB_t,if_pos hj,decide_eq_true hj]
      have e9:pSub .i64 (C:Int) 1=(C:Int) - 1:=zCX (by omega) (by omega)
      rw [← e9]
      rfl
    · have:((A.length+(wG p).toNat:Nat):Int)≠(gS R C (X ++ (A ++ (List.replicate (wG p).toNat ([],attr,()) ++ (repE (k - (wG p).toNat) ++ Z)))) (r:Int) (A.length:Int) false attr).2.1:=by show _≠(C:Int);omega
      rw [pEq_f this,ifB_f,if_neg hj,decide_eq_false hj]
      rfl
  by_cases h2:wG p=2
  · have hne:(A.length:Int)≠pSub .i64 (C:Int) 1:=by rw [zCX (by omega) (by omega)];rw [h2] at hwk;omega
    rw [pEq_t h2,ifB_t,pEq_f hne,ifB_f]
    exact fin rfl
  · rw [pEq_f h2,ifB_f]
    exact fin rfl
end Go.AE.F
