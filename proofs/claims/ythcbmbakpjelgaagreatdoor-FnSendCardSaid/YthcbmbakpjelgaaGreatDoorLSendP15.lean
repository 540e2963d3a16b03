/- Plain laws of those functions. -/
import Derived.Test.YthcbmbakpjelgaaGreatDoorLSendP14
namespace Go.AE.F
open Go.AE
theorem zGM (N:Nat) (hN:10000 < N) (R C:Nat) (hC:2<=C/\C<=80) (hR:R<=24) (L:List SeenT) (hl:L.length<=9000) (hok:∀ s∈L,seenOk C s) (top:Nat) (ht:top<=5000) (v:ViewT) (sp:Int×Int×Unit) {Q:Type} (k:_->Option Q) :
  loopP (zDC.l9 N) N ((R:Int),(C:Int),(top:Int),L,(L.length:Int),0,v,gV R C (repE (R * C)) 0 0,sp,()) k=k ((top:Int),v,gV R C (L.foldl (putV R C top) (repE (R * C))) 0 0,sp,()):=by
 have hRC:R * C<=24 * 80:=Nat.mul_le_mul hR hC.2
 refine zDS (step:=zDC.l9 N) (fun i=>((R:Int),(C:Int),(top:Int),L,(L.length:Int),(i:Int),v,gV R C ((L.take i).foldl (putV R C top) (repE (R * C))) 0 0,sp,())) L.length _ _ (fun i kn hi=>?_) (fun kn=>?_) N (by omega)
 ·unfold zDC.l9
  simp only []
  have hs:=hok _ (List.getElem_mem hi)
  have hcl:((L.take i).foldl (putV R C top) (repE (R * C))).length=R * C:=by rw [zFS];simp
  have e3:pAdd .i64 (i:Int) 1=((i+1:Nat):Int):=zC6 (by omega) (by omega)
  rw [zJG _ _ _ _ hi]
  generalize (L.take i).foldl (putV R C top) (repE (R * C))=cells at *
  have hx:idx L (i:Int)=some L[i]:=zCT hi
  rw [pLt_t (by omega),ifB_t,hx,zA2]
  generalize L[i]=s at *
  obtain ⟨s1,s2,s3,s4⟩:=hs
  have s5:s.2.2.1+1<=C:=by split at s4 <;> omega
  have ehi:pSub .i64 (pAdd .i64 (top:Int) (R:Int)) 1=(top:Int)+R - 1:=by rw [zC6 (by omega) (by omega),zCX (by omega) (by omega)]
  rw [zCQ,zA2,ehi,zCZ]
  unfold putV
  by_cases hin:(top:Int)<=s.2.1/\s.2.1<=(top:Int)+R - 1
  ·rw [decide_eq_true hin.1,decide_eq_true hin.2,if_pos hin,Bool.and_self,Bool.not_true,ifB_f]
   obtain ⟨r,hr⟩:∃ r:Nat,s.2.1=((top+r:Nat):Int):=⟨(s.2.1 - top).toNat,by omega⟩
   obtain ⟨c,hc⟩:∃ c:Nat,s.2.2.1=(c:Int):=⟨s.2.2.1.toNat,by omega⟩
   have hrR:r < R:=by omega
   have hb1:=Nat.mul_le_mul (Nat.succ_le_of_lt hrR) (Nat.le_refl C)
   rw [Nat.succ_mul] at hb1
   have er:(r:Int) * (C:Int)=((r * C:Nat):Int):=by simp
   have eat:pAdd .i64 (pMul .i64 (pSub .i64 s.2.1 (top:Int)) (C:Int)) s.2.2.1=((r * C+c:Nat):Int):=by
    rw [hr,hc,zCX (by omega) (by omega),show ((top+r:Nat):Int) - (top:Int)=(r:Int) by omega,zDA (by omega) (by omega),er,zC6 (by omega) (by omega)];simp
   have eat2:(s.2.1 - top) * C+s.2.2.1=((r * C+c:Nat):Int):=by
    rw [hr,hc,show ((top+r:Nat):Int) - (top:Int)=(r:Int) by omega,er];simp
   have hlt:r * C+c < cells.length:=by omega
   have g3:(gV R C cells 0 0).2.2.1=cells:=rfl
   simp only [eat,eat2,g3]
   have hs1:idx (pSet cells ((r * C+c:Nat):Int) s.1) ((r * C+c:Nat):Int)=some s.1:=by
    rw [idx_n];unfold pSet;rw [Int.toNat_natCast,List.getElem?_set_self hlt]
   rw [zCT hlt,zA2,zA2,hs1,zA2,zA2,zEC N _ (by omega),zA2]
   cases hw:wideC s.1 with
   | false =>
    rw [ifB_f,zA2,if_neg (by simp)]
    simp only [e3]
    rfl
   | true =>
    rw [hw] at s4
    have s4:s.2.2.1+2<=C:=s4
    have e4:pAdd .i64 ((r * C+c:Nat):Int) 1=((r * C+c+1:Nat):Int):=zC6 (by omega) (by omega)
    have e5:((r * C+c:Nat):Int)+1=((r * C+c+1:Nat):Int):=by omega
    rw [ifB_t,if_pos rfl,e4,e5,zCT (by simp [pSet];omega),zA2,zA2,zA2]
    simp only [e3]
    rfl
  ·have:(decide ((top:Int)<=s.2.1) && decide (s.2.1<=(top:Int)+R - 1))=false:=by
    rw [← Bool.not_eq_true];intro q;simp only [Bool.and_eq_true,decide_eq_true_eq] at q;exact hin q
   rw [this,Bool.not_false,ifB_t,zA2,if_neg hin]
   simp only [e3]
 ·unfold zDC.l9
  simp only []
  rw [pLt_f (by omega),ifB_f,List.take_length]
end Go.AE.F
namespace Go.AE.F
open Go.AE
def viewedG (p:List Int) (b:BufT) (C:Int):Bool:=(ptsG p && bufG b) && (decide (2<=C) && decide (C<=80))
theorem zKK (N:Nat) (p:List Int) (b:BufT) (C:Int) (hp:p.length < N) (hp2:p.length<=100000) (hb:b.1.length < N) (hb2:b.1.length<=100000):zEK N p b C=some (viewedG p b C):=by
 unfold zEK viewedG zCN
 rw [zE3 N p hp (by omega),zA2,zFV N b hb (by omega),zA2,zCQ,zA2,zA2,zD4,zA2,zD4,zA2]
theorem zN7 {C:Int} {rc:Int×Int} (h:rcOk C rc) (hC:2<=C):0<=(spotM C rc).1/\0<=(spotM C rc).2.1/\(spotM C rc).2.1 < C:=by
 obtain ⟨a1,a2,a3⟩:=h
 unfold spotM
 split <;> simp only [] <;> omega
end Go.AE.F
