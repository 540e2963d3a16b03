/- Plain laws of those functions. -/
import Derived.Test.YthcbmbakpjelgaaGreatDoorLSendP22
namespace Go.AE.F
open Go.AE
def CI (C:Nat) (cs:List CellT):Prop:=∀ (i:Nat) (h:i < cs.length),cs[i].1.length<=4/\(wideC cs[i]=true->(i+1) % C≠0)
theorem zJ6 {C:Nat} {cs:List CellT} (h:CI C cs) (j:Nat) {x:CellT} (h1:x.1.length<=4) (h2:wideC x=true->(j+1) % C≠0):CI C (cs.set j x):=fun i hi=>by
 rw [List.length_set] at hi
 rw [List.getElem_set]
 split
 ·rename_i e;subst e;exact ⟨h1,h2⟩
 ·exact h i hi
theorem zFA {C:Nat} {cs:List CellT} (h:CI C cs) (j:Nat) (a:Int×Unit):CI C (cs.set j ([],a)):=zJ6 h j (by simp) (fun q=>by cases q)
structure GI (R C:Nat) (g:GridT):Prop where
 rows:g.1=(R:Int)
 cols:g.2.1=(C:Int)
 len:g.2.2.1.length=R * C
 ci:CI C g.2.2.1
 r0:0<=g.2.2.2.1
 r1:g.2.2.2.1 < R
 c0:0<=g.2.2.2.2.1
 c1:g.2.2.2.2.1 < C
theorem GI.cells {R C:Nat} {g:GridT} (h:GI R C g) {cs:List CellT} (hl:cs.length=R * C) (hc:CI C cs):GI R C (g.1,(g.2.1,(cs,g.2.2.2))):=⟨h.rows,h.cols,hl,hc,h.r0,h.r1,h.c0,h.c1⟩
section
variable {N:Nat} {R C:Nat} (hC:2<=C/\C<=80) (hR:1<=R/\R<=24)
include hC hR
theorem zEQ:R * C<=1920:=Nat.mul_le_mul hR.2 hC.2
theorem zHG {g:GridT} (h:GI R C g):∃ a:Nat,pAdd .i64 (pMul .i64 g.2.2.2.1 g.2.1) g.2.2.2.2.1=(a:Int)/\a < R * C/\(a:Int)=g.2.2.2.1 * (C:Int)+g.2.2.2.2.1:=by
 have _:=hC
 have _:=hR
 obtain ⟨h1,h2,h3,h4,h5,h6,h7,h8⟩:=h
 obtain ⟨r,hr⟩:∃ r:Nat,g.2.2.2.1=(r:Int):=⟨g.2.2.2.1.toNat,by omega⟩
 obtain ⟨c,hc⟩:∃ c:Nat,g.2.2.2.2.1=(c:Int):=⟨g.2.2.2.2.1.toNat,by omega⟩
 have hb:=zEQ hC hR
 have hm:(r+1) * C<=R * C:=Nat.mul_le_mul_right C (by omega)
 rw [Nat.succ_mul] at hm
 have hrc:(r:Int) * (C:Int)=((r * C:Nat):Int):=by simp
 refine ⟨r * C+c,?_,by omega,?_⟩
 ·rw [hr,hc,h2,zDA (by omega) (by omega),hrc,zC6 (by omega) (by omega)];simp
 ·rw [hr,hc,hrc];simp
theorem zOK {g:GridT} (h:GI R C g) {a:Nat} (ha:(a:Int)=g.2.2.2.1 * (C:Int)+g.2.2.2.2.1) (hcol:g.2.2.2.2.1+2<=C):(a+1) % C≠0/\a+1 < R * C:=by
 have _:=hC
 have _:=hR
 obtain ⟨h1,h2,h3,h4,h5,h6,h7,h8⟩:=h
 obtain ⟨r,hr⟩:∃ r:Nat,g.2.2.2.1=(r:Int):=⟨g.2.2.2.1.toNat,by omega⟩
 obtain ⟨c,hc⟩:∃ c:Nat,g.2.2.2.2.1=(c:Int):=⟨g.2.2.2.2.1.toNat,by omega⟩
 have hm:(r+1) * C<=R * C:=Nat.mul_le_mul_right C (by omega)
 rw [Nat.succ_mul] at hm
 have hrc:(r:Int) * (C:Int)=((r * C:Nat):Int):=by simp
 rw [hr,hc,hrc] at ha
 have ea:a=r * C+c:=by omega
 subst ea
 have:(r * C+c+1) % C=c+1:=by rw [Nat.add_assoc,Nat.add_comm,Nat.add_mul_mod_self_right,Nat.mod_eq_of_lt (by omega)]
 exact ⟨by omega,by omega⟩
theorem zHI (s:GridT×Unit) (h:GI R C s.1) (a:Nat) (ha:a < R * C):Tot (fun s':GridT×Unit=>GI R C s'.1/\s'.1.2.2.2=s.1.2.2.2) (zB8 N s (a:Int)):=by
 have _:=hC
 have _:=hR
 have hb:=zEQ hC hR
 have hl:=h.len
 have e1:pAdd .i64 (a:Int) 1=((a+1:Nat):Int):=zC6 (by omega) (by omega)
 unfold zB8
 rw [zIV N s.1 (by rw [h.cols];omega) a (by omega) (by omega),zA2,e1]
 have hci:=h.ci
 have wend:∀ cs:List CellT,CI C cs->cs.length=R * C->∀ (hx:a < cs.length),wideC cs[a]=true->a+1 < R * C:=fun cs hcs hln hx hw=>by
  have:=(hcs a hx).2 hw
  rcases Nat.lt_or_ge (a+1) (R * C) with z | z
  ·exact z
  ·exfalso
   apply this
   have:a+1=R * C:=by omega
   rw [this,Nat.mul_mod_left]
 refine Tot.ite (fun hh=>?_) (fun _=>?_)
 ·have hpos:1<=a:=by
   unfold halfG at hh
   simp only [Bool.and_eq_true,decide_eq_true_eq] at hh
   rcases Nat.eq_zero_or_pos a with z | z
   ·rw [z] at hh;simp at hh
   ·exact z
  have e0:pSub .i64 (a:Int) 1=((a - 1:Nat):Int):=by rw [zCX (by omega) (by omega)];omega
  rw [e0,zCT (by omega:a - 1 < s.1.2.2.1.length),zA2,zA2]
  unfold pSet
  simp only [Int.toNat_natCast]
  generalize hcs:s.1.2.2.1.set (a - 1) ([],(s.1.2.2.1[a - 1]'(by omega)).2)=cs
  have hcl:cs.length=R * C:=by rw [← hcs,List.length_set];exact hl
  have hcc:CI C cs:=by rw [← hcs];exact zFA hci _ _
  rw [zCT (by omega:a < cs.length),zA2,zA2,zD6,zA2]
  refine Tot.ite (fun hw=>?_) (fun _=>Tot.ret ⟨h.cells hcl hcc,rfl⟩)
  have:=wend cs hcc hcl (by omega) hw
  rw [zCT (by omega:a+1 < cs.length),zA2,zA2]
  exact Tot.ret ⟨h.cells (by rw [List.length_set];exact hcl) (zFA hcc _ _),rfl⟩
 ·rw [zCT (by omega:a < s.1.2.2.1.length),zA2,zA2,zD6,zA2]
  refine Tot.ite (fun hw=>?_) (fun _=>Tot.ret ⟨h,rfl⟩)
  have:=wend _ hci hl (by omega) hw
  rw [zCT (by omega:a+1 < s.1.2.2.1.length),zA2,zA2]
  unfold pSet
  simp only [Int.toNat_natCast]
  exact Tot.ret ⟨h.cells (by rw [List.length_set];exact hl) (zFA hci _ _),rfl⟩
theorem zHJ (s:GridT×Unit) (h:GI R C s.1):Tot (fun s':GridT×Unit=>GI R C s'.1/\s'.1.2.2.2.2.1=s.1.2.2.2.2.1) (zBK N s):=by
 have _:=hC
 have _:=hR
 have hb:=zEQ hC hR
 have hl:=h.len
 obtain ⟨h1,h2,h3,h4,h5,h6,h7,h8⟩:=h
 unfold zBK
 rw [h1,zCX (by omega) (by omega)]
 refine Tot.ite (fun hh=>?_) (fun hh=>?_)
 ·have:s.1.2.2.2.1 < (R:Int) - 1:=by rw [pLt_d] at hh;exact of_decide_eq_true hh
  refine Tot.ret ⟨⟨rfl,h2,h3,h4,?_,?_,h7,h8⟩,rfl⟩
  ·show 0<=pAdd .i64 s.1.2.2.2.1 1;rw [zC6 (by omega) (by omega)];omega
  ·show pAdd .i64 s.1.2.2.2.1 1 < _;rw [zC6 (by omega) (by omega)];omega
 ·have hCR:C<=R * C:=Nat.le_mul_of_pos_left C (by omega)
  rw [h2,zCP,hl,pLe_t (by omega),ifB_t,pLe_t (by omega),ifB_t,pLe_t (Int.le_refl _),ifB_t,ifB_t,pLe_t (by omega),ifB_t]
  have es:sub s.1.2.2.1 (C:Int) ((R * C:Nat):Int)=s.1.2.2.1.drop C:=by rw [← hl];exact zO0 _ _
  have er:pRepl (C:Int) ((([],(0,())):CellT))=repE C:=by unfold pRepl;rw [Int.toNat_natCast]
  rw [es,er]
  have e0:pApp ([]:List CellT) (s.1.2.2.1.drop C)=s.1.2.2.1.drop C:=rfl
  refine Tot.fit (by simp <;> omega) (Tot.fit (by simp [pApp] <;> omega) (Tot.ret ⟨⟨rfl,rfl,?_,?_,h5,h6,h7,h8⟩,rfl⟩))
  ·show (pApp (pApp [] (s.1.2.2.1.drop C)) (repE C)).length=R * C
   rw [e0];simp [pApp,hl];omega
  ·show CI C (pApp (pApp [] (s.1.2.2.1.drop C)) (repE C))
   rw [e0]
   intro i hi
   have hi':i < (s.1.2.2.1.drop C ++ repE C).length:=hi
   show ((s.1.2.2.1.drop C ++ repE C)[i]'hi').1.length<=4/\_
   show _/\(wideC ((s.1.2.2.1.drop C ++ repE C)[i]'hi')=true->_)
   by_cases hlt:i < (s.1.2.2.1.drop C).length
   ·rw [List.getElem_append_left hlt,List.getElem_drop]
    have hlt2:C+i < s.1.2.2.1.length:=by rw [List.length_drop] at hlt;omega
    obtain ⟨g1,g2⟩:=h4 (C+i) hlt2
    refine ⟨g1,fun hw=>?_⟩
    have:=g2 hw
    rwa [Nat.add_assoc,Nat.add_mod_left] at this
   ·rw [List.getElem_append_right (by omega)]
    simp only [List.getElem_replicate]
    exact ⟨by simp,fun q=>by cases q⟩
theorem zJX (hN:2000 < N) (s:GridT×Unit) (h:GI R C s.1) (to:Nat) (hto:to<=R * C):Tot (fun s':GridT×Unit=>GI R C s'.1/\s'.1.2.2.2=s.1.2.2.2) (zAD N s (to:Int)):=by
 have _:=hC
 have _:=hR
 have hb:=zEQ hC hR
 obtain ⟨a,ea,ha,_⟩:=zHG hC hR h
 unfold zAD
 rw [ea]
 refine Tot.bind (zHI hC hR s h a ha) fun s1 ⟨g1,g2⟩=>?_
 refine zEO (fun m (d:Int×Int×(GridT×Unit)×Unit)=>∃ i:Nat,d.1=(to:Int)/\d.2.1=(i:Int)/\(to<=m+i)/\GI R C d.2.2.1.1/\d.2.2.1.1.2.2.2=s.1.2.2.2) (fun (e:(GridT×Unit)×Unit)=>GI R C e.1.1/\e.1.1.2.2.2=s.1.2.2.2) (fun e he=>Tot.ret he) ?_ N to _ (by omega) ⟨a,rfl,rfl,by omega,g1,g2⟩
 intro m d kn kx ⟨i,d1,d2,d3,d4,d5⟩ hn hx
 unfold zAD.l2
 simp only [d1,d2]
 refine Tot.ite (fun hh=>?_) (fun _=>hx _ ⟨d4,d5⟩)
 have hlt:i < to:=by rw [pLt_d] at hh;have:=of_decide_eq_true hh;omega
 have hln:=d4.len
 rw [zCT (by omega:i < d.2.2.1.1.2.2.1.length),zA2,zA2]
 refine hn (m - 1) _ (by omega) ⟨i+1,rfl,by show pAdd .i64 (i:Int) 1=_;rw [zC6 (by omega) (by omega)];rfl,by omega,?_,d5⟩
 unfold pSet
 rw [Int.toNat_natCast]
 exact d4.cells (by rw [List.length_set];exact hln) (zFA d4.ci _ _)
theorem zOS (s:GridT×Unit) (h:GI R C s.1) (p:Int):Tot (fun s':GridT×Unit=>GI R C s'.1) (zC4 N s p):=by
 have _:=hC
 have _:=hR
 have hb:=zEQ hC hR
 have hwr:=zET p
 unfold zC4
 rw [zDR,zA2]
 obtain ⟨a,ea,ha,ha2⟩:=zHG hC hR h
 have hln:=h.len
 refine Tot.ite (fun _=>?_) (fun h0=>?_)
 ·
  have blk:∀ q:Nat,q < R * C->Tot (fun s':GridT×Unit=>GI R C s'.1) (
    bindO (idx s.1.2.2.1 (q:Int)) fun y79 =>
    bindO (idx s.1.2.2.1 (q:Int)) fun y80 =>
    bindO (
     ifB (pGt (pLen y80.1) 0) (
      some (pLt (pLen y80.1) 4)) (
      some false)) fun y81 =>
    ifB y81 (
     bindO (idx s.1.2.2.1 (q:Int)) fun y82 =>
     bindO (idx s.1.2.2.1 (q:Int)) fun y83 =>
     bindO (zC1 N y83.1) fun y84 =>
     ifB (pFit y84 [p]) (
      bindO (idx s.1.2.2.1 (q:Int)) fun y85 =>
      bindO (idx s.1.2.2.1 (q:Int)) fun y86 =>
      some ((s.1.1,(s.1.2.1,((pSet s.1.2.2.1 (q:Int) ((pApp y84 [p]),y86.2)),s.1.2.2.2))),s.2)) (
      none)) (
     some s)):=fun q hq=>by
   have hqc:=h.ci q (by omega)
   simp only [zCT (by omega:q < s.1.2.2.1.length),zA2]
   by_cases hz:0 < (s.1.2.2.1[q]'(by omega)).1.length
   ·rw [zCP,pGt_t (by omega),ifB_t,zA2]
    by_cases h4:(s.1.2.2.1[q]'(by omega)).1.length < 4
    ·rw [pLt_t (by omega),ifB_t,zIQ N _ (by omega),zA2,zD0 (by simp;omega),ifB_t]
     unfold pSet
     rw [Int.toNat_natCast]
     refine Tot.ret (h.cells (by rw [List.length_set];exact hln) (zJ6 h.ci q (by simp [pApp];omega) fun hw=>hqc.2 ?_))
     have:wideC (pApp (s.1.2.2.1[q]'(by omega)).1 [p],(s.1.2.2.1[q]'(by omega)).2)=wideC (s.1.2.2.1[q]'(by omega)):=by
      unfold wideC pApp
      cases hl:(s.1.2.2.1[q]'(by omega)).1 with
      | nil=>rw [hl] at hz;simp at hz
      | cons x t=>rfl
     rw [← this];exact hw
    ·rw [pLt_f (by omega),ifB_f];exact Tot.ret h
   ·rw [zCP,pGt_f (by omega),ifB_f,zA2,ifB_f];exact Tot.ret h
  have hpos:∀ i:Nat,halfG s.1 i=true->1<=i:=fun i hh=>by
   unfold halfG at hh
   simp only [Bool.and_eq_true,decide_eq_true_eq] at hh
   rcases Nat.eq_zero_or_pos i with z | z
   ·rw [z] at hh;simp at hh
   ·exact z
  rw [ea]
  refine Tot.ite (fun _=>?_) (fun _=>?_)
  ·refine Tot.ite (fun _=>Tot.ret h) (fun hcz=>?_)
   have hcol:s.1.2.2.2.2.1≠0:=by rw [pEq_d] at hcz;exact of_decide_eq_false hcz
   have h1a:1<=a:=by
    have:=h.c0
    have h5:=h.r0
    have:0<=s.1.2.2.2.1 * (C:Int):=Int.mul_nonneg h5 (by omega)
    omega
   have e0:pSub .i64 (a:Int) 1=((a - 1:Nat):Int):=by rw [zCX (by omega) (by omega)];omega
   rw [e0,zIV N s.1 (by rw [h.cols];omega) (a - 1) (by omega) (by omega),zA2]
   refine Tot.ite (fun hh=>?_) (fun _=>blk (a - 1) (by omega))
   have:=hpos _ hh
   have e1:pSub .i64 ((a - 1:Nat):Int) 1=((a - 2:Nat):Int):=by rw [zCX (by omega) (by omega)];omega
   rw [e1]
   exact blk (a - 2) (by omega)
  ·rw [zIV N s.1 (by rw [h.cols];omega) a (by omega) (by omega),zA2]
   refine Tot.ite (fun hh=>?_) (fun _=>blk a ha)
   have:=hpos _ hh
   have e1:pSub .i64 (a:Int) 1=((a - 1:Nat):Int):=by rw [zCX (by omega) (by omega)];omega
   rw [e1]
   exact blk (a - 1) (by omega)
 ·have hw0:wG p≠0:=by rw [pEq_d] at h0;exact of_decide_eq_false h0
  have tail:∀ t:GridT×Unit,GI R C t.1->(wG p=2->t.1.2.2.2.2.1+2<=C)->Tot (fun s':GridT×Unit=>GI R C s'.1) (
   bindO (zB8 N t (pAdd Go.IntKind.i64 (pMul Go.IntKind.i64 t.1.2.2.2.1 t.1.2.1) t.1.2.2.2.2.1)) fun y105 =>
   ifB (pEq (wG p) 2) (
    bindO (zB8 N y105 (pAdd Go.IntKind.i64 (pAdd Go.IntKind.i64 (pMul Go.IntKind.i64 t.1.2.2.2.1 t.1.2.1) t.1.2.2.2.2.1) 1)) fun y106 =>
    bindO (idx y106.1.2.2.1 (pAdd Go.IntKind.i64 (pAdd Go.IntKind.i64 (pMul Go.IntKind.i64 t.1.2.2.2.1 t.1.2.1) t.1.2.2.2.2.1) 1)) fun y107 =>
    bindO (idx y106.1.2.2.1 (pAdd Go.IntKind.i64 (pAdd Go.IntKind.i64 (pMul Go.IntKind.i64 t.1.2.2.2.1 t.1.2.1) t.1.2.2.2.2.1) 1)) fun y108 =>
    bindO (idx (pSet y106.1.2.2.1 (pAdd Go.IntKind.i64 (pAdd Go.IntKind.i64 (pMul Go.IntKind.i64 t.1.2.2.2.1 t.1.2.1) t.1.2.2.2.2.1) 1) ([],(y106.1.2.2.2.2.2.2.1,()))) (pAdd Go.IntKind.i64 (pMul Go.IntKind.i64 t.1.2.2.2.1 t.1.2.1) t.1.2.2.2.2.1)) fun y109 =>
    bindO (idx (pSet y106.1.2.2.1 (pAdd Go.IntKind.i64 (pAdd Go.IntKind.i64 (pMul Go.IntKind.i64 t.1.2.2.2.1 t.1.2.1) t.1.2.2.2.2.1) 1) ([],(y106.1.2.2.2.2.2.2.1,()))) (pAdd Go.IntKind.i64 (pMul Go.IntKind.i64 t.1.2.2.2.1 t.1.2.1) t.1.2.2.2.2.1)) fun y110 =>
    ifB (pGe (pAdd Go.IntKind.i64 y106.1.2.2.2.2.1 (wG p)) y106.1.2.1) (
     some ((y106.1.1,(y106.1.2.1,((pSet (pSet y106.1.2.2.1 (pAdd Go.IntKind.i64 (pAdd Go.IntKind.i64 (pMul Go.IntKind.i64 t.1.2.2.2.1 t.1.2.1) t.1.2.2.2.2.1) 1) ([],(y106.1.2.2.2.2.2.2.1,()))) (pAdd Go.IntKind.i64 (pMul Go.IntKind.i64 t.1.2.2.2.1 t.1.2.1) t.1.2.2.2.2.1) ([p],(y106.1.2.2.2.2.2.2.1,()))),(y106.1.2.2.2.1,((pSub Go.IntKind.i64 y106.1.2.1 1),(true,y106.1.2.2.2.2.2.2)))))),y106.2)) (
     some ((y106.1.1,(y106.1.2.1,((pSet (pSet y106.1.2.2.1 (pAdd Go.IntKind.i64 (pAdd Go.IntKind.i64 (pMul Go.IntKind.i64 t.1.2.2.2.1 t.1.2.1) t.1.2.2.2.2.1) 1) ([],(y106.1.2.2.2.2.2.2.1,()))) (pAdd Go.IntKind.i64 (pMul Go.IntKind.i64 t.1.2.2.2.1 t.1.2.1) t.1.2.2.2.2.1) ([p],(y106.1.2.2.2.2.2.2.1,()))),(y106.1.2.2.2.1,((pAdd Go.IntKind.i64 y106.1.2.2.2.2.1 (wG p)),y106.1.2.2.2.2.2))))),y106.2))) (
    bindO (idx y105.1.2.2.1 (pAdd Go.IntKind.i64 (pMul Go.IntKind.i64 t.1.2.2.2.1 t.1.2.1) t.1.2.2.2.2.1)) fun y111 =>
    bindO (idx y105.1.2.2.1 (pAdd Go.IntKind.i64 (pMul Go.IntKind.i64 t.1.2.2.2.1 t.1.2.1) t.1.2.2.2.2.1)) fun y112 =>
    ifB (pGe (pAdd Go.IntKind.i64 y105.1.2.2.2.2.1 (wG p)) y105.1.2.1) (
     some ((y105.1.1,(y105.1.2.1,((pSet y105.1.2.2.1 (pAdd Go.IntKind.i64 (pMul Go.IntKind.i64 t.1.2.2.2.1 t.1.2.1) t.1.2.2.2.2.1) ([p],(y105.1.2.2.2.2.2.2.1,()))),(y105.1.2.2.2.1,((pSub Go.IntKind.i64 y105.1.2.1 1),(true,y105.1.2.2.2.2.2.2)))))),y105.2)) (
     some ((y105.1.1,(y105.1.2.1,((pSet y105.1.2.2.1 (pAdd Go.IntKind.i64 (pMul Go.IntKind.i64 t.1.2.2.2.1 t.1.2.1) t.1.2.2.2.2.1) ([p],(y105.1.2.2.2.2.2.2.1,()))),(y105.1.2.2.2.1,((pAdd Go.IntKind.i64 y105.1.2.2.2.2.1 (wG p)),y105.1.2.2.2.2.2))))),y105.2)))):=fun t ht hcol=>by
   obtain ⟨a,ea,ha,ha2⟩:=zHG hC hR ht
   rw [ea]
   have e1:pAdd .i64 (a:Int) 1=((a+1:Nat):Int):=zC6 (by omega) (by omega)
   rw [e1]
   have last:∀ u:GridT×Unit,GI R C u.1->∀ (cs:List CellT),cs.length=R * C->CI C cs->Tot (fun s':GridT×Unit=>GI R C s'.1) (
    ifB (pGe (pAdd Go.IntKind.i64 u.1.2.2.2.2.1 (wG p)) u.1.2.1) (
     some ((u.1.1,(u.1.2.1,(cs,(u.1.2.2.2.1,((pSub Go.IntKind.i64 u.1.2.1 1),(true,u.1.2.2.2.2.2.2)))))),u.2)) (
     some ((u.1.1,(u.1.2.1,(cs,(u.1.2.2.2.1,((pAdd Go.IntKind.i64 u.1.2.2.2.2.1 (wG p)),u.1.2.2.2.2.2))))),u.2))):=fun u hu cs hcl hcc=>by
    obtain ⟨u1,u2,u3,u4,u5,u6,u7,u8⟩:=hu
    have ec:pAdd .i64 u.1.2.2.2.2.1 (wG p)=u.1.2.2.2.2.1+wG p:=zC6 (by omega) (by omega)
    rw [ec,u2]
    refine Tot.ite (fun _=>Tot.ret ⟨u1,rfl,hcl,hcc,u5,u6,?_,?_⟩) (fun hq=>Tot.ret ⟨u1,rfl,hcl,hcc,u5,u6,?_,?_⟩)
    ·show 0<=pSub .i64 (C:Int) 1;rw [zCX (by omega) (by omega)];omega
    ·show pSub .i64 (C:Int) 1 < _;rw [zCX (by omega) (by omega)];omega
    ·show 0<=u.1.2.2.2.2.1+wG p;omega
    ·show u.1.2.2.2.2.1+wG p < _;rw [pGe_d] at hq;have:=of_decide_eq_false hq;omega
   refine Tot.bind (zHI hC hR t ht a ha) fun s1 ⟨g1,g2⟩=>?_
   have l1:=g1.len
   refine Tot.ite (fun h2=>?_) (fun h2=>?_)
   ·have hw2:wG p=2:=by rw [pEq_d] at h2;exact of_decide_eq_true h2
    obtain ⟨m1,m2⟩:=zOK hC hR ht ha2 (hcol hw2)
    refine Tot.bind (zHI hC hR s1 g1 (a+1) m2) fun s2 ⟨g3,_⟩=>?_
    have l2:=g3.len
    unfold pSet
    simp only [Int.toNat_natCast]
    rw [zCT (by omega:a+1 < s2.1.2.2.1.length),zA2,zA2,zCT (by rw [List.length_set];omega),zA2,zA2]
    exact last s2 g3 _ (by rw [List.length_set,List.length_set];exact l2) (zJ6 (zFA g3.ci _ _) a (by simp) fun _=>m1)
   ·have hw1:wG p≠2:=by rw [pEq_d] at h2;exact of_decide_eq_false h2
    unfold pSet
    simp only [Int.toNat_natCast]
    rw [zCT (by omega:a < s1.1.2.2.1.length),zA2,zA2]
    refine last s1 g1 _ (by rw [List.length_set];exact l1) (zJ6 g1.ci a (by simp) fun hw=>?_)
    have:wideC ([p],(s1.1.2.2.2.2.2.2.1,()))=decide (wG p=2):=rfl
    rw [this] at hw
    exact absurd (of_decide_eq_true hw) hw1
  have zeroed:GI R C (s.1.1,(s.1.2.1,(s.1.2.2.1,(s.1.2.2.2.1,(0,s.1.2.2.2.2.2))))):=⟨h.rows,h.cols,h.len,h.ci,h.r0,h.r1,by show (0:Int)<=0;omega,by show (0:Int) < C;omega⟩
  refine Tot.ite (fun _=>?_) (fun _=>?_)
  ·refine Tot.bind (zHJ hC hR _ zeroed) fun t ⟨ht,hc⟩=>tail t ht fun _=>?_
   have hc:t.1.2.2.2.2.1=0:=hc
   omega
  ·refine Tot.ite (fun h2=>?_) (fun h2=>?_)
   ·refine Tot.ite (fun _=>?_) (fun hcl=>?_)
    ·refine Tot.bind (zHJ hC hR _ zeroed) fun t ⟨ht,hc⟩=>tail t ht fun _=>?_
     have hc:t.1.2.2.2.2.1=0:=hc
     omega
    ·refine tail s h fun _=>?_
     have:=h.c1
     have h8:=h.cols
     rw [pEq_d,h8,zCX (by omega) (by omega)] at hcl
     have:=of_decide_eq_false hcl
     omega
   ·refine tail s h fun h22=>?_
    rw [pEq_d] at h2
    exact absurd h22 (of_decide_eq_false h2)
end
end Go.AE.F
