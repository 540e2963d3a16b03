/- Plain laws of those functions. -/
import Derived.Test.YtgljdfgbcfdmbaaGreatDoorLSendAllP25
namespace Go.AE.F
open Go.AE
def rowsLen (g:GridT) (C:Nat):Nat->Nat->Nat
 | 0,_=>0
 | m+1,r=>(rowL g C r).length+rowsLen g C m (r+1)
theorem zGY (o g:GridT) (C:Nat):∀ (m r:Nat) (out:List Int),(sendF o g C m r out).length<=out.length+rowsLen g C m r
 | 0,_,_=>by simp [sendF,rowsLen]
 | m+1,r,out=>by
  have:=zGY o g C m (r+1) (out ++ (if gRow o C r=gRow g C r then [] else rowL g C r))
  rw [sendF,rowsLen]
  rw [List.length_append] at this
  split at this
  ·rename_i e;rw [if_pos e];simp only [List.length_nil] at this;omega
  ·rename_i e;rw [if_neg e];omega
theorem zGX (g:GridT) (C R:Nat) (hl:g.2.2.1.length=R * C) (h2:C<=80) (hc:∀ c∈g.2.2.1,cellOk c):∀ (m r:Nat),r+m<=R->rowsLen g C m r<=1700 * m
 | 0,_,_=>by simp [rowsLen]
 | m+1,r,hr=>by
  have h1:=zGX g C R hl h2 hc m (r+1) (by omega)
  have h3:=zFB g C r (by rw [hl];exact Nat.mul_le_mul_right C (by omega)) h2 hc
  rw [rowsLen];omega
theorem zI5:∀ (l:List CellT) (s:Int×List Int),s.2.length<=(l.foldl rowStep s).2.length
 | [],_=>Nat.le_refl _
 | c::l,s=>by
  have h1:=zI5 l (rowStep s c)
  have h2:s.2.length<=(rowStep s c).2.length:=by
   unfold rowStep
   split
   ·exact Nat.le_refl _
   split <;> simp only [List.length_append] <;> omega
  rw [List.foldl_cons];omega
theorem zNT (g:GridT) (C r:Nat):1<=(rowL g C r).length:=by
 have h:=zI5 (gRow g C r) (0,headS r)
 have hh:1<=(headS r).length:=by
  unfold headS
  rw [zD5,zD5]
  simp [strInts] <;> omega
 have hh2:(headS r).length<=((gRow g C r).foldl rowStep (0,headS r)).2.length:=h
 unfold rowL
 simp only []
 split
 ·omega
 ·rw [List.length_append];omega
theorem zJK (N:Nat) (hN:2100 < N) (g:GridT) (hf:flatG g=true) {R C:Nat} (hR:g.1=(R:Int)) (hC:g.2.1=(C:Int)) (h2:2<=C/\C<=80) (h3:R<=24) (hl:g.2.2.1.length=R * C) (hc:∀ c∈g.2.2.1,cellOk c) (hs:∀ x∈g.2.2.1,x.1.length<=1048576/\x.1.length+20 < N) (r:Nat) (hr:r < R) :
  zCR N g (r:Int)=some (bytesOf (rowL g C r)):=by
 have hRC:R * C<=24 * 80:=Nat.mul_le_mul h3 h2.2
 unfold zCR
 rw [zDW N g hN (by omega) hs]
 simp only [zA2,zCS,zD1,zDJ]
 rw [hR,zCZ (by omega) (by omega),hf,decide_eq_true (by omega:(0:Int)<=(r:Int)),decide_eq_true (by omega:(r:Int)<=(R:Int) - 1)]
 simp only [Bool.not_true,Bool.and_self,Bool.or_self,ifB_f]
 rw [zEY N (by omega) g C r hC h2 (by omega) (by rw [hl];exact Nat.mul_le_mul_right C hr) (by omega) hc,zA2]
theorem pure_FnSendAll (a:List Int) (_h:a.length<=9223372036854775807/\∀ x∈a,IntKind.u8.min<=x/\x<=IntKind.u8.max):∃ N,zAT N a=some true:=by
 refine ⟨1048700,?_⟩
 unfold zAT
 rw [zCT]
 by_cases ha:1048576 < a.length
 ·rw [pGt_t (by omega),ifB_t]
 rw [pGt_f (by omega),ifB_f]
 have hd:Tot gOkS (zC5 1048700 a):=by
  unfold zC5
  obtain ⟨s,h1,hs⟩:=zL5 1048700 a (by omega) (by omega)
  rw [h1,zA2]
  exact Tot.bind (zP6 1048700 (by omega) s hs) fun r hr=>Tot.ret hr.2
 obtain ⟨g,hd,hg⟩:=hd
 rw [hd,zA2]
 have lg:=hg.1
 have cg:∀ x∈g.2.2.1,x.1.length<=1048576/\x.1.length+20 < 1048700:=fun x hx=>by have:=hg.2 x hx;omega
 obtain ⟨s1,s2⟩:=zII 1048700 (by omega) g (by omega) cg
 rw [s1,zA2,zDH _ g (by omega) (by omega),zA2,zD1]
 cases fg:flatG g with
 | false =>
  have e:sendG (newG g.1 g.2.1) g=ByteArray.mk #[]:=by unfold sendG;rw [fg];simp
  rw [Bool.not_false,ifB_t,e,zI2]
 | true =>
 obtain ⟨R,C,hR,hC,r1,r2,c1,c2,hgl,hgl2,hcg,b1,b2,b3,b4⟩:=zDY fg
 obtain ⟨n1,n2,n3,n4⟩:=zFN (r:=g.1) (c:=g.2.1) (by omega) (by omega)
 rw [Bool.not_true,ifB_f,s2,zA2,zI2,zD1,Bool.not_true,ifB_f]
 have hle:=zGX g C R hgl c2 hcg
 have hsize:(sendG (newG g.1 g.2.1) g).size<=rowsLen g C R 0+8:=by
  unfold sendG
  have ec:g.2.1.toNat=C:=by omega
  have er:g.1.toNat=R:=by omega
  have hl0:=zGY (newG g.1 g.2.1) g C R 0 []
  simp only [List.length_nil,Nat.zero_add] at hl0
  have hcs:=zJ1 g.2.2.2.1.toNat g.2.2.2.2.1.toNat
  split
  ·simp only [ec,er]
   split
   ·rw [zD9,List.length_append];omega
   ·rw [zD9];omega
  ·show 0<=_;omega
 generalize ht:sendG (newG g.1 g.2.1) g=t at *
 have hfin:∀ (n:Nat) (k:ByteArray×Int×GridT×Unit->Option Bool),n=rowsLen g C R 0->(∀ (q:Int),q=(n:Int)->k (t,q,g,())=some true) ->
   loopP (zAT.l11 1048700) 1048700 (t,0,0,g,()) k=some true:=fun n k hn hk=>by
  have key:∀ (m r f acc:Nat),r+m=R->m < f->acc<=1700 * r->acc+rowsLen g C m r=n->loopP (zAT.l11 1048700) f (t,(acc:Int),(r:Int),g,()) k=some true:=by
   intro m
   induction m with
   | zero =>
    intro r f acc hr hf ha hacc
    obtain ⟨f,rfl⟩:=zCV hf
    rw [zCO];unfold zAT.l11;simp only []
    rw [hR,pLt_f (by omega),ifB_f]
    rw [rowsLen] at hacc
    exact hk _ (by omega)
   | succ m ih =>
    intro r f acc hr hf ha hacc
    obtain ⟨f,rfl⟩:=zCV hf
    have h3:=zFB g C r (by rw [hgl];exact Nat.mul_le_mul_right C (by omega)) c2 hcg
    rw [zCO];unfold zAT.l11;simp only []
    have hps:pSize (bytesOf (rowL g C r))=((rowL g C r).length:Int):=by unfold pSize;rw [zD9]
    have hlt:pLt (r:Int) g.1=true:=by rw [hR];exact pLt_t (by omega)
    rw [hlt,ifB_t,zJK 1048700 (by omega) g fg hR hC ⟨c1,c2⟩ r2 hgl hcg cg r (by omega),zA2,hps,zC3 (by omega) (by omega),zC3 (by omega) (by omega)]
    rw [rowsLen] at hacc
    have:=ih (r+1) f (acc+(rowL g C r).length) (by omega) (by omega) (by omega) (by omega)
    rw [← this]
    congr 2
  exact key R 0 1048700 0 (by omega) (by omega) (by omega) (by omega)
 refine hfin (rowsLen g C R 0) _ rfl fun q hq=>?_
 simp only []
 have hps:pSize t=(t.size:Int):=rfl
 have hb:=hle R 0 (by omega)
 have hpos:1<=rowsLen g C R 0:=by
  obtain ⟨R',rfl⟩:∃ R',R=R'+1:=⟨R - 1,by omega⟩
  rw [rowsLen]
  have:=zNT g C 0
  omega
 rw [hps,hq,zC3 (by omega) (by omega),pGt_f (by omega),ifB_f,pEq_f (by omega),zA2,ifB_f]
 by_cases hz:20000 < t.size
 ·rw [pGt_t (by omega),ifB_t]
 ·rw [pGt_f (by omega),ifB_f,zEB,zA2]
  have:=zND 1048700 (by omega) (newG g.1 g.2.1) g n1 fg n3 n4 (by rw [ht];omega)
  rw [ht] at this
  rw [this,zA2,zHS _ (by omega) g (by omega) hg.2,zA2]
end Go.AE.F
