/- Plain laws of those functions. -/
import Derived.Test.YthcbmbakpjelgaaGreatDoorLSendP16
namespace Go.AE.F
open Go.AE
theorem zHW (R C:Nat) (hR:1<=R/\R<=24) (hC:2<=C/\C<=80) (ws:List (List UnitT)) (hl:ws.length=R) (hw:∀ us∈ws,wR us<=C) (hu:∀ us∈ws,∀ u∈us,uOk u) (a c:Int) (ha:0<=a/\a < R) (hc:0<=c/\c < C) :
  flatG (gV R C (ws.flatMap (rowPad C)) a c)=true/\gridG (gV R C (ws.flatMap (rowPad C)) a c)=true:=by
 have hlen:(ws.flatMap (rowPad C)).length=R * C:=by rw [zFD hw,hl]
 have hg:∀ r (hr:r < ws.length) c' (h:c' < (rowPad C ws[r]).length),cellD (gV R C (ws.flatMap (rowPad C)) a c) (r * C+c')=(rowPad C ws[r])[c']:=fun r hr c' h=>by
  have hpl:=zDU (hw ws[r] (List.getElem_mem hr))
  unfold cellD
  show (ws.flatMap (rowPad C)).getD _ _=_
  rw [List.getD_eq_getElem?_getD,zJA ws hw r c' hr (by omega),List.getElem?_eq_getElem h];rfl
 have hok:∀ r (hr:r < ws.length),okL (rowPad C ws[r]):=fun r hr=>zLX _ _ (hu _ (List.getElem_mem hr))
 have grid:gridG (gV R C (ws.flatMap (rowPad C)) a c)=true:=by
  unfold gridG
  rw [Bool.and_eq_true]
  refine ⟨zD1.2 ⟨by show (1:Int)<=(R:Int);omega,by show (R:Int)<=24;omega,by show (2:Int)<=(C:Int);omega,by show (C:Int)<=80;omega,?_,ha.1,by show a<=(R:Int) - 1;omega,hc.1,by show c<=(C:Int) - 1;omega,(fun q=>by cases q),by show (0:Int)<=0;omega,by show (0:Int)<=3;omega⟩,?_⟩
  ·show (((ws.flatMap (rowPad C)).length:Nat):Int)=(R:Int) * (C:Int)
   rw [hlen];simp
  ·rw [List.all_eq_true]
   intro i hi
   have hi:i < R * C:=by rw [List.mem_range] at hi;rw [← hlen];exact hi
   have hr:i / C < R:=by rw [Nat.div_lt_iff_lt_mul (by omega)];exact hi
   have hc2:i % C < C:=Nat.mod_lt _ (by omega)
   have ei:i=(i / C) * C+i % C:=by rw [Nat.mul_comm];exact (Nat.div_add_mod i C).symm
   generalize i / C=r at *
   generalize i % C=c' at *
   subst ei
   have hr':r < ws.length:=by omega
   have hpl:=zDU (hw ws[r] (List.getElem_mem hr'))
   obtain ⟨g1,g2⟩:=zKM (hok r hr') c' (by omega)
   unfold nbrG
   rw [hg r hr' c' (by omega),g1,Bool.true_and]
   cases hwd:wideC (rowPad C ws[r])[c'] with
   | false=>rfl
   | true =>
    obtain ⟨h2,e1,e2⟩:=g2 hwd
    have em:((r * C+c'+1:Nat):Int) % (C:Int)=((c'+1:Nat):Int):=by rw [Nat.add_assoc];exact zGD (by omega)
    show (!true || (!decide (((r * C+c'+1:Nat):Int) % (C:Int)=0) && _ && _))=true
    rw [em,decide_eq_false (by omega),Nat.add_assoc,hg r hr' (c'+1) h2,decide_eq_true e1,decide_eq_true e2];rfl
 refine ⟨?_,grid⟩
 unfold flatG
 rw [grid]
 show ((true && !false) && decide ((0:Int)=0) && flatI _ (ws.flatMap (rowPad C)).length 0 false)=true
 have:flatI (gV R C (ws.flatMap (rowPad C)) a c) (R * C) (0 * C) false=true:=by
  rw [zFL _ C rfl (by omega)]
  have rows:∀ m r,r+m=R->rowsF (gV R C (ws.flatMap (rowPad C)) a c) C m r=true:=by
   intro m
   induction m with
   | zero=>intro r _;rfl
   | succ m ih =>
    intro r hr
    have hr':r < ws.length:=by omega
    have hpl:=zDU (hw ws[r] (List.getElem_mem hr'))
    have:=zIF (gV R C (ws.flatMap (rowPad C)) a c) C r rfl (rowPad C ws[r]) hpl (hg r hr') C 0 false (by omega)
    rw [rowsF,ih (r+1) (by omega),Bool.and_true]
    rw [Nat.add_zero] at this
    rw [this]
    exact zL9 _ _ (hu _ (List.getElem_mem hr'))
  exact rows R 0 (by omega)
 rw [hlen,← Nat.zero_mul C,this]
 rfl
end Go.AE.F
namespace Go.AE.F
open Go.AE
theorem zIX:∀ (t:List CellT),flL false true t=true->t=repE t.length
 | [],_=>rfl
 | c::t,h=>by
  rw [flL] at h
  by_cases he:c.1=[]
  ·rw [if_pos he] at h
   by_cases ha:c.2.1=0
   ·rw [if_pos ha] at h
    have hw:wideC c=false:=by unfold wideC;rw [he]
    rw [hw] at h
    have ec:c=([],0,()):=by obtain ⟨c1,c2,c3⟩:=c;simp only at he ha;rw [he,ha]
    have:=zIX t h
    rw [List.length_cons,repE,List.replicate_succ,ec]
    show _::t=_::repE t.length
    rw [← this]
   ·rw [if_neg ha] at h;cases h
  ·rw [if_neg he] at h;simp at h
theorem zG8:∀ (n:Nat) (row:List CellT),row.length<=n->okL row->flL false false row=true->∃ us m,row=rowUC us ++ repE m/\∀ u∈us,uOk u
 | 0,row,hn,_,_=>by
  have:row=[]:=List.eq_nil_of_length_eq_zero (by omega)
  exact ⟨[],0,this,fun _ h=>by cases h⟩
 | n+1,[],_,_,_=>⟨[],0,rfl,fun _ h=>by cases h⟩
 | n+1,c::t,hn,hok,h=>by
  obtain ⟨h1,h2,h3⟩:=hok
  rw [List.length_cons] at hn
  rw [flL] at h
  by_cases he:c.1=[]
  ·rw [if_pos he] at h
   by_cases ha:c.2.1=0
   ·rw [if_pos ha] at h
    have hw:wideC c=false:=by unfold wideC;rw [he]
    rw [hw] at h
    have ec:c=([],0,()):=by obtain ⟨c1,c2,c3⟩:=c;simp only at he ha;rw [he,ha]
    refine ⟨[],t.length+1,?_,fun _ h=>by cases h⟩
    have:=zIX t h
    rw [ec,repE,List.replicate_succ]
    show _::t=_::repE t.length
    rw [← this]
   ·rw [if_neg ha] at h;cases h
  ·rw [if_neg he] at h
   simp only [Bool.false_eq_true,if_false] at h
   have ecu:cellU (c.1,c.2.1)=c:=rfl
   have hu:uOk (c.1,c.2.1):=⟨by rw [ecu];exact h1,he⟩
   cases hw:wideC c with
   | false =>
    rw [hw] at h
    obtain ⟨us,m,e1,e2⟩:=zG8 n t (by omega) h3 h
    refine ⟨(c.1,c.2.1)::us,m,?_,fun u hm=>?_⟩
    ·have:uC (c.1,c.2.1)=[c]:=by unfold uC;rw [ecu,hw];rfl
     unfold rowUC at e1 ⊢
     rw [List.flatMap_cons,this,e1];rfl
    ·rcases List.mem_cons.1 hm with z | z
     ·rw [z];exact hu
     ·exact e2 u z
   | true =>
    obtain ⟨d,t',et,ed,ea⟩:=h2 hw
    subst et
    rw [hw,flL] at h
    have hwd:wideC d=false:=by unfold wideC;rw [ed]
    rw [hwd] at h
    rw [List.length_cons] at hn
    obtain ⟨us,m,e1,e2⟩:=zG8 n t' (by omega) h3.2.2 h
    refine ⟨(c.1,c.2.1)::us,m,?_,fun u hm=>?_⟩
    ·have hd:d=([],c.2.1,()):=by obtain ⟨d1,d2,d3⟩:=d;simp only at ed ea;rw [ed,ea]
     have:uC (c.1,c.2.1)=[c,d]:=by unfold uC;rw [ecu,hw,hd];rfl
     unfold rowUC at e1 ⊢
     rw [List.flatMap_cons,this,e1];rfl
    ·rcases List.mem_cons.1 hm with z | z
     ·rw [z];exact hu
     ·exact e2 u z
theorem zOF:∀ (l:List CellT),(∀ (i:Nat) (h:i < l.length),cellG l[i]=true/\(wideC l[i]=true->∃ h2:i+1 < l.length,l[i+1].1=[]/\l[i+1].2.1=l[i].2.1))->okL l
 | [],_=>trivial
 | c::t,h=>by
  refine ⟨(h 0 (by simp)).1,fun hw=>?_,zOF t fun i hi=>?_⟩
  ·obtain ⟨h2,e1,e2⟩:=(h 0 (by simp)).2 hw
   cases t with
   | nil=>simp at h2
   | cons d t'=>exact ⟨d,t',rfl,e1,e2⟩
  ·obtain ⟨a,b⟩:=h (i+1) (by simp;omega)
   refine ⟨a,fun hw=>?_⟩
   obtain ⟨h2,e1,e2⟩:=b hw
   exact ⟨by simpa using h2,e1,e2⟩
theorem zJN {g:GridT} (h:flatG g=true) {R C:Nat} (hR:g.1=(R:Int)) (hC:g.2.1=(C:Int)) (h2:2<=C/\C<=80) (hl:g.2.2.1.length=R * C) (r:Nat) (hr:r < R) :
  ∃ us,gRow g C r=rowPad C us/\wR us<=C/\∀ u∈us,uOk u:=by
 have hrl:(r+1) * C<=g.2.2.1.length:=by rw [hl];exact Nat.mul_le_mul_right C hr
 have hlen:=zDQ hrl
 have hget:∀ c (hc:c < (gRow g C r).length),cellD g (r * C+c)=(gRow g C r)[c]:=fun c hc=>(zFW hrl (by omega)).symm
 unfold flatG gridG at h
 simp only [Bool.and_eq_true] at h
 obtain ⟨⟨⟨⟨hh,ha⟩,_⟩,_⟩,hf⟩:=h
 have hok:okL (gRow g C r):=zOF _ fun i hi=>by
  rw [Nat.succ_mul] at hrl
  have hn:=List.all_eq_true.1 ha (r * C+i) (by rw [List.mem_range];omega)
  unfold nbrG at hn
  rw [hget i hi,hC] at hn
  simp only [Bool.and_eq_true,Bool.or_eq_true,Bool.not_eq_true',decide_eq_false_iff_not,decide_eq_true_eq] at hn
  refine ⟨hn.1,fun hw=>?_⟩
  rcases hn.2 with z | ⟨⟨z1,z2⟩,z3⟩
  ·rw [hw] at z;cases z
  ·have hi2:i+1 < (gRow g C r).length:=by
    rcases Nat.lt_or_ge (i+1) C with q | q
    ·omega
    ·exfalso
     apply z1
     have:r * C+i+1=(r+1) * C:=by rw [Nat.succ_mul];omega
     rw [this,← Int.natCast_emod,Nat.mul_mod_left];rfl
   rw [Nat.add_assoc,hget (i+1) hi2] at z2 z3
   exact ⟨hi2,z2,z3⟩
 have hfl:flL false false (gRow g C r)=true:=by
  have e0:flatI g (R * C) (0 * C) false=true:=by rw [Nat.zero_mul,← hl];exact hf
  rw [zFL g C hC (by omega)] at e0
  have rows:∀ m k,rowsF g C m k=true->∀ j,k<=j->j < k+m->flatR g C (j * C) false=true:=by
   intro m
   induction m with
   | zero=>intro k _ j h1 h2;omega
   | succ m ih =>
    intro k hk j h1 h2
    rw [rowsF,Bool.and_eq_true] at hk
    rcases Nat.lt_or_ge k j with q | q
    ·exact ih (k+1) hk.2 j (by omega) (by omega)
    ·have:j=k:=by omega
     rw [this];exact hk.1
  have h1:=rows R 0 e0 r (by omega) (by omega)
  have h3:=zIF g C r hC (gRow g C r) hlen hget C 0 false (by omega)
  rw [Nat.add_zero] at h3
  rw [h3] at h1
  exact h1
 obtain ⟨us,m,e1,e2⟩:=zG8 _ _ (Nat.le_refl _) hok hfl
 have em:wR us+m=C:=by
  have:=congrArg List.length e1
  rw [hlen,List.length_append,List.length_replicate] at this
  exact this.symm
 refine ⟨us,?_,by omega,e2⟩
 rw [e1]
 unfold rowPad
 rw [show C - wR us=m by omega]
end Go.AE.F
