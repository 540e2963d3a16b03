/- The abstract evaluator of the program's own code, and its soundness: part 7. -/
import Derived.Test.YthcbmbakpjelgaaGreatDoorA6
import Derived.Shelf.Unicode.DecodeAny
import Derived.Lib.LaidU8
namespace Go.AE
open Go.Shelf Go.RowKit
def u8T (g3 g4:Nat):Hp:=fun b o =>
 if b=g3/\o < 256 then some (.int .u8 (Lib.firstT o)) else if b=g4/\o < 32 then some (.int .u8 (if o % 2=0 then Lib.accLo (o / 2) else Lib.accHi (o / 2))) else none
theorem u8_tabs {g3 g4:Nat} (hne:g3≠g4) {m:Hp} {w:World} (h:Le (u8T g3 g4) m) (hm:∀ b o v,m b o=some v->w.cell? ⟨b,o,none⟩=some v):Lib.Utf8Tabs g3 g4 w:=by
 refine ⟨fun c hc=>hm _ _ _ (h _ _ _ ?_),fun i hi=>⟨hm _ _ _ (h _ _ _ ?_),hm _ _ _ (h _ _ _ ?_)⟩⟩
 ·unfold u8T;rw [if_pos ⟨rfl,hc⟩]
 ·unfold u8T;rw [if_neg (fun e=>hne e.1.symm),if_pos ⟨rfl,by omega⟩,if_pos (by omega),show 2 * i / 2=i by omega]
 ·unfold u8T;rw [if_neg (fun e=>hne e.1.symm),if_pos ⟨rfl,by omega⟩,if_neg (by omega),show (2 * i+1) / 2=i by omega]
theorem u8_le {g3 g4:Nat} {w:World} (h:Lib.Utf8Tabs g3 g4 w):Le (u8T g3 g4) (memOf w):=by
 intro b o v e
 unfold u8T at e
 show w.cell? ⟨b,o,none⟩=some v
 split at e
 ·rename_i q
  obtain ⟨rfl,q2⟩:=q
  rw [h.1 o q2];exact e
 ·split at e
  ·rename_i q
   obtain ⟨rfl,q2⟩:=q
   obtain ⟨h1,h2⟩:=h.2 (o / 2) (by omega)
   by_cases ho:o % 2=0
   ·rw [if_pos ho] at e
    rw [show 2 * (o / 2)=o by omega] at h1
    rw [h1];exact e
   ·rw [if_neg ho] at e
    rw [show 2 * (o / 2)+1=o by omega] at h2
    rw [h2];exact e
  ·cases e
def pDec (s:ByteArray):Int×Int:=(((Lib.decodeGo s).1:Int),((Lib.decodeGo s).2:Int))
def decCon (F:ByteArray->Option (Int×Int)):Con :=
 { modes:=[.v],ptrs:=[false,false],fn:=fn1 .str .imm F (fun r=>[⟨.int .i32,.imm,r.1⟩,⟨.int .i64,.imm,r.2⟩]) (fun _=>[]) }
theorem mod_of_below {w w':World} (h:Below w.heap.size w w'):Mod Hp.e w w' :=
 Mod.ext ⟨h.os,h.tape,h.output,h.size,fun b hb=>h.block b hb⟩
theorem dec_conOk {P:Program} {g3 g4:Nat} (hne:g3≠g4) {f:FuncId}
  (hr:∀ (s:ByteArray) (w:World),Lib.Utf8Tabs g3 g4 w->Calls P f #[.string s] w fun e w'=>e=.returned (.tuple #[.int .i32 (Lib.decodeGo s).1,.int .i64 (Lib.decodeGo s).2])/\Below w.heap.size w w')
  {F:ByteArray->Option (Int×Int)} (hF:∀ s,F s=some (pDec s)):ConOk P (u8T g3 g4) f [.one] (decCon F):=by
 refine ⟨fun _=>?_,fun b h=>by cases h⟩
 intro w m H vs fl ds ht hp ha himm hH hD R k y h
 obtain ⟨s,rfl,h2⟩:=fn1_inv h
 clear h
 obtain ⟨r,er,hk⟩:=bindO_some h2
 rw [hF] at er
 injection er with er
 subst er
 refine ⟨_,_,hk,?_⟩
 clear hk h2
 match vs,hp with
 | v0::vs,⟨fl1,e0,hp⟩ =>
 have e4:fl1=vs:=hp
 subst e4 e0
 obtain ⟨h0,h12,s0,⟨z0,c0,ev0,rep0⟩,hend⟩:=ha
 cases fl1 with
 | cons _ _=>exact hend.elim
 | nil =>
 have hend:h12=Hp.e:=hend
 subst z0 hend
 have q1:=s0.eq_right
 subst q1
 have ec0:c0=[.string s]:=rep0.2
 subst ec0
 have ev0:v0=.string s:=ev0
 subst ev0
 refine (hr s w (u8_tabs hne ht himm)).mono fun en w' hh=>?_
 obtain ⟨q1,q2⟩:=hh
 subst q1
 have M:=mod_of_below q2
 have hcell:∀ b o v,m b o=some v->w'.cell? ⟨b,o,none⟩=some v:=fun b o v e=>by
  have h1:=himm b o v e
  obtain ⟨_,_,h2,_⟩:=shape_of_cell h1
  have hb:b < w.heap.size:=by
   rcases Nat.lt_or_ge b w.heap.size with z | z
   ·exact z
   ·unfold World.shape? at h2
    rw [Array.getElem?_eq_none z] at h2;cases h2
  rw [M.cell b o hb rfl];exact h1
 exact ⟨[_,_],m,Hp.e,Hp.e,rfl,M,Le.refl _,hcell,(fun b o u e=>by cases e),(fun b o u e=>by cases e),(Dj.e _).symm.symm,(Dj.e _).symm.symm,(Dj.e _),fun b o h=>.inl h,fun b o h=>absurd rfl h,fun b o h=>absurd rfl h,rfl,Hp.e,Hp.e,Sp.e_right _,⟨[_],rfl,⟨rfl,rfl⟩⟩,Hp.e,Hp.e,Sp.e_right _,⟨[_],rfl,⟨rfl,rfl⟩⟩,rfl⟩
theorem dec_det {F:ByteArray->Option (Int×Int)}:ConDet (decCon F):=det1
end Go.AE
