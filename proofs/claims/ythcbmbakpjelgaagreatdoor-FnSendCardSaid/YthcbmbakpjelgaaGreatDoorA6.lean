/- The abstract evaluator of the program's own code, and its soundness: part 6. -/
import Derived.Test.YthcbmbakpjelgaaGreatDoorA5
import Derived.Lib.UnsafeStr
import Derived.Lib.AppendZeros
import Derived.Lib.Builder
namespace Go.AE
section
variable {P:Program} {m:Hp} {w:World} {t e:TypeId} {bk:Nat} {p:Value} {ad:Option Addr} {cap:Nat} {xs:List Int} {hR:Hp}
theorem Mod.un {h k:Hp} {w w':World} (M:Mod h w w'):Mod (Un h k) w w':=by
 have key:∀ b o,Un h k b o=none->h b o=none:=fun b o e=>by
  unfold Un at e
  cases q:h b o with
  | none=>rfl
  | some u=>rw [q] at e;cases e
 exact ⟨M.os,M.tape,M.output,M.size,fun b hb hz=>M.block b hb fun o=>key b o (hz o),fun b o hb hz=>M.cell b o hb (key b o hz),M.frz,M.shp⟩
theorem BltIn.checked (I:BltIn m w t e bk p ad cap xs hR) {w':World} (h:(p=self bk/\w'=w) \/ (p=.pointer none/\w'=w.setCell ⟨bk,0,none⟩ (self bk))) :
  BltIn m w' t e bk (self bk) ad cap xs hR/\Mod (blk bk 0 [undef,undef]) w w':=by
 rcases h with ⟨rfl,rfl⟩ | ⟨rfl,rfl⟩
 ·exact ⟨I,Mod.refl _ _⟩
 ·have M:Mod (blk bk 0 [undef,undef]) w (w.setCell ⟨bk,0,none⟩ (self bk)):=Mod.setCell (by simp [blk])
  refine ⟨⟨I.lim,cell_set_eq I.c0,.inr rfl,by rw [cell_set_ne (by omega)];exact I.c1,by rw [shape_setCell];exact I.shp,I.nf.mod M (cell_lt I.c0),I.rep,?_,I.apart,?_⟩,M⟩
  ·intro b o u h
   obtain ⟨h1,h2⟩:=I.held b o u h
   refine ⟨?_,h2.mod M (cell_lt h1)⟩
   rw [cell_set_ne]
   ·exact h1
   ·rintro ⟨q1,q2⟩
    subst q1
    rw [I.apart] at h;cases h
  ·exact I.whole.imp id fun ⟨z1,g,z2,z3⟩=>⟨z1,g,z2,by rw [shape_setCell];exact z3⟩
theorem BltIn.append (I:BltIn m w t e bk p ad cap xs hR) {tS tT ty:TypeId} (ht:typeOk P tS (.sl e (.int .u8))=true) (hu:P.underlying tT=some .string) {s:ByteArray} (hfit:xs.length+(strInts s).length<=68719476736) :
  ∃ ad' cap' w' hR',(Builtin.append_ #[tS,tT] ty #[.slice ad xs.length cap,.string s]).run P w=.ok (.slice ad' (xs ++ strInts s).length cap') w' /\
   w'.cell? ⟨bk,0,none⟩=some p/\w'.cell? ⟨bk,1,none⟩=some (.slice ad xs.length cap)/\w'.frozen? ⟨bk,1,none⟩=false /\
   Mod (Un (blk bk 0 [undef,undef]) hR) w (w'.setCell ⟨bk,1,none⟩ (.slice ad' (xs ++ strInts s).length cap')) /\
   BltIn m (w'.setCell ⟨bk,1,none⟩ (.slice ad' (xs ++ strInts s).length cap')) t e bk p ad' cap' (xs ++ strInts s) hR' /\
   (∀ b o,hR' b o≠none->hR b o≠none \/ w.heap.size<=b)/\((ad'=ad/\cap'=cap) \/ (cap'≠0/\∃ g,ad'=some ⟨g,0,none⟩/\w.heap.size<=g)):=by
 obtain ⟨ad',cap',w',Hw,hR',hrun,M,hHw,rep',dom,held,wh⟩:=append_core (P:=P) (w:=w) (ty:=ty) (s:=.int .u8) (q:=.imm) (v:=.string s) (hR:=hR) (h1:=Hp.e) (xs:=xs) (ys:=strInts s) ht I.rep (RepL_strInts s.data.toList) (Dj.e _) I.held (fun b o u h=>by cases h)
  (appRuns_src ht hu (fun k q=>by cases q) (srcRuns_str s)) hfit
 have hlt:=cell_lt I.c0
 have hw0:∀ o,Hw bk o=none:=fun o=>by
  cases q:Hw bk o with
  | none=>rfl
  | some u=>exact absurd (I.apart o) (hHw bk o (by rw [q];simp))
 have hap:∀ o,hR' bk o=none:=fun o=>by
  cases q:hR' bk o with
  | none=>rfl
  | some u =>
   rcases dom bk o (by rw [q];simp) with z | z | z
   ·exact absurd (I.apart o) z
   ·exact absurd rfl z
   ·omega
 have k0:w'.cell? ⟨bk,0,none⟩=some p:=by rw [M.cell _ _ hlt (hw0 _)];exact I.c0
 have k1:w'.cell? ⟨bk,1,none⟩=some (.slice ad xs.length cap):=by rw [M.cell _ _ hlt (hw0 _)];exact I.c1
 have M1:Mod (Un (blk bk 0 [undef,undef]) hR) w w':=by
  refine ⟨M.os,M.tape,M.output,M.size,fun b hb hz=>M.block b hb fun o=>?_,fun b o hb hz=>M.cell b o hb ?_,M.frz,M.shp⟩
  ·cases q:Hw b o with
   | none=>rfl
   | some u =>
    have h1:=hHw b o (by rw [q];simp)
    have h2:=hz o
    unfold Un at h2
    cases q2:blk bk 0 [undef,undef] b o with
    | none=>rw [q2] at h2;exact absurd (by simpa using h2) h1
    | some z=>rw [q2] at h2;cases h2
  ·cases q:Hw b o with
   | none=>rfl
   | some u =>
    have h1:=hHw b o (by rw [q];simp)
    have h2:=hz
    unfold Un at h2
    cases q2:blk bk 0 [undef,undef] b o with
    | none=>rw [q2] at h2;exact absurd (by simpa using h2) h1
    | some z=>rw [q2] at h2;cases h2
 have M2:Mod (Un (blk bk 0 [undef,undef]) hR) w' (w'.setCell ⟨bk,1,none⟩ (.slice ad' (xs ++ strInts s).length cap')):=Mod.setCell (by simp [Un,blk])
 have hlt':=cell_lt k0
 refine ⟨ad',cap',w',hR',hrun,k0,k1,by rw [M.frz _ _ hlt];exact I.nf.at I.c1,M1.trans M2,⟨by rw [List.length_append];exact hfit,by rw [cell_set_ne (by omega)];exact k0,I.p,cell_set_eq k1,by rw [shape_setCell,M.shp _ hlt];exact I.shp,(I.nf.mod M1 hlt).mod M2 hlt',rep',?_,hap,?_⟩,?_,?_⟩
 ·intro b o u h
  obtain ⟨h1,h2⟩:=held b o u h
  refine ⟨?_,h2.mod M2 (cell_lt h1)⟩
  rw [cell_set_ne]
  ·exact h1
  ·rintro ⟨q1,q2⟩
   subst q1
   rw [hap] at h;cases h
 ·rcases wh with ⟨q1,q2⟩ | ⟨q1,g,q2,q3,q4⟩
  ·subst q1 q2
   exact I.whole.imp id fun ⟨z1,g,z2,z3⟩=>⟨z1,g,z2,by rw [shape_setCell,M.shp _ (shape_lt z3)];exact z3⟩
  ·exact .inr ⟨q1,g,q2,by rw [shape_setCell];simpa [S.size] using q3⟩
 ·intro b o h
  rcases dom b o h with z | z | z
  ·exact .inl z
  ·exact absurd rfl z
  ·exact .inr z
 ·rcases wh with z | ⟨q1,g,q2,q3,q4⟩
  ·exact .inl z
  ·exact .inr ⟨q1,g,q2,q4⟩
theorem run_loadBytesI:∀ (l:List Int) (a:Addr) (acc:ByteArray),(∀ j x,l[j]?=some x->w.cell? (a.add j)=some (.int .u8 x)) ->
  (loadBytes a acc l.length).run P w=.ok ⟨acc.data ++ (l.map fun n=>UInt8.ofNat n.toNat).toArray⟩ w
 | [],a,acc,_=>by simp [loadBytes]
 | x::l,a,acc,h=>by
  have h0:w.cell? a=some (.int .u8 x):=by
   have:=h 0 x rfl
   simpa [Addr.add] using this
  have ih:=run_loadBytesI l (a.add 1) (acc.push (x.toNat).toUInt8) (fun j y hy=>by
   have:=h (j+1) y (by simpa using hy)
   have e:(a.add 1).add j=a.add (j+1):=by
    unfold Addr.add
    by_cases hj:j=0
    ·subst hj;simp
    ·simp [hj];omega
   rw [e];exact this)
  simp only [List.length_cons,loadBytes,Sem.run_bind,run_load,h0,Result.andThen]
  rw [ih]
  congr 1
  apply ByteArray.ext
  simp [ByteArray.push]
theorem run_unsafeStringI (pt it ty e:TypeId) (hp:P.underlying pt=some (.pointer e)) (hc:P.cellsOf e=1) (g cells:Nat) (hsh:w.shape? g=some (e,cells)) (l:List Int) (h0:l≠[]) (hn:l.length<=cells) (h63:l.length<=9223372036854775807)
  (hcell:∀ j x,l[j]?=some x->w.cell? ((⟨g,0,none⟩:Addr).add j)=some (.int .u8 x)) :
  (Builtin.unsafeString_ #[pt,it] ty #[.pointer (some ⟨g,0,none⟩),.int .i64 l.length]).run P w=.ok (.string (bytesOf l)) (w.freeze ⟨g,0,none⟩ l.length):=by
 have hl:l.length≠0:=by simpa using h0
 have hlb:=run_loadBytesI (P:=P) (w:=w) l ⟨g,0,none⟩ .empty hcell
 have hlies:=Lib.liesAt_bytes (P:=P) hc (cells / P.cellsOf e) l.length (by rw [hc];simpa using hn)
 have h63':¬ (9223372036854775807:Int) < (l.length:Int):=by omega
 have hdef:Builtin.unsafeString_ #[pt,it] ty #[.pointer (some ⟨g,0,none⟩),.int .i64 l.length] =
   (do
    let n ← asInt (.int .i64 l.length)
    if n < 0 then runtimePanic (.error "unsafe.String: len out of range")
    if n > IntKind.i64.max then unsupported (.unsafePointer "String: a length above the largest int")
    if n=0 then pure (.string .empty)
    else if ← variablesAt ⟨g,0,none⟩ (← elemOf pt) n.toNat then do
     let s ← loadBytes ⟨g,0,none⟩ .empty n.toNat
     freeze ⟨g,0,none⟩ n.toNat
     pure (.string s)
    else unsupported (.unsafePointer "String: not so many bytes at ptr")) := rfl
 rw [hdef]
 have hmax:IntKind.i64.max=9223372036854775807:=rfl
 have hneg:¬ (l.length:Int) < 0:=by omega
 simp [asInt,asIntOf,hmax,h63',hneg,hl,variablesAt,hsh,elemOf,run_underlying hp,hlies,hlb,bytesOf]
theorem strMod_freeze {w:World} {g n:Nat}:StrMod w (w.drew.freeze ⟨g,0,none⟩ n) (some ⟨g,0,none⟩):=by
 have key:∀ b,(w.drew.freeze ⟨g,0,none⟩ n).heap[b]?=if n≠0/\g=b then (w.heap[b]?).map (fun | .cells c elem (lo,hi)=>.cells c elem (if lo == hi then (0,0+n) else (min lo 0,max hi (0+n))) | o=>o) else w.heap[b]?:=by
  intro b
  unfold World.freeze
  by_cases hn:n=0
  ·subst hn;simp only [ne_eq,not_true_eq_false,false_and,if_false,if_true];rfl
  ·simp only [if_neg hn,Array.getElem?_modify]
   by_cases hb:g=b
   ·simp only [hn,hb,ne_eq,not_false_eq_true,and_self,if_true];rfl
   ·simp only [hb,and_false,if_false];rfl
 have hsz:(w.drew.freeze ⟨g,0,none⟩ n).heap.size=w.heap.size:=by
  unfold World.freeze
  by_cases hn:n=0
  ·subst hn;rfl
  ·simp only [if_neg hn,Array.size_modify];rfl
 refine ⟨by unfold World.freeze;split <;> rfl,by unfold World.freeze;split <;> rfl,by unfold World.freeze;split <;> rfl,by rw [hsz];exact Nat.le_refl _,?_,?_,?_⟩
 ·intro b o _
  unfold World.cell?
  simp only [key]
  by_cases hb:n≠0/\g=b
  ·rw [if_pos hb]
   cases e:w.heap[b]? with
   | none=>rfl
   | some ob=>cases ob <;> rfl
  ·rw [if_neg hb]
 ·intro b _
  unfold World.shape?
  simp only [key]
  by_cases hb:n≠0/\g=b
  ·rw [if_pos hb]
   cases e:w.heap[b]? with
   | none=>rfl
   | some ob=>cases ob <;> rfl
  ·rw [if_neg hb]
 ·intro b _ hne
  rw [key,if_neg (fun q=>hne _ rfl q.2)]
theorem strMod_drew {w:World} {ad:Option Addr}:StrMod w w.drew ad:=⟨rfl,rfl,rfl,Nat.le_refl _,fun _ _ _=>rfl,fun _ _=>rfl,fun _ _ _=>rfl⟩
theorem BltIn.string (I:BltIn m w t e bk p ad cap xs hR) {tS pt it ty ty2:TypeId} (hp:P.underlying pt=some (.pointer e)) (hc:P.cellsOf e=1) :
  ∃ q w',(∀ W,(Builtin.unsafeSliceData_ #[tS] ty #[.slice ad xs.length cap]).run P W=.ok (.pointer q) W) /\
   (Builtin.unsafeString_ #[pt,it] ty2 #[.pointer q,.int .i64 xs.length]).run P w.drew=.ok (.string (bytesOf xs)) w'/\StrMod w w' ad:=by
 obtain ⟨_,hcase⟩:=rep_bytes I.rep
 rcases I.whole with ⟨z1,z2⟩ | ⟨z1,g,z2,z3⟩
 ·subst z1 z2
  have hx:xs=[]:=by
   rcases hcase with ⟨_,_,_,q⟩ | ⟨_,_,_,q,_⟩
   ·exact q
   ·cases q
  subst hx
  exact ⟨none,w.drew,fun W=>rfl,Lib.run_unsafeString_none _ _ _ _ _,strMod_drew⟩
 ·subst z2
  have hsd:∀ W,(Builtin.unsafeSliceData_ #[tS] ty #[.slice (some ⟨g,0,none⟩) xs.length cap]).run P W=.ok (.pointer (some ⟨g,0,none⟩)) W:=fun W=>Lib.run_unsafeSliceData_row _ _ _ _ _ _ z1
  by_cases hx:xs=[]
  ·subst hx
   exact ⟨_,w.drew,hsd,Lib.run_unsafeString_none _ _ _ _ _,strMod_drew⟩
  ·rcases hcase with ⟨_,_,_,q⟩ | ⟨b,off,l,q1,q2,q3,q4,q6⟩
   ·exact absurd q hx
   ·injection q1 with q1
    injection q1 with q1 q5
    subst q1 q5
    refine ⟨_,_,hsd,run_unsafeStringI (w:=w.drew) pt it ty2 e hp hc g cap (by exact z3) xs hx q2 (by have:=I.lim;omega) ?_,strMod_freeze⟩
    intro j x hj
    rw [addr_add]
    refine (I.held _ _ _ ?_).1
    rw [q4,blk_at];exact q6 j x hj
end
end Go.AE
