/- Plain laws of those functions. -/
import Derived.Test.YthcbmbakpjelgaaGreatDoorLSendP6
namespace Go.AE.F
open Go.AE
theorem and63 {x:Int} (h0:0<=x):pAnd .u8 (pConv .u8 x) 63=x % 64:=by
 rw [zLI]
 have h1:=Int.emod_nonneg x (by omega:(256:Int)≠0)
 have h2:=Int.emod_lt_of_pos x (by omega:(0:Int) < 256)
 have:=zFJ (P:=fun x=>pAnd .u8 x 63=x % 64) (n:=256) (by decide +kernel) h1 (by omega)
 rw [this];omega
theorem shr6 {x:Int}:pShr .i32 x 6=x / 64:=by
 show x.fdiv (2 ^ 6)=_
 rw [Int.fdiv_eq_ediv_of_nonneg _ (by decide)];rfl
theorem shr12 {x:Int}:pShr .i32 x 12=x / 4096:=by
 show x.fdiv (2 ^ 12)=_
 rw [Int.fdiv_eq_ediv_of_nonneg _ (by decide)];rfl
theorem shr18 {x:Int}:pShr .i32 x 18=x / 262144:=by
 show x.fdiv (2 ^ 18)=_
 rw [Int.fdiv_eq_ediv_of_nonneg _ (by decide)];rfl
def enc (p:Int):List Int :=
 if p < 128 then [p] else if p < 2048 then [192+p / 64,128+p % 64] else if p < 65536 then [224+p / 4096,128+p / 64 % 64,128+p % 64]
 else [240+p / 262144,128+p / 4096 % 64,128+p / 64 % 64,128+p % 64]
theorem zIP (p:Int):(enc p).length<=4:=by
 unfold enc;split;· simp
 split;· simp
 split <;> simp
theorem zM6 {a b:Int} (h0:0<=a) (h1:0 < b) (h2:a<=9223372036854775807):pQuo .i64 a b=a / b:=by
 unfold pQuo
 rw [Int.tdiv_eq_ediv_of_nonneg h0]
 have:=Int.ediv_le_self b h0
 have:=Int.ediv_nonneg h0 (Int.le_of_lt h1)
 exact zE0 (by omega) (by omega)
theorem zFT (N:Nat) (p:Int) (h:ptG p=true):zC9 N p=some (enc p):=by
 unfold ptG at h
 simp only [Bool.and_eq_true,decide_eq_true_eq] at h
 obtain ⟨⟨h0,h1⟩,_⟩:=h
 have q64:pQuo .i64 p 64=p / 64:=zM6 h0 (by omega) (by omega)
 have q4096:pQuo .i64 p 4096=p / 4096:=zM6 h0 (by omega) (by omega)
 have q262144:pQuo .i64 p 262144=p / 262144:=zM6 h0 (by omega) (by omega)
 have r64:pRem p 64=p % 64:=zFP h0
 have r64b:pRem (p / 64) 64=p / 64 % 64:=zFP (by omega)
 have r64c:pRem (p / 4096) 64=p / 4096 % 64:=zFP (by omega)
 unfold zC9 enc
 simp only [q64,q4096,q262144,r64,r64b,r64c,pEq_f (by omega:¬ (64:Int)=0),pEq_f (by omega:¬ (4096:Int)=0),pEq_f (by omega:¬ (262144:Int)=0),ifB_f]
 by_cases c1:p < 128
 ·rw [pLt_t c1,ifB_t,if_pos c1,zD9 h0 (by omega)]
 rw [pLt_f (by omega),ifB_f,if_neg c1]
 by_cases c2:p < 2048
 ·rw [pLt_t c2,ifB_t,if_pos c2,zC6 (by omega) (by omega),zC6 (by omega) (by omega),zD9 (by omega) (by omega),zD9 (by omega) (by omega)]
 rw [pLt_f (by omega),ifB_f,if_neg c2]
 by_cases c3:p < 65536
 ·rw [pLt_t c3,ifB_t,if_pos c3,zC6 (by omega) (by omega),zC6 (by omega) (by omega),zC6 (by omega) (by omega),zD9 (by omega) (by omega),zD9 (by omega) (by omega),zD9 (by omega) (by omega)]
 rw [pLt_f (by omega),ifB_f,if_neg c3,zC6 (by omega) (by omega),zC6 (by omega) (by omega),zC6 (by omega) (by omega),zC6 (by omega) (by omega),zD9 (by omega) (by omega),zD9 (by omega) (by omega),zD9 (by omega) (by omega),zD9 (by omega) (by omega)]
theorem zHN (N:Nat) (acc:List Int) (p:Int) (h:ptG p=true) (hl:acc.length<=60000000000):zBB N acc (pConv .i32 p)=some (acc ++ enc p):=by
 unfold ptG at h
 simp only [Bool.and_eq_true,decide_eq_true_eq,Bool.not_eq_true',Bool.and_eq_false_iff,decide_eq_false_iff_not] at h
 obtain ⟨⟨h0,h1⟩,h2⟩:=h
 have fit:∀ l:List Int,l.length<=4->pFit acc l=true:=fun l hh=>zD0 (by omega)
 unfold zBB zAP enc
 rw [zLH h0 (by omega)]
 simp only [zLL h0 (by omega),shr6,shr12,shr18,and63 h0,and63 (by omega:0<=p / 64),and63 (by omega:0<=p / 4096),pLt_f (by omega:(0:Int)<=6),pLt_f (by omega:(0:Int)<=12),pLt_f (by omega:(0:Int)<=18),ifB_f]
 by_cases c1:p < 128
 ·rw [pLe_t (by omega),ifB_t,if_pos c1,fit _ (by simp),ifB_t,zD9 h0 (by omega)];rfl
 rw [pLe_f (by omega),ifB_f,if_neg c1]
 by_cases c2:p < 2048
 ·rw [pLe_t (by omega),ifB_t,if_pos c2,fit _ (by simp),ifB_t,zA2,zD9 (by omega) (by omega),or192 (by omega) (by omega),or128 (by omega) (by omega)];rfl
 rw [pLe_f (by omega),ifB_f,if_neg c2]
 have three:p < 65536->(ifB (pFit acc [(pOr Go.IntKind.u8 224 (pConv Go.IntKind.u8 (p / 4096))),(pOr Go.IntKind.u8 128 (p / 64 % 64)),(pOr Go.IntKind.u8 128 (p % 64))]) (some (pApp acc [(pOr Go.IntKind.u8 224 (pConv Go.IntKind.u8 (p / 4096))),(pOr Go.IntKind.u8 128 (p / 64 % 64)),(pOr Go.IntKind.u8 128 (p % 64))])) none) =
   some (acc ++ [224+p / 4096,128+p / 64 % 64,128+p % 64]):=fun c3=>by
  rw [fit _ (by simp),ifB_t,zD9 (by omega) (by omega),or224 (by omega) (by omega),or128 (by omega) (by omega),or128 (by omega) (by omega)];rfl
 by_cases c4:p < 55296
 ·rw [pLt_t c4,ifB_t,if_pos (by omega),three (by omega),zA2]
 rw [pLt_f (by omega),ifB_f]
 have c5:57343 < p:=by rcases h2 with q | q <;> omega
 rw [pLt_t c5,ifB_t,zA2]
 by_cases c3:p < 65536
 ·rw [pLe_t (by omega),ifB_t,if_pos c3,three c3,zA2]
 rw [pLe_f (by omega),ifB_f,if_neg c3,pGt_t (by omega),ifB_t,zA2,pLe_t h1,ifB_t,fit _ (by simp),ifB_t,zA2,zD9 (by omega) (by omega),or240 (by omega) (by omega),or128 (by omega) (by omega),or128 (by omega) (by omega),or128 (by omega) (by omega)];rfl
def encs (l:List Int):List Int:=l.flatMap enc
theorem zH4 (l:List Int):(encs l).length<=4 * l.length:=by
 induction l with
 | nil=>simp [encs]
 | cons a l ih =>
  have:encs (a::l)=enc a ++ encs l:=by simp [encs]
  rw [this,List.length_append,List.length_cons]
  have:=zIP a
  omega
theorem zI7 {l:List Int} {i:Nat} (h:i < l.length):encs (l.take (i+1))=encs (l.take i) ++ enc l[i]:=by
 rw [List.take_succ_eq_append_getElem h]
 unfold encs
 rw [List.flatMap_append]
 congr 1
 show enc l[i] ++ []=_
 rw [List.append_nil]
theorem zF6 (N:Nat) (l:List Int) (hp:∀ x∈l,ptG x=true) (hl:l.length<=1048576) (hN:l.length < N):zB9 N l=some (bytesOf (encs l)):=by
 unfold zB9
 rw [zCP]
 have key:∀ (m i f:Nat) (k:List Int×Unit->Option ByteArray),l.length - i=m->i<=l.length->m < f->loopP (zB9.l3 N) f (l,(l.length:Int),(i:Int),encs (l.take i),()) k=k (encs l,()):=by
  intro m
  induction m with
  | zero =>
   intro i f k hm hi hf
   obtain ⟨f,rfl⟩:=zCU hf
   rw [zCO];unfold zB9.l3;simp only []
   rw [pLt_f (by omega),ifB_f,List.take_of_length_le (by omega)]
  | succ m ih =>
   intro i f k hm hi hf
   obtain ⟨f,rfl⟩:=zCU hf
   have hlt:i < l.length:=by omega
   have hlen:=zH4 (l.take i)
   rw [List.length_take] at hlen
   have st:∀ kn,zB9.l3 N (l,(l.length:Int),(i:Int),encs (l.take i),()) kn k=kn (l,(l.length:Int),((i+1:Nat):Int),encs (l.take (i+1)),()):=fun kn=>by
    unfold zB9.l3;simp only []
    rw [pLt_t (by omega),ifB_t,zCT hlt,zA2,zHN N _ _ (hp _ (List.getElem_mem hlt)) (by omega),zA2,zC6 (by omega) (by omega),zI7 hlt]
    rfl
   rw [zCO,st]
   exact ih (i+1) f k (by omega) (by omega) (by omega)
 exact key _ 0 N _ rfl (by omega) (by omega)
theorem zEA (N:Nat) (l:List Int) (hp:∀ x∈l,ptG x=true) (hl:l.length<=1048576) (hN:l.length < N):zAU N l=some (bytesOf (encs l)):=by
 unfold zAU
 have key:∀ (m i f:Nat) (k:List Int×Unit->Option ByteArray),l.length - i=m->i<=l.length->m < f->loopP (zAU.l3 N) f (l,(i:Int),encs (l.take i),()) k=k (encs l,()):=by
  intro m
  induction m with
  | zero =>
   intro i f k hm hi hf
   obtain ⟨f,rfl⟩:=zCU hf
   rw [zCO];unfold zAU.l3;simp only [zCP]
   rw [pLt_f (by omega),ifB_f,List.take_of_length_le (by omega)]
  | succ m ih =>
   intro i f k hm hi hf
   obtain ⟨f,rfl⟩:=zCU hf
   have hlt:i < l.length:=by omega
   have hlen:=zH4 (l.take i)
   rw [List.length_take] at hlen
   have he:=zIP l[i]
   have st:∀ kn,zAU.l3 N (l,(i:Int),encs (l.take i),()) kn k=kn (l,((i+1:Nat):Int),encs (l.take (i+1)),()):=fun kn=>by
    unfold zAU.l3;simp only [zCP]
    rw [pLt_t (by omega),ifB_t,zCT hlt,zA2,zFT N _ (hp _ (List.getElem_mem hlt)),zA2,zD0 (by omega),ifB_t,zC6 (by omega) (by omega),zI7 hlt]
    rfl
   rw [zCO,st]
   exact ih (i+1) f k (by omega) (by omega) (by omega)
 exact key _ 0 N _ rfl (by omega) (by omega)
end Go.AE.F
