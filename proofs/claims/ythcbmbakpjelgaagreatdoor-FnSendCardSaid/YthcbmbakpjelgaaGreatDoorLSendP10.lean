/- Plain laws of those functions. -/
import Derived.Test.YthcbmbakpjelgaaGreatDoorLSendP9
namespace Go.AE.F
open Go.AE
theorem zLM (l:List Int) (k:Nat) (h:k < l.length) (hb:0<=l[k]/\l[k] < 256):((bytesOf l).get! k).toNat=l[k].toNat:=by
 unfold bytesOf ByteArray.get!
 simp only []
 have hs:k < (List.map (fun n:Int=>UInt8.ofNat n.toNat) l).toArray.size:=by simpa using h
 rw [getElem!_pos _ k hs]
 simp only [List.getElem_toArray,List.getElem_map]
 have:(UInt8.ofNat l[k].toNat).toNat=l[k].toNat % 256:=by simp
 rw [this,Nat.mod_eq_of_lt (by omega)]
theorem zIT {p:Int} (h:ptG p=true):byteL (enc p):=by
 unfold ptG at h
 simp only [Bool.and_eq_true,decide_eq_true_eq] at h
 obtain ⟨⟨h1,h2⟩,_⟩:=h
 unfold enc
 intro x hx
 split at hx
 ·simp only [List.mem_cons,List.not_mem_nil,or_false] at hx;omega
 split at hx
 ·simp only [List.mem_cons,List.not_mem_nil,or_false] at hx;rcases hx with rfl | rfl <;> omega
 split at hx
 ·simp only [List.mem_cons,List.not_mem_nil,or_false] at hx;rcases hx with rfl | rfl | rfl <;> omega
 ·simp only [List.mem_cons,List.not_mem_nil,or_false] at hx;rcases hx with rfl | rfl | rfl | rfl <;> omega
theorem zI8 {l:List Int} (h:∀ p∈l,ptG p=true):byteL (encs l):=fun x hx=>by
 unfold encs at hx
 obtain ⟨p,hp,hx⟩:=List.mem_flatMap.1 hx
 exact zIT (h p hp) x hx
theorem zMN (p:Int):0 < (enc p).length:=by
 unfold enc
 split
 ·simp
 split
 ·simp
 split <;> simp
theorem zOM (p:Int) (h:ptG p=true) (rest:List Int) (hr:byteL rest):Go.Utf8.decode (bytesOf (enc p ++ rest)) 0=(p.toNat,(enc p).length):=by
 rw [Go.Lib.decode_at]
 have hall:byteL (enc p ++ rest):=zEY (zIT h) hr
 have hsz:(bytesOf (enc p ++ rest)).size=(enc p).length+rest.length:=by rw [zDO,List.length_append]
 have get:∀ k (hk:k < (enc p ++ rest).length),((bytesOf (enc p ++ rest)).get! k).toNat=(enc p ++ rest)[k].toNat:=fun k hk=>zLM _ k hk (hall _ (List.getElem_mem hk))
 unfold ptG at h
 simp only [Bool.and_eq_true,decide_eq_true_eq,Bool.not_eq_true',Bool.and_eq_false_iff,decide_eq_false_iff_not] at h
 obtain ⟨⟨h1,h2⟩,h3⟩:=h
 rw [hsz]
 clear hsz hall
 unfold enc at *
 by_cases c1:p < 128
 ·simp only [if_pos c1] at *
  have g0:=get 0 (by simp)
  simp only [List.cons_append,List.getElem_cons_zero] at g0
  simp only [List.cons_append,List.nil_append] at *
  unfold Go.Lib.decodeN
  rw [g0,if_pos (by omega)]
  simp
 by_cases c2:p < 2048
 ·simp only [if_neg c1,if_pos c2] at *
  simp only [List.cons_append,List.nil_append] at *
  have g0:=get 0 (by simp)
  have g1:=get 1 (by simp)
  simp only [List.getElem_cons_zero,List.getElem_cons_succ] at g0 g1
  unfold Go.Lib.decodeN
  rw [g0,Nat.zero_add,g1,if_neg (by omega),if_pos (by simp;omega),if_pos (by omega)]
  congr 1
  omega
 by_cases c3:p < 65536
 ·simp only [if_neg c1,if_neg c2,if_pos c3] at *
  simp only [List.cons_append,List.nil_append] at *
  have g0:=get 0 (by simp)
  have g1:=get 1 (by simp)
  have g2:=get 2 (by simp)
  simp only [List.getElem_cons_zero,List.getElem_cons_succ] at g0 g1 g2
  unfold Go.Lib.decodeN
  rw [g0,Nat.zero_add,g1,Nat.zero_add,g2,if_neg (by omega),if_neg (by omega),if_pos (by simp;omega),if_pos (by omega)]
  congr 1
  omega
 ·simp only [if_neg c1,if_neg c2,if_neg c3] at *
  simp only [List.cons_append,List.nil_append] at *
  have g0:=get 0 (by simp)
  have g1:=get 1 (by simp)
  have g2:=get 2 (by simp)
  have g3:=get 3 (by simp)
  simp only [List.getElem_cons_zero,List.getElem_cons_succ] at g0 g1 g2 g3
  unfold Go.Lib.decodeN
  rw [g0,Nat.zero_add,g1,Nat.zero_add,g2,Nat.zero_add,g3,if_neg (by omega),if_neg (by omega),if_neg (by omega),if_pos (by simp;omega),if_pos (by omega)]
  congr 1
  omega
end Go.AE.F
namespace Go.AE.F
open Go.AE
def layM (C:Int) (l:List Int) (rc:Int×Int):Int×Int:=l.foldl (fun rc p=>ptM C p rc) rc
theorem zIG (C:Int) (l:List Int) (i:Nat) (h:i < l.length) (rc:Int×Int):layM C (l.take (i+1)) rc=ptM C l[i] (layM C (l.take i) rc):=by
 unfold layM
 rw [List.take_succ_eq_append_getElem h,List.foldl_append];rfl
theorem zIM {C:Int} (hC:2<=C) (l:List Int) {rc:Int×Int} (h:rcOk C rc):∀ i,i<=l.length->rcOk C (layM C (l.take i) rc)/\(layM C (l.take i) rc).1<=rc.1+2 * i
 | 0,_=>⟨h,by show rc.1<=rc.1+2 * ((0:Nat):Int);omega⟩
 | i+1,hi=>by
  obtain ⟨h1,h2⟩:=zIM hC l h i (by omega)
  rw [zIG C l i (by omega)]
  obtain ⟨a1,a2,a3,_⟩:=zP3 hC l[i] h1
  exact ⟨a1,by omega⟩
def spotsM (C:Int) (l:List Int) (rc:Int×Int) (n:Nat):List (Int×Int×Unit):=(List.range n).map fun i=>spotM C (layM C (l.take i) rc)
theorem zF4 (C:Int) (l:List Int) (rc:Int×Int) (n:Nat):spotsM C l rc (n+1)=spotsM C l rc n ++ [spotM C (layM C (l.take n) rc)]:=by
 unfold spotsM;rw [List.range_succ,List.map_append];rfl
theorem zFG (C:Int) (l:List Int) (rc:Int×Int) (n:Nat):(spotsM C l rc n).length=n:=by unfold spotsM;simp
theorem zN9 (C:Int) (l:List Int) (rc:Int×Int) (n i:Nat) (h:i < n):idx (spotsM C l rc n) (i:Int)=some (spotM C (layM C (l.take i) rc)):=by
 rw [zCT (by rw [zFG];exact h)]
 unfold spotsM;simp
theorem zHB (N:Nat) (p:Int):zCJ N p=some (shG p):=by
 unfold zCJ shG ctlG
 simp only [zDH,zA2,pLt_d,pEq_d]
 cases (decide (p < 32) || decide (p=127)) <;> rfl
theorem zHC (N:Nat) (p:Int):zFK N p=some (shG p):=by
 unfold zFK shG
 rw [zDE,zA2]
 cases ctlG p <;> rfl
abbrev SeenT:=(List Int×Int×Unit)×Int×Int×Unit
abbrev LayT:=Int×Int×Int×List SeenT×Bool×List (Int×Int×Unit)×Unit
end Go.AE.F
