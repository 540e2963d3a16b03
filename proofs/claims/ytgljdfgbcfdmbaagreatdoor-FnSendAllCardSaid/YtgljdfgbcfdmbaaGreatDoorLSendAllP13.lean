/- Plain laws of those functions. -/
import Derived.Test.YtgljdfgbcfdmbaaGreatDoorLSendAllP12
namespace Go.AE.F
open Go.AE
def layN (C:Nat) (at':Nat->Int) (l:List Int) (S:LaidT):Nat->LaidT
 | 0=>S
 | i+1=>pointU C (l.getD i 0) (at' i) (layN C at' l S i)
def posS (S:LaidT):Int×Int:=((S.1.length:Int),(wR S.2:Int))
theorem zO3 (C:Nat) (s a:Int) (S:LaidT) (hS:LaidOk C S):posS (addU C s a S)=stepW C (wG s) (posS S):=by
 have hw:=zEW s
 obtain ⟨g1,g2,g3⟩:=hS
 unfold addU stepW posS
 by_cases h0:wG s=0
 ·rw [if_pos h0,if_pos h0]
  simp only [zF6 s _ g3]
 rw [if_neg h0,if_neg h0]
 have e1:=zIC s a h0
 by_cases hl:C - wR S.2 < (wG s).toNat
 ·rw [if_pos hl,if_pos (by show (C:Int) - (wR S.2:Int) < wG s;omega)]
  have:wR [([s],a)]=(wG s).toNat:=by rw [← List.nil_append [([s],a)],zED,e1];show 0+_=_;omega
  simp only [this,List.length_append,List.length_singleton]
  congr 1;omega
 ·rw [if_neg hl,if_neg (by show ¬ (C:Int) - (wR S.2:Int) < wG s;omega)]
  simp only [zED,e1]
  congr 1;omega
theorem zIV {C:Nat} (hC:2<=C) (a:Int):∀ (l:List Int) (S:LaidT),LaidOk C S->posS (l.foldl (fun S s=>addU C s a S) S)=foldW C l (posS S)
 | [],_,_=>rfl
 | s::l,S,hS=>by
  rw [List.foldl_cons,zIV hC a l _ (zIU hC s a hS),zO3 C s a S hS];rfl
theorem zJS {C:Nat} (hC:2<=C) (p a:Int) (S:LaidT) (hS:LaidOk C S):posS (pointU C p a S)=ptM C p (posS S):=by
 unfold pointU ptM
 by_cases h:p=10
 ·rw [if_pos h,if_pos h];unfold posS;simp [wR,rowUC]
 ·rw [if_neg h,if_neg h,zIV hC a _ S hS]
theorem zF0 {C:Nat} (hC:2<=C) (at':Nat->Int) (l:List Int) {S:LaidT} (h:LaidOk C S):∀ i,LaidOk C (layN C at' l S i)
 | 0=>h
 | i+1=>zK0 hC _ _ (zF0 hC at' l h i)
theorem zF3 {C:Nat} (hC:2<=C) (at':Nat->Int) (l:List Int) {S:LaidT} (h:LaidOk C S):∀ i,i<=l.length->posS (layN C at' l S i)=layM C (l.take i) (posS S)
 | 0,_=>rfl
 | i+1,hi=>by
  rw [zIG C l i (by omega),← zF3 hC at' l h i (by omega),layN,zJS hC _ _ _ (zF0 hC at' l h i),zEH (by omega)]
theorem zFA (C:Nat) (at':Nat->Int) (l:List Int) (S:LaidT):∀ i,szS (layN C at' l S i)<=szS S+4 * i
 | 0=>by show szS S<=_;omega
 | i+1=>by
  have h1:=zFA C at' l S i
  have h2:=zLY C (l.getD i 0) (at' i) (layN C at' l S i)
  rw [layN];omega
theorem zIB (S:LaidT):S.1.length<=szS S:=by unfold szS;omega
theorem zIA (N C:Nat) (S:LaidT) (h:S.1.length<=100000) (sp:List (Int×Int×Unit)):zDO N (layQ C S sp)=some (spotM C (posS S)):=by
 unfold zDO layQ spotM posS
 simp only []
 by_cases hh:(wR S.2:Int)=(C:Int)
 ·rw [pEq_t hh,ifB_t,if_pos hh,zC3 (by omega) (by omega)]
 ·rw [pEq_f hh,ifB_f,if_neg hh]
theorem zI1 (N C:Nat) (S:LaidT) (h:S.1.length<=100000) (hS:wR S.2<=C):zBM N (penQ C S)=some (spotM C (posS S)):=by
 have el:pSub .i64 (pLen (penQ C S).2.1) 1=(S.1.length:Int):=by
  show pSub .i64 (((S.1.map (rowPad C) ++ [rowPad C S.2]).length:Nat):Int) 1=_
  rw [zCZ (by simp <;> omega) (by simp <;> omega)];simp
 unfold zBM
 rw [el]
 unfold penQ spotM posS
 simp only []
 by_cases hh:(wR S.2:Int)=(C:Int)
 ·rw [pGe_t (by omega),ifB_t,if_pos hh,zC3 (by omega) (by omega)]
 ·rw [pGe_f (by omega),ifB_f,if_neg hh]
def regA (b:BufT) (reg:Bool) (i:Nat):Int:=if (reg && (decide (pMin b.2.2.1 b.2.1<=(i:Int)) && decide ((i:Int) < pMax b.2.2.1 b.2.1)))=true then 1 else 0
theorem zNO (b:BufT) (reg:Bool) (i:Nat):regA b reg i=0 \/ regA b reg i=1:=by unfold regA;split;exact .inr rfl;exact .inl rfl
def laidS (C:Nat) (pr:List Int) (b:BufT) (reg:Bool):LaidT:=layN C (regA b reg) b.1 (layN C (fun _=>0) pr ([],[]) pr.length) b.1.length
theorem zI0 (C:Nat):LaidOk C ([],[]):=⟨fun _ h=>by (cases h),Nat.zero_le _,fun _ h=>by (cases h)⟩
theorem zIL (N:Nat) (hN:2000 < N) (C:Nat) (hC:2<=C/\C<=80) (pr:List Int) (hp:pr.length<=400) (b:BufT) (hb:bufG b=true) (reg:Bool) :
  zDI N pr b reg C=some (layQ C (laidS C pr b reg) (spotsM C b.1 (layM C pr (0,0)) (b.1.length+1))):=by
 obtain ⟨hb0,hb1,hb2,hb3,hb4⟩:=zFI.1 hb
 have hbl:=zEL hb0
 unfold zDI
 rw [zCT]
 have hs0:szS (([],[]):LaidT)=0:=rfl
 have z1:=zFA C (fun _=>0) pr ([],[])
 have ok1:=zF0 hC.1 (fun _=>0) pr (zI0 C)
 have e0:layQ C ([],[]) []=((C:Int),0,0,[],false,[],()):=rfl
 refine (zDZ (step:=zDI.l3 N) (fun i=>(reg,pr,(pr.length:Int),(i:Int),b,layQ C (layN C (fun _=>0) pr ([],[]) i) [],())) pr.length _ (reg,b,layQ C (layN C (fun _=>0) pr ([],[]) pr.length) [],()) (fun i kn hi=>?_) (fun kn=>?_) N (by omega)).trans ?_
 ·unfold zDI.l3
  simp only []
  have zi:=z1 i
  rw [pLt_t (by omega),ifB_t,zCW hi,zA2,zFK N (by omega) C hC _ (ok1 i) (by omega),zA2,zC3 (by omega) (by omega)]
  rw [layN,zEH hi];rfl
 ·unfold zDI.l3
  simp only []
  rw [pLt_f (by omega),ifB_f]
 ·simp only []
  unfold zEX
  rw [zA2,zCT]
  have z2:=z1 pr.length
  have o2:=ok1 pr.length
  have hpos:posS (layN C (fun _=>0) pr ([],[]) pr.length)=layM C pr (0,0):=by
   rw [zF3 hC.1 (fun _=>0) pr (zI0 C) pr.length (Nat.le_refl _),List.take_length];rfl
  unfold laidS
  generalize layN C (fun _=>0) pr ([],[]) pr.length=S0 at *
  rw [← hpos]
  have z3:=zFA C (regA b reg) b.1 S0
  have ok3:=zF0 hC.1 (regA b reg) b.1 o2
  refine (zDZ (step:=zDI.l9 N) (fun i=>(reg,pMin b.2.2.1 b.2.1,pMax b.2.2.1 b.2.1,b.1,(b.1.length:Int),(i:Int),layQ C (layN C (regA b reg) b.1 S0 i) (spotsM C b.1 (posS S0) i),())) b.1.length _ (layQ C (layN C (regA b reg) b.1 S0 b.1.length) (spotsM C b.1 (posS S0) b.1.length),()) (fun i kn hi=>?_) (fun kn=>?_) N (by omega)).trans ?_
  ·unfold zDI.l9
   simp only []
   have zi:=z3 i
   have hps:=zF3 hC.1 (regA b reg) b.1 o2 i (by omega)
   have hsp:(layQ C (layN C (regA b reg) b.1 S0 i) (spotsM C b.1 (posS S0) i)).2.2.2.2.2.1=spotsM C b.1 (posS S0) i:=rfl
   rw [pLt_t (by omega),ifB_t,zCW hi,zA2,zIA N C _ (Nat.le_trans (zIB _) (by omega)),zA2,hsp,zD2 (by rw [zFD];simp;omega),ifB_t]
   have hq:((layQ C (layN C (regA b reg) b.1 S0 i) (spotsM C b.1 (posS S0) i)).1,(layQ C (layN C (regA b reg) b.1 S0 i) (spotsM C b.1 (posS S0) i)).2.1,(layQ C (layN C (regA b reg) b.1 S0 i) (spotsM C b.1 (posS S0) i)).2.2.1,(layQ C (layN C (regA b reg) b.1 S0 i) (spotsM C b.1 (posS S0) i)).2.2.2.1,(layQ C (layN C (regA b reg) b.1 S0 i) (spotsM C b.1 (posS S0) i)).2.2.2.2.1,pApp (spotsM C b.1 (posS S0) i) [spotM C (posS (layN C (regA b reg) b.1 S0 i))],(layQ C (layN C (regA b reg) b.1 S0 i) (spotsM C b.1 (posS S0) i)).2.2.2.2.2.2)=layQ C (layN C (regA b reg) b.1 S0 i) (spotsM C b.1 (posS S0) (i+1)):=by
    rw [zF4,← hps];rfl
   rw [hq]
   have one:=fun a:Int=>zFK N (by omega) C hC _ (ok3 i) (by omega) (spotsM C b.1 (posS S0) (i+1)) b.1[i] a
   have e2:pAdd .i64 (i:Int) 1=((i+1:Nat):Int):=zC3 (by omega) (by omega)
   have ehi:decide ((i:Int)<=pSub .i64 (pMax b.2.2.1 b.2.1) 1)=decide ((i:Int) < pMax b.2.2.1 b.2.1):=by
    have hm:0<=pMax b.2.2.1 b.2.1/\pMax b.2.2.1 b.2.1<=300:=by unfold pMax;split <;> omega
    rw [zCZ (by omega) (by omega)]
    by_cases h:(i:Int) < pMax b.2.2.1 b.2.1
    ·rw [decide_eq_true h,decide_eq_true (by omega)]
    ·rw [decide_eq_false h,decide_eq_false (by omega)]
   rw [zCS,zA2,ehi]
   simp only [one,zA2]
   rw [layN,zEH hi]
   unfold regA
   cases reg with
   | false=>simp [ifB_f,zA2,e2]
   | true =>
    rw [ifB_t,zA2]
    cases (decide (pMin b.2.2.1 b.2.1<=(i:Int)) && decide ((i:Int) < pMax b.2.2.1 b.2.1)) <;> simp [ifB_t,ifB_f,zA2,e2]
  ·unfold zDI.l9
   simp only []
   rw [pLt_f (by omega),ifB_f]
  ·simp only []
   have zi:=z3 b.1.length
   have hps:=zF3 hC.1 (regA b reg) b.1 o2 b.1.length (Nat.le_refl _)
   have hsp:(layQ C (layN C (regA b reg) b.1 S0 b.1.length) (spotsM C b.1 (posS S0) b.1.length)).2.2.2.2.2.1=spotsM C b.1 (posS S0) b.1.length:=rfl
   rw [zIA N C _ (Nat.le_trans (zIB _) (by omega)),zA2,hsp,zD2 (by rw [zFD];simp;omega),ifB_t,zF4,← hps]
   rfl
theorem zIN (N:Nat) (hN:2000 < N) (C:Nat) (hC:2<=C/\C<=80) (pr:List Int) (hp:pr.length<=400) (b:BufT) (hb:bufG b=true) (reg:Bool) :
    zAK N pr b reg C=some (penQ C (laidS C pr b reg),spotsM C b.1 (layM C pr (0,0)) (b.1.length+1)):=by
  obtain ⟨hb0,hb1,hb2,hb3,hb4⟩:=zFI.1 hb
  have hbl:=zEL hb0
  unfold zAK
  rw [zMU N C hC,zA2]
  have z1:=zFA C (fun _=>0) pr ([],[])
  have hs0:szS (([],[]):LaidT)=0:=rfl
  have ok1:=zF0 hC.1 (fun _=>0) pr (zI0 C)
  refine (zDZ (step:=zAK.l4 N) (fun i=>(pr,reg,(i:Int),b,penQ C (layN C (fun _=>0) pr ([],[]) i),())) pr.length _ (reg,b,penQ C (layN C (fun _=>0) pr ([],[]) pr.length),()) (fun i kn hi=>?_) (fun kn=>?_) N (by omega)).trans ?_
  · unfold zAK.l4
    simp only [zCT]
    have zi:=z1 i
    rw [pLt_t (by omega),ifB_t,zCW hi,zA2,zFW N (by omega) C hC _ (ok1 i) (by omega),zA2,zC3 (by omega) (by omega)]
    rw [layN,zEH hi];rfl
  · unfold zAK.l4
    simp only [zCT]
    rw [pLt_f (by omega),ifB_f]
  · simp only []
    have z2:=z1 pr.length
    have o2:=ok1 pr.length
    have hpos:posS (layN C (fun _=>0) pr ([],[]) pr.length)=layM C pr (0,0):=by
      rw [zF3 hC.1 (fun _=>0) pr (zI0 C) pr.length (Nat.le_refl _),List.take_length];rfl
    unfold laidS
    generalize layN C (fun _=>0) pr ([],[]) pr.length=S0 at *
    rw [← hpos,zI1 N C S0 (Nat.le_trans (zIB _) (by omega)) o2.2.1,zA2]
    have emin:zCF N b.2.1 b.2.2.1=some (pMin b.2.2.1 b.2.1):=by
      unfold zCF pMin
      by_cases h:b.2.1 < b.2.2.1
      · rw [pLt_t h,ifB_t,if_pos h]
      · rw [pLt_f (by omega),ifB_f,if_neg h]
    have emax:zBV N b.2.1 b.2.2.1=some (pMax b.2.2.1 b.2.1):=by
      unfold zBV pMax
      by_cases h:b.2.2.1 < b.2.1
      · rw [pGt_t h,ifB_t,if_pos h]
      · rw [pGt_f (by omega),ifB_f,if_neg h]
    rw [emin,zA2,emax,zA2]
    have z3:=zFA C (regA b reg) b.1 S0
    have ok3:=zF0 hC.1 (regA b reg) b.1 o2
    have sp0:[spotM C (posS S0)]=spotsM C b.1 (posS S0) (0+1):=by rw [zF4];rfl
    rw [sp0]
    refine (zDZ (step:=zAK.l11 N) (fun i=>(reg,pMin b.2.2.1 b.2.1,pMax b.2.2.1 b.2.1,(i:Int),b,penQ C (layN C (regA b reg) b.1 S0 i),spotsM C b.1 (posS S0) (i+1),())) b.1.length _ (penQ C (layN C (regA b reg) b.1 S0 b.1.length),spotsM C b.1 (posS S0) (b.1.length+1),()) (fun i kn hi=>?_) (fun kn=>?_) N (by omega)).trans rfl
    · unfold zAK.l11
      simp only [zCT]
      have zi:=z3 i
      have zi1:=z3 (i+1)
      have hps:=zF3 hC.1 (regA b reg) b.1 o2 (i+1) (by omega)
      have e2:pAdd .i64 (i:Int) 1=((i+1:Nat):Int):=zC3 (by omega) (by omega)
      have one : ∀ a : Int, a = regA b reg i -> (bindO (idx b.1 (i : Int)) fun y95 =>
            bindO (zAB N (penQ C (layN C (regA b reg) b.1 S0 i)) y95 a) fun y96 =>
            bindO (zBM N y96) fun y97 =>
            ifB (pFit (spotsM C b.1 (posS S0) (i+1)) [y97]) (
              some (reg,pMin b.2.2.1 b.2.1,pMax b.2.2.1 b.2.1,(i:Int),b,y96,(pApp (spotsM C b.1 (posS S0) (i+1)) [y97]),())) (
              none))=some (reg,pMin b.2.2.1 b.2.1,pMax b.2.2.1 b.2.1,(i:Int),b,penQ C (layN C (regA b reg) b.1 S0 (i+1)),spotsM C b.1 (posS S0) (i+1+1),()):=fun a ha=>by
        rw [zCW hi,zA2,zFW N (by omega) C hC _ (ok3 i) (by omega),zA2]
        have es:pointU C b.1[i] a (layN C (regA b reg) b.1 S0 i)=layN C (regA b reg) b.1 S0 (i+1):=by rw [layN,zEH hi,ha]
        rw [es,zI1 N C _ (Nat.le_trans (zIB _) (by omega)) (ok3 (i+1)).2.1,zA2,zD2 (by rw [zFD];simp;omega),ifB_t,zF4 C b.1 (posS S0) (i+1),← hps]
        rfl
      have r1 : ∀ x : Bool, ifB x (bindO (idx b.1 (i : Int)) fun y95 =>
            bindO (zAB N (penQ C (layN C (regA b reg) b.1 S0 i)) y95 1) fun y96 =>
            bindO (zBM N y96) fun y97 =>
            ifB (pFit (spotsM C b.1 (posS S0) (i+1)) [y97]) (
              some (reg,pMin b.2.2.1 b.2.1,pMax b.2.2.1 b.2.1,(i:Int),b,y96,(pApp (spotsM C b.1 (posS S0) (i+1)) [y97]),())) (
              none)) (bindO (idx b.1 (i:Int)) fun y95 =>
            bindO (zAB N (penQ C (layN C (regA b reg) b.1 S0 i)) y95 0) fun y96 =>
            bindO (zBM N y96) fun y97 =>
            ifB (pFit (spotsM C b.1 (posS S0) (i+1)) [y97]) (
              some (reg,pMin b.2.2.1 b.2.1,pMax b.2.2.1 b.2.1,(i:Int),b,y96,(pApp (spotsM C b.1 (posS S0) (i+1)) [y97]),())) (
              none))=(if x=true then (bindO (idx b.1 (i:Int)) fun y95 =>
            bindO (zAB N (penQ C (layN C (regA b reg) b.1 S0 i)) y95 1) fun y96 =>
            bindO (zBM N y96) fun y97 =>
            ifB (pFit (spotsM C b.1 (posS S0) (i+1)) [y97]) (
              some (reg,pMin b.2.2.1 b.2.1,pMax b.2.2.1 b.2.1,(i:Int),b,y96,(pApp (spotsM C b.1 (posS S0) (i+1)) [y97]),())) (
              none)) else (bindO (idx b.1 (i:Int)) fun y95 =>
            bindO (zAB N (penQ C (layN C (regA b reg) b.1 S0 i)) y95 0) fun y96 =>
            bindO (zBM N y96) fun y97 =>
            ifB (pFit (spotsM C b.1 (posS S0) (i+1)) [y97]) (
              some (reg,pMin b.2.2.1 b.2.1,pMax b.2.2.1 b.2.1,(i:Int),b,y96,(pApp (spotsM C b.1 (posS S0) (i+1)) [y97]),())) (
              none))):=fun x=>by cases x <;> rfl
      rw [pLt_t (by omega),ifB_t,zD6,zA2,zD6,zA2,r1,pGe_d,pLt_d]
      have hra:regA b reg i=if ((reg && decide ((i:Int) >= pMin b.2.2.1 b.2.1)) && decide ((i:Int) < pMax b.2.2.1 b.2.1))=true then 1 else 0:=by
        unfold regA;rw [Bool.and_assoc]
      split
      · rename_i h
        rw [one 1 (by rw [hra,if_pos h]),zA2]
        simp only [e2]
      · rename_i h
        rw [one 0 (by rw [hra,if_neg h]),zA2]
        simp only [e2]
    · unfold zAK.l11
      simp only [zCT]
      rw [pLt_f (by omega),ifB_f]
end Go.AE.F
