/- Plain laws of those functions. -/
import Derived.Test.YthcbmbakpjelgaaGreatDoorLSendP12
namespace Go.AE.F
open Go.AE
def layN (C:Nat) (at':Nat->Int) (l:List Int) (S:LaidT):Nat->LaidT
 | 0=>S
 | i+1=>pointU C (l.getD i 0) (at' i) (layN C at' l S i)
def posS (S:LaidT):Int×Int:=((S.1.length:Int),(wR S.2:Int))
theorem zNY (C:Nat) (s a:Int) (S:LaidT) (hS:LaidOk C S):posS (addU C s a S)=stepW C (wG s) (posS S):=by
 have hw:=zET s
 obtain ⟨g1,g2,g3⟩:=hS
 unfold addU stepW posS
 by_cases h0:wG s=0
 ·rw [if_pos h0,if_pos h0]
  simp only [zF2 s _ g3]
 rw [if_neg h0,if_neg h0]
 have e1:=zHU s a h0
 by_cases hl:C - wR S.2 < (wG s).toNat
 ·rw [if_pos hl,if_pos (by show (C:Int) - (wR S.2:Int) < wG s;omega)]
  have:wR [([s],a)]=(wG s).toNat:=by rw [← List.nil_append [([s],a)],zE5,e1];show 0+_=_;omega
  simp only [this,List.length_append,List.length_singleton]
  congr 1;omega
 ·rw [if_neg hl,if_neg (by show ¬ (C:Int) - (wR S.2:Int) < wG s;omega)]
  simp only [zE5,e1]
  congr 1;omega
theorem zJ8 {C:Nat} (hC:2<=C) (a:Int):∀ (l:List Int) (S:LaidT),LaidOk C S->posS (l.foldl (fun S s=>addU C s a S) S)=foldW C l (posS S)
 | [],_,_=>rfl
 | s::l,S,hS=>by
  rw [List.foldl_cons,zJ8 hC a l _ (zIH hC s a hS),zNY C s a S hS];rfl
theorem zJK {C:Nat} (hC:2<=C) (p a:Int) (S:LaidT) (hS:LaidOk C S):posS (pointU C p a S)=ptM C p (posS S):=by
 unfold pointU ptM
 by_cases h:p=10
 ·rw [if_pos h,if_pos h];unfold posS;simp [wR,rowUC]
 ·rw [if_neg h,if_neg h,zJ8 hC a _ S hS]
theorem zF0 {C:Nat} (hC:2<=C) (at':Nat->Int) (l:List Int) {S:LaidT} (h:LaidOk C S):∀ i,LaidOk C (layN C at' l S i)
 | 0=>h
 | i+1=>zM2 hC _ _ (zF0 hC at' l h i)
theorem zF5 {C:Nat} (hC:2<=C) (at':Nat->Int) (l:List Int) {S:LaidT} (h:LaidOk C S):∀ i,i<=l.length->posS (layN C at' l S i)=layM C (l.take i) (posS S)
 | 0,_=>rfl
 | i+1,hi=>by
  rw [zIG C l i (by omega),← zF5 hC at' l h i (by omega),layN,zJK hC _ _ _ (zF0 hC at' l h i),zEB (by omega)]
theorem zF8 (C:Nat) (at':Nat->Int) (l:List Int) (S:LaidT):∀ i,szS (layN C at' l S i)<=szS S+4 * i
 | 0=>by show szS S<=_;omega
 | i+1=>by
  have h1:=zF8 C at' l S i
  have h2:=zL2 C (l.getD i 0) (at' i) (layN C at' l S i)
  rw [layN];omega
theorem zID (S:LaidT):S.1.length<=szS S:=by unfold szS;omega
theorem zI9 (N C:Nat) (S:LaidT) (h:S.1.length<=100000) (sp:List (Int×Int×Unit)):zDJ N (layQ C S sp)=some (spotM C (posS S)):=by
 unfold zDJ layQ spotM posS
 simp only []
 by_cases hh:(wR S.2:Int)=(C:Int)
 ·rw [pEq_t hh,ifB_t,if_pos hh,zC6 (by omega) (by omega)]
 ·rw [pEq_f hh,ifB_f,if_neg hh]
theorem zHX (N C:Nat) (S:LaidT) (h:S.1.length<=100000) (hS:wR S.2<=C):zBM N (penQ C S)=some (spotM C (posS S)):=by
 have el:pSub .i64 (pLen (penQ C S).2.1) 1=(S.1.length:Int):=by
  show pSub .i64 (((S.1.map (rowPad C) ++ [rowPad C S.2]).length:Nat):Int) 1=_
  rw [zCX (by simp <;> omega) (by simp <;> omega)];simp
 unfold zBM
 rw [el]
 unfold penQ spotM posS
 simp only []
 by_cases hh:(wR S.2:Int)=(C:Int)
 ·rw [pGe_t (by omega),ifB_t,if_pos hh,zC6 (by omega) (by omega)]
 ·rw [pGe_f (by omega),ifB_f,if_neg hh]
def regA (b:BufT) (reg:Bool) (i:Nat):Int:=if (reg && (decide (pMin b.2.2.1 b.2.1<=(i:Int)) && decide ((i:Int) < pMax b.2.2.1 b.2.1)))=true then 1 else 0
theorem zNA (b:BufT) (reg:Bool) (i:Nat):regA b reg i=0 \/ regA b reg i=1:=by unfold regA;split;exact .inr rfl;exact .inl rfl
def laidS (C:Nat) (pr:List Int) (b:BufT) (reg:Bool):LaidT:=layN C (regA b reg) b.1 (layN C (fun _=>0) pr ([],[]) pr.length) b.1.length
theorem zIE (C:Nat):LaidOk C ([],[]):=⟨fun _ h=>by (cases h),Nat.zero_le _,fun _ h=>by (cases h)⟩
theorem zIK (N:Nat) (hN:2000 < N) (C:Nat) (hC:2<=C/\C<=80) (pr:List Int) (hp:pr.length<=400) (b:BufT) (hb:bufG b=true) (reg:Bool) :
  zDD N pr b reg C=some (layQ C (laidS C pr b reg) (spotsM C b.1 (layM C pr (0,0)) (b.1.length+1))):=by
 obtain ⟨hb0,hb1,hb2,hb3,hb4⟩:=zFF.1 hb
 have hbl:=zEJ hb0
 unfold zDD
 rw [zCP]
 have hs0:szS (([],[]):LaidT)=0:=rfl
 have z1:=zF8 C (fun _=>0) pr ([],[])
 have ok1:=zF0 hC.1 (fun _=>0) pr (zIE C)
 have e0:layQ C ([],[]) []=((C:Int),0,0,[],false,[],()):=rfl
 refine (zDS (step:=zDD.l3 N) (fun i=>(reg,pr,(pr.length:Int),(i:Int),b,layQ C (layN C (fun _=>0) pr ([],[]) i) [],())) pr.length _ (reg,b,layQ C (layN C (fun _=>0) pr ([],[]) pr.length) [],()) (fun i kn hi=>?_) (fun kn=>?_) N (by omega)).trans ?_
 ·unfold zDD.l3
  simp only []
  have zi:=z1 i
  rw [pLt_t (by omega),ifB_t,zCT hi,zA2,zFH N (by omega) C hC _ (ok1 i) (by omega),zA2,zC6 (by omega) (by omega)]
  rw [layN,zEB hi];rfl
 ·unfold zDD.l3
  simp only []
  rw [pLt_f (by omega),ifB_f]
 ·simp only []
  unfold zEZ
  rw [zA2,zCP]
  have z2:=z1 pr.length
  have o2:=ok1 pr.length
  have hpos:posS (layN C (fun _=>0) pr ([],[]) pr.length)=layM C pr (0,0):=by
   rw [zF5 hC.1 (fun _=>0) pr (zIE C) pr.length (Nat.le_refl _),List.take_length];rfl
  unfold laidS
  generalize layN C (fun _=>0) pr ([],[]) pr.length=S0 at *
  rw [← hpos]
  have z3:=zF8 C (regA b reg) b.1 S0
  have ok3:=zF0 hC.1 (regA b reg) b.1 o2
  refine (zDS (step:=zDD.l9 N) (fun i=>(reg,pMin b.2.2.1 b.2.1,pMax b.2.2.1 b.2.1,b.1,(b.1.length:Int),(i:Int),layQ C (layN C (regA b reg) b.1 S0 i) (spotsM C b.1 (posS S0) i),())) b.1.length _ (layQ C (layN C (regA b reg) b.1 S0 b.1.length) (spotsM C b.1 (posS S0) b.1.length),()) (fun i kn hi=>?_) (fun kn=>?_) N (by omega)).trans ?_
  ·unfold zDD.l9
   simp only []
   have zi:=z3 i
   have hps:=zF5 hC.1 (regA b reg) b.1 o2 i (by omega)
   have hsp:(layQ C (layN C (regA b reg) b.1 S0 i) (spotsM C b.1 (posS S0) i)).2.2.2.2.2.1=spotsM C b.1 (posS S0) i:=rfl
   rw [pLt_t (by omega),ifB_t,zCT hi,zA2,zI9 N C _ (Nat.le_trans (zID _) (by omega)),zA2,hsp,zD0 (by rw [zFG];simp;omega),ifB_t]
   have hq:((layQ C (layN C (regA b reg) b.1 S0 i) (spotsM C b.1 (posS S0) i)).1,(layQ C (layN C (regA b reg) b.1 S0 i) (spotsM C b.1 (posS S0) i)).2.1,(layQ C (layN C (regA b reg) b.1 S0 i) (spotsM C b.1 (posS S0) i)).2.2.1,(layQ C (layN C (regA b reg) b.1 S0 i) (spotsM C b.1 (posS S0) i)).2.2.2.1,(layQ C (layN C (regA b reg) b.1 S0 i) (spotsM C b.1 (posS S0) i)).2.2.2.2.1,pApp (spotsM C b.1 (posS S0) i) [spotM C (posS (layN C (regA b reg) b.1 S0 i))],(layQ C (layN C (regA b reg) b.1 S0 i) (spotsM C b.1 (posS S0) i)).2.2.2.2.2.2)=layQ C (layN C (regA b reg) b.1 S0 i) (spotsM C b.1 (posS S0) (i+1)):=by
    rw [zF4,← hps];rfl
   rw [hq]
   have one:=fun a:Int=>zFH N (by omega) C hC _ (ok3 i) (by omega) (spotsM C b.1 (posS S0) (i+1)) b.1[i] a
   have e2:pAdd .i64 (i:Int) 1=((i+1:Nat):Int):=zC6 (by omega) (by omega)
   have ehi:decide ((i:Int)<=pSub .i64 (pMax b.2.2.1 b.2.1) 1)=decide ((i:Int) < pMax b.2.2.1 b.2.1):=by
    have hm:0<=pMax b.2.2.1 b.2.1/\pMax b.2.2.1 b.2.1<=300:=by unfold pMax;split <;> omega
    rw [zCX (by omega) (by omega)]
    by_cases h:(i:Int) < pMax b.2.2.1 b.2.1
    ·rw [decide_eq_true h,decide_eq_true (by omega)]
    ·rw [decide_eq_false h,decide_eq_false (by omega)]
   rw [zCQ,zA2,ehi]
   simp only [one,zA2]
   rw [layN,zEB hi]
   unfold regA
   cases reg with
   | false=>simp [ifB_f,zA2,e2]
   | true =>
    rw [ifB_t,zA2]
    cases (decide (pMin b.2.2.1 b.2.1<=(i:Int)) && decide ((i:Int) < pMax b.2.2.1 b.2.1)) <;> simp [ifB_t,ifB_f,zA2,e2]
  ·unfold zDD.l9
   simp only []
   rw [pLt_f (by omega),ifB_f]
  ·simp only []
   have zi:=z3 b.1.length
   have hps:=zF5 hC.1 (regA b reg) b.1 o2 b.1.length (Nat.le_refl _)
   have hsp:(layQ C (layN C (regA b reg) b.1 S0 b.1.length) (spotsM C b.1 (posS S0) b.1.length)).2.2.2.2.2.1=spotsM C b.1 (posS S0) b.1.length:=rfl
   rw [zI9 N C _ (Nat.le_trans (zID _) (by omega)),zA2,hsp,zD0 (by rw [zFG];simp;omega),ifB_t,zF4,← hps]
   rfl
theorem zIJ (N:Nat) (hN:2000 < N) (C:Nat) (hC:2<=C/\C<=80) (pr:List Int) (hp:pr.length<=400) (b:BufT) (hb:bufG b=true) (reg:Bool) :
    zAK N pr b reg C=some (penQ C (laidS C pr b reg),spotsM C b.1 (layM C pr (0,0)) (b.1.length+1)):=by
  obtain ⟨hb0,hb1,hb2,hb3,hb4⟩:=zFF.1 hb
  have hbl:=zEJ hb0
  unfold zAK
  rw [zL5 N C hC,zA2]
  have z1:=zF8 C (fun _=>0) pr ([],[])
  have hs0:szS (([],[]):LaidT)=0:=rfl
  have ok1:=zF0 hC.1 (fun _=>0) pr (zIE C)
  refine (zDS (step:=zAK.l4 N) (fun i=>(pr,reg,(i:Int),b,penQ C (layN C (fun _=>0) pr ([],[]) i),())) pr.length _ (reg,b,penQ C (layN C (fun _=>0) pr ([],[]) pr.length),()) (fun i kn hi=>?_) (fun kn=>?_) N (by omega)).trans ?_
  · unfold zAK.l4
    simp only [zCP]
    have zi:=z1 i
    rw [pLt_t (by omega),ifB_t,zCT hi,zA2,zFQ N (by omega) C hC _ (ok1 i) (by omega),zA2,zC6 (by omega) (by omega)]
    rw [layN,zEB hi];rfl
  · unfold zAK.l4
    simp only [zCP]
    rw [pLt_f (by omega),ifB_f]
  · simp only []
    have z2:=z1 pr.length
    have o2:=ok1 pr.length
    have hpos:posS (layN C (fun _=>0) pr ([],[]) pr.length)=layM C pr (0,0):=by
      rw [zF5 hC.1 (fun _=>0) pr (zIE C) pr.length (Nat.le_refl _),List.take_length];rfl
    unfold laidS
    generalize layN C (fun _=>0) pr ([],[]) pr.length=S0 at *
    rw [← hpos,zHX N C S0 (Nat.le_trans (zID _) (by omega)) o2.2.1,zA2]
    have emin:zCD N b.2.1 b.2.2.1=some (pMin b.2.2.1 b.2.1):=by
      unfold zCD pMin
      by_cases h:b.2.1 < b.2.2.1
      · rw [pLt_t h,ifB_t,if_pos h]
      · rw [pLt_f (by omega),ifB_f,if_neg h]
    have emax:zBV N b.2.1 b.2.2.1=some (pMax b.2.2.1 b.2.1):=by
      unfold zBV pMax
      by_cases h:b.2.2.1 < b.2.1
      · rw [pGt_t h,ifB_t,if_pos h]
      · rw [pGt_f (by omega),ifB_f,if_neg h]
    rw [emin,zA2,emax,zA2]
    have z3:=zF8 C (regA b reg) b.1 S0
    have ok3:=zF0 hC.1 (regA b reg) b.1 o2
    have sp0:[spotM C (posS S0)]=spotsM C b.1 (posS S0) (0+1):=by rw [zF4];rfl
    rw [sp0]
    refine (zDS (step:=zAK.l11 N) (fun i=>(reg,pMin b.2.2.1 b.2.1,pMax b.2.2.1 b.2.1,(i:Int),b,penQ C (layN C (regA b reg) b.1 S0 i),spotsM C b.1 (posS S0) (i+1),())) b.1.length _ (penQ C (layN C (regA b reg) b.1 S0 b.1.length),spotsM C b.1 (posS S0) (b.1.length+1),()) (fun i kn hi=>?_) (fun kn=>?_) N (by omega)).trans rfl
    · unfold zAK.l11
      simp only [zCP]
      have zi:=z3 i
      have zi1:=z3 (i+1)
      have hps:=zF5 hC.1 (regA b reg) b.1 o2 (i+1) (by omega)
      have e2:pAdd .i64 (i:Int) 1=((i+1:Nat):Int):=zC6 (by omega) (by omega)
      have one : ∀ a : Int, a = regA b reg i -> (bindO (idx b.1 (i : Int)) fun y95 =>
            bindO (zAB N (penQ C (layN C (regA b reg) b.1 S0 i)) y95 a) fun y96 =>
            bindO (zBM N y96) fun y97 =>
            ifB (pFit (spotsM C b.1 (posS S0) (i+1)) [y97]) (
              some (reg,pMin b.2.2.1 b.2.1,pMax b.2.2.1 b.2.1,(i:Int),b,y96,(pApp (spotsM C b.1 (posS S0) (i+1)) [y97]),())) (
              none))=some (reg,pMin b.2.2.1 b.2.1,pMax b.2.2.1 b.2.1,(i:Int),b,penQ C (layN C (regA b reg) b.1 S0 (i+1)),spotsM C b.1 (posS S0) (i+1+1),()):=fun a ha=>by
        rw [zCT hi,zA2,zFQ N (by omega) C hC _ (ok3 i) (by omega),zA2]
        have es:pointU C b.1[i] a (layN C (regA b reg) b.1 S0 i)=layN C (regA b reg) b.1 S0 (i+1):=by rw [layN,zEB hi,ha]
        rw [es,zHX N C _ (Nat.le_trans (zID _) (by omega)) (ok3 (i+1)).2.1,zA2,zD0 (by rw [zFG];simp;omega),ifB_t,zF4 C b.1 (posS S0) (i+1),← hps]
        rfl
      have r1 : ∀ x : Bool, ifB x (bindO (idx b.1 (i : Int)) fun y95 =>
            bindO (zAB N (penQ C (layN C (regA b reg) b.1 S0 i)) y95 1) fun y96 =>
            bindO (zBM N y96) fun y97 =>
            ifB (pFit (spotsM C b.1 (posS S0) (i+1)) [y97]) (
              some (reg,pMin b.2.2.1 b.2.1,pMax b.2.2.1 b.2.1,(i:Int),b,y96,(pApp (spotsM C b.1 (posS S0) (i+1)) [y97]),())) (
              none)) (bindO (idx b.1 (i:Int)) fun y95 =>
            bindO (zAB N (penQ C (layN C (regA b reg) b.1 S0 i)) y95 0) fun y96 =>
            bindO (zBM N y96) fun y97 =>
            ifB (pFit (spotsM C b.1 (posS S0) (i+1)) [y97]) (
              some (reg,pMin b.2.2.1 b.2.1,pMax b.2.2.1 b.2.1,(i:Int),b,y96,(pApp (spotsM C b.1 (posS S0) (i+1)) [y97]),())) (
              none))=(if x=true then (bindO (idx b.1 (i:Int)) fun y95 =>
            bindO (zAB N (penQ C (layN C (regA b reg) b.1 S0 i)) y95 1) fun y96 =>
            bindO (zBM N y96) fun y97 =>
            ifB (pFit (spotsM C b.1 (posS S0) (i+1)) [y97]) (
              some (reg,pMin b.2.2.1 b.2.1,pMax b.2.2.1 b.2.1,(i:Int),b,y96,(pApp (spotsM C b.1 (posS S0) (i+1)) [y97]),())) (
              none)) else (bindO (idx b.1 (i:Int)) fun y95 =>
            bindO (zAB N (penQ C (layN C (regA b reg) b.1 S0 i)) y95 0) fun y96 =>
            bindO (zBM N y96) fun y97 =>
            ifB (pFit (spotsM C b.1 (posS S0) (i+1)) [y97]) (
              some (reg,pMin b.2.2.1 b.2.1,pMax b.2.2.1 b.2.1,(i:Int),b,y96,(pApp (spotsM C b.1 (posS S0) (i+1)) [y97]),())) (
              none))):=fun x=>by cases x <;> rfl
      rw [pLt_t (by omega),ifB_t,zD4,zA2,zD4,zA2,r1,pGe_d,pLt_d]
      have hra:regA b reg i=if ((reg && decide ((i:Int) >= pMin b.2.2.1 b.2.1)) && decide ((i:Int) < pMax b.2.2.1 b.2.1))=true then 1 else 0:=by
        unfold regA;rw [Bool.and_assoc]
      split
      · rename_i h
        rw [one 1 (by rw [hra,if_pos h]),zA2]
        simp only [e2]
      · rename_i h
        rw [one 0 (by rw [hra,if_neg h]),zA2]
        simp only [e2]
    · unfold zAK.l11
      simp only [zCP]
      rw [pLt_f (by omega),ifB_f]
end Go.AE.F
