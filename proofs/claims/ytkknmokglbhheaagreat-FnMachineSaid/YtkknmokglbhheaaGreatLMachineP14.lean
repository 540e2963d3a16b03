/- Plain laws of those functions. -/
import Derived.Test.YtkknmokglbhheaaGreatLMachineP13
namespace Go.AE.F
open Go.AE
def Bd (x:Int):Prop:=-1000000000≤x∧x≤1000000000
def SInv (sc:SceneT):Prop:=bufG sc.1=true∧0≤sc.2.1∧sc.2.1≤5000∧0≤sc.2.2.1
theorem took_inv {sc:SceneT} {i j:Int} {p:List Int} (h:SInv sc) (hp:ptsG p=true) (h0:(tookS sc (replG sc.1 i j p)).2.2.2.1=0):SInv (tookS sc (replG sc.1 i j p))∧(tookS sc (replG sc.1 i j p)).2.2.1=sc.2.2.1:=by
  unfold tookS at h0 ⊢
  by_cases hc:(replG sc.1 i j p).2.2.1≠0
  · rw [if_pos hc] at h0;exact absurd h0 hc
  · rw [if_neg hc]
    exact ⟨⟨insG_right h.1 hp (Classical.not_not.1 hc),h.2⟩,rfl⟩
theorem set_mem {v:List Int} {i:Nat} {a x:Int} (h:x∈v.set i a):x∈v ∨ x=a:=List.mem_or_eq_of_mem_set h
theorem get_bd {v:List Int} (hv:∀ x∈v,Bd x) (i:Nat):Bd ((v[i]?).getD 0):=by
  cases h:v[i]? with
  | none=>exact ⟨by decide,by decide⟩
  | some x=>exact hv x (List.mem_of_getElem? h)
structure EvOk (o:OpT) (k:Int) (sc:SceneT) (e:EvT):Prop where
  len:e.v.length=8
  put:(e.put.length:Int)=(takesG o.1).2
  go:e.at'∈nextG o k
  inv:e.sc.2.2.2.1=0→SInv e.sc∧e.sc.2.2.1≤sc.2.2.1+1∧(∀ x∈e.v,Bd x)∧∀ x∈e.put,Bd x
theorem ev_ok {o:OpT} {n:Int} (ho:opG o n=true) {sc:SceneT} (hs:SInv sc) (h0:sc.2.2.2.1=0) {v:List Int} (hv:v.length=8) (hvb:∀ x∈v,Bd x) {a b:Int} (ha:Bd a) (hb:Bd b) (k:Int):EvOk o k sc (evG o sc v a b (k+1)):=by
  have hk:=op_kind ho
  obtain ⟨n2,n3,n10⟩:=op_nums ho
  obtain ⟨kk,num,u⟩:=o
  simp only at hk n2 n3 n10
  obtain ⟨b1,b2,b3,b4,b5⟩:=bufG_iff.1 hs.1
  have hl:=ptsG_len b1
  have hnil:∀ x∈([]:List Int),Bd x:=fun x hx=>by cases hx
  have hone : ∀ y, Bd y → ∀ x ∈ [y], Bd x := fun y hy x hx => by have : x = y := by simpa using hx
                                                                 rw [this];exact hy
  rcases (by omega:kk=1 ∨ kk=2 ∨ kk=3 ∨ kk=4 ∨ kk=5 ∨ kk=6 ∨ kk=7 ∨ kk=8 ∨ kk=9 ∨ kk=10 ∨ kk=11 ∨ kk=12 ∨ kk=13 ∨ kk=14 ∨ kk=15 ∨ kk=16 ∨ kk=17 ∨ kk=18) with rfl | rfl | rfl | rfl | rfl | rfl | rfl | rfl | rfl | rfl | rfl | rfl | rfl | rfl | rfl | rfl | rfl | rfl
  · refine ⟨hv,rfl,by show k+1∈[k+1];simp,fun hc=>?_⟩
    show SInv (tickG sc)∧(tickG sc).2.2.1≤_∧_
    have hc:(tickG sc).2.2.2.1=0:=hc
    unfold tickG at hc ⊢
    by_cases hf:sc.2.1=0
    · rw [if_pos hf] at hc;exfalso;have:(6:Int)=0:=hc;omega
    · rw [if_neg hf]
      exact ⟨⟨hs.1,by show 0≤sc.2.1 - 1;have:=hs.2.1;omega,by show sc.2.1 - 1≤5000;have:=hs.2.2.1;omega,hs.2.2.2⟩,by show sc.2.2.1≤_;omega,hvb,hnil⟩
  · refine ⟨hv,rfl,by show k+1∈[k+1];simp,fun hc=>?_⟩
    exact ⟨hs,by show sc.2.2.1≤_;omega,hvb,hone _ ⟨by have:=n2 rfl;show -1000000000≤num;omega,by have:=n2 rfl;show num≤1000000000;omega⟩⟩
  · refine ⟨hv,rfl,by show k+1∈[k+1];simp,fun hc=>?_⟩
    exact ⟨hs,by show sc.2.2.1≤_;omega,hvb,hone _ (get_bd hvb _)⟩
  · refine ⟨by show (v.set num.toNat a).length=8;simp [hv],rfl,by show k+1∈[k+1];simp,fun hc=>?_⟩
    refine ⟨hs,by show sc.2.2.1≤_;omega,fun x hx=>?_,hnil⟩
    rcases set_mem hx with h | h
    · exact hvb x h
    · rw [h];exact ha
  · refine ⟨hv,rfl,by show k+1∈[k+1];simp,fun hc=>?_⟩
    exact ⟨hs,by show sc.2.2.1≤_;omega,hvb,hone _ ⟨by omega,by omega⟩⟩
  · refine ⟨hv,rfl,by show k+1∈[k+1];simp,fun hc=>?_⟩
    exact ⟨hs,by show sc.2.2.1≤_;omega,hvb,hone _ ⟨by omega,by omega⟩⟩
  · refine ⟨hv,rfl,by show k+1∈[k+1];simp,fun hc=>?_⟩
    exact ⟨hs,by show sc.2.2.1≤_;omega,hvb,hone _ ⟨by omega,by omega⟩⟩
  · refine ⟨hv,rfl,by show k+1∈[k+1];simp,fun hc=>?_⟩
    show SInv (atS sc a).2∧(atS sc a).2.2.2.1≤_∧_∧∀ x∈[(atS sc a).1],Bd x
    have hc:(atS sc a).2.2.2.2.1=0:=hc
    unfold atS at hc ⊢
    by_cases h:0≤a∧a < (sc.1.1.length:Int)
    · rw [if_pos h]
      refine ⟨hs,by show sc.2.2.1≤_;omega,hvb,hone _ ?_⟩
      have hlt:a.toNat < sc.1.1.length:=by omega
      rw [List.getElem?_eq_getElem hlt]
      unfold ptsG at b1
      simp only [Bool.and_eq_true,List.all_eq_true] at b1
      have:=b1.2 _ (List.getElem_mem hlt)
      unfold ptG at this
      simp only [Bool.and_eq_true,decide_eq_true_eq] at this
      exact ⟨by show -1000000000≤sc.1.1[a.toNat];omega,by show sc.1.1[a.toNat]≤1000000000;omega⟩
    · rw [if_neg h] at hc;exfalso;have:(8:Int)=0:=hc;omega
  · refine ⟨hv,rfl,by show k+1∈[k+1];simp,fun hc=>?_⟩
    exact ⟨hs,by show sc.2.2.1≤_;omega,hvb,hone _ (by split <;> exact ⟨by decide,by decide⟩)⟩
  · refine ⟨hv,rfl,by show k+1∈[k+1];simp,fun hc=>?_⟩
    show SInv (twoS sc num a b).2∧(twoS sc num a b).2.2.2.1≤_∧_∧∀ x∈[(twoS sc num a b).1],Bd x
    have hc:(twoS sc num a b).2.2.2.2.1=0:=hc
    unfold twoS at hc ⊢
    cases ht:twoV num a b with
    | none=>rw [ht] at hc;exfalso;have:(8:Int)=0:=hc;omega
    | some w =>
      rw [ht] at hc
      simp only at hc ⊢
      unfold resS at hc ⊢
      cases hw:okV w with
      | false=>rw [hw,if_pos rfl] at hc;exfalso;have:(8:Int)=0:=hc;omega
      | true =>
        rw [if_neg (by simp)]
        unfold okV at hw
        simp only [Bool.and_eq_true,decide_eq_true_eq] at hw
        exact ⟨hs,by show sc.2.2.1≤_;omega,hvb,hone _ hw⟩
  · refine ⟨hv,rfl,by show num∈[num];simp,fun hc=>?_⟩
    exact ⟨hs,by show sc.2.2.1≤_;omega,hvb,hnil⟩
  · refine ⟨hv,rfl,by show (if a=0 then num else k+1)∈[k+1,num];split <;> simp,fun hc=>?_⟩
    exact ⟨hs,by show sc.2.2.1≤_;omega,hvb,hnil⟩
  · refine ⟨hv,rfl,by show k+1∈[k+1];simp,fun hc=>?_⟩
    show SInv (insS sc a)∧(insS sc a).2.2.1≤_∧_
    have hc:(insS sc a).2.2.2.1=0:=hc
    unfold insS at hc ⊢
    by_cases hp:ptG a=false
    · rw [if_pos hp] at hc;exfalso;have:(8:Int)=0:=hc;omega
    · rw [if_neg hp] at hc ⊢
      have hpt:ptsG [a]=true:=by unfold ptsG;simp at hp;simp [hp]
      obtain ⟨q1,q2⟩:=took_inv hs hpt hc
      exact ⟨q1,by rw [q2];omega,hvb,hnil⟩
  · refine ⟨hv,rfl,by show k+1∈[k+1];simp,fun hc=>?_⟩
    have hc:(tookS sc (replG sc.1 a b [])).2.2.2.1=0:=hc
    obtain ⟨q1,q2⟩:=took_inv hs (rfl:ptsG []=true) hc
    exact ⟨q1,by show (tookS sc (replG sc.1 a b [])).2.2.1≤_;rw [q2];omega,hvb,hnil⟩
  · refine ⟨hv,rfl,by show k+1∈[k+1];simp,fun hc=>?_⟩
    show SInv (goS sc a)∧(goS sc a).2.2.1≤_∧_
    have hc:(goS sc a).2.2.2.1=0:=hc
    unfold goS at hc ⊢
    by_cases hd:(decide (0≤a) && decide (a≤(sc.1.1.length:Int)))=false
    · rw [if_pos hd] at hc;exfalso;have:(8:Int)=0:=hc;omega
    · rw [if_neg hd]
      have hd:(decide (0≤a) && decide (a≤(sc.1.1.length:Int)))=true:=by simpa using hd
      simp only [Bool.and_eq_true,decide_eq_true_eq] at hd
      exact ⟨⟨bufG_iff.2 ⟨b1,hd.1,hd.2,b4,b5⟩,hs.2⟩,by show sc.2.2.1≤_;omega,hvb,hnil⟩
  · refine ⟨hv,rfl,by show k+1∈[k+1];simp,fun hc=>?_⟩
    show SInv (markS sc a)∧(markS sc a).2.2.1≤_∧_
    have hc:(markS sc a).2.2.2.1=0:=hc
    unfold markS at hc ⊢
    by_cases hd:(decide (0≤a) && decide (a≤(sc.1.1.length:Int)))=false
    · rw [if_pos hd] at hc;exfalso;have:(8:Int)=0:=hc;omega
    · rw [if_neg hd]
      have hd:(decide (0≤a) && decide (a≤(sc.1.1.length:Int)))=true:=by simpa using hd
      simp only [Bool.and_eq_true,decide_eq_true_eq] at hd
      exact ⟨⟨bufG_iff.2 ⟨b1,b2,b3,hd.1,hd.2⟩,hs.2⟩,by show sc.2.2.1≤_;omega,hvb,hnil⟩
  · refine ⟨hv,rfl,by show k+1∈[k+1];simp,fun hc=>?_⟩
    exact ⟨⟨hs.1,hs.2.1,hs.2.2.1,by show 0≤sc.2.2.1+1;have:=hs.2.2.2;omega⟩,by show sc.2.2.1+1≤_;omega,hvb,hnil⟩
  · refine ⟨hv,rfl,by show k+1∈[k+1];simp,fun hc=>?_⟩
    exact ⟨⟨moveB_right hs.1,hs.2⟩,by show sc.2.2.1≤_;omega,hvb,hnil⟩
end Go.AE.F
