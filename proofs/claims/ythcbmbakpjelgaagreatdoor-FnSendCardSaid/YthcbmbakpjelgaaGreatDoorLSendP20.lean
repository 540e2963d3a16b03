/- Plain laws of those functions. -/
import Derived.Test.YthcbmbakpjelgaaGreatDoorLSendP19
namespace Go.AE.F
open Go.AE
theorem zMP (a b:List Int):ssub (bytesOf (a ++ b)) (a.length:Int) (pSize (bytesOf (a ++ b)))=bytesOf b:=by
 unfold ssub pSize
 rw [Int.toNat_natCast,Int.toNat_natCast,zDO,List.length_append]
 unfold bytesOf
 apply ByteArray.ext
 simp only [ByteArray.data_extract,List.map_append,List.extract_toArray,List.extract_eq_take_drop]
 congr 1
 rw [List.drop_left' (by simp)]
 exact List.take_of_length_le (by simp)
theorem zHZ (l:List Int):pSEq (bytesOf l) (ByteArray.mk #[])=decide (l=[]):=by
 unfold pSEq
 rw [Go.Lib.toList_data,Go.Lib.toList_data]
 cases l with
 | nil=>rfl
 | cons a l=>rw [decide_eq_false (by simp)];unfold bytesOf;rfl
theorem zI5 (N:Nat) (P:List Int) (hp:∀ p∈P,ptG p=true) (hl:P.length<=100000) (hN:P.length < N):zAQ N (bytesOf (encs P))=some P:=by
 unfold zAQ
 have key:∀ (P:List Int) (acc:List Int) (f:Nat),(∀ p∈P,ptG p=true)->acc.length+P.length<=100000->P.length < f->∀ {Q:Type} (k:_->Option Q),loopP (zAQ.l2 N) f (bytesOf (encs P),acc,()) k=k (acc ++ P,()):=by
  intro P
  induction P with
  | nil =>
   intro acc f _ _ hf Q k
   obtain ⟨f,rfl⟩:=zCU hf
   rw [zCO];unfold zAQ.l2;simp only []
   have:encs []=[]:=rfl
   rw [this,zHZ,decide_eq_true rfl,zCZ,Bool.not_true,ifB_f,List.append_nil]
  | cons p P ih =>
   intro acc f hp hl hf Q k
   rw [List.length_cons] at hl hf
   obtain ⟨f,rfl⟩:=zCU hf
   have hpp:=hp p (by simp)
   have hpP:∀ q∈P,ptG q=true:=fun q hq=>hp q (List.mem_cons_of_mem _ hq)
   have ee:encs (p::P)=enc p ++ encs P:=by unfold encs;simp
   have hpos:=zMN p
   rw [zCO];unfold zAQ.l2;simp only []
   have hne:enc p ++ encs P≠[]:=fun h=>by have:=(List.append_eq_nil_iff.1 h).1;rw [this] at hpos;simp at hpos
   have hsz:(bytesOf (enc p ++ encs P)).size≠0:=by rw [zDO,List.length_append];omega
   rw [ee,zHZ,decide_eq_false hne,zCZ,Bool.not_false,ifB_t]
   have hd:zBW N (bytesOf (enc p ++ encs P))=some (p,((enc p).length:Int)):=by
    unfold zBW
    rw [if_neg hsz,zOM p hpp _ (zI8 hpP)]
    unfold ptG at hpp
    simp only [Bool.and_eq_true,decide_eq_true_eq] at hpp
    congr 2
    omega
   have hc:pConv .i64 p=p:=by
    unfold ptG at hpp
    simp only [Bool.and_eq_true,decide_eq_true_eq] at hpp
    exact zE0 (by omega) (by omega)
   have hps:pSize (bytesOf (enc p ++ encs P))=(((enc p).length+(encs P).length:Nat):Int):=by unfold pSize;rw [zDO,List.length_append]
   rw [hd,zA2]
   simp only [hc]
   rw [zD0 (by simp;omega),ifB_t,pLe_t (by omega),ifB_t,pLe_t (by rw [hps];omega),ifB_t,pLe_t (Int.le_refl _),ifB_t,zMP]
   refine (ih (pApp acc [p]) f hpP (by simp [pApp];omega) (by omega) k).trans ?_
   unfold pApp
   rw [List.append_assoc];rfl
 exact key P [] N hp (by simpa using hl) hN _
theorem zEP (a b:List Int):encs (a ++ b)=encs a ++ encs b:=by unfold encs;exact List.flatMap_append
theorem zEE:∀ {l:List Int},(∀ x∈l,x < 128)->encs l=l
 | [],_=>rfl
 | x::l,h=>by
  have e:encs (x::l)=enc x ++ encs l:=by unfold encs;simp
  have e2:enc x=[x]:=by unfold enc;rw [if_pos (h x (by simp))]
  rw [e,e2,zEE (fun y hy=>h y (List.mem_cons_of_mem _ hy))];rfl
def goP (r c:Nat):List Int:=27::91::(digs (r+1) ++ 59::(digs (c+1) ++ [72]))
def kP:List Int:=[27,91,75]
def mP (a:Nat):List Int:=27::91::(digs a ++ [109])
theorem zH7 {n:Nat} (h:n < 100):∀ x∈digs n,48<=x/\x < 58:=by
 unfold digs
 intro x hx
 split at hx
 ·simp only [List.mem_cons,List.not_mem_nil,or_false] at hx;omega
 ·simp only [List.mem_cons,List.not_mem_nil,or_false] at hx;rcases hx with rfl | rfl <;> omega
theorem zH9 {r c:Nat} (hr:r < 99) (hc:c < 99):∀ x∈goP r c,0<=x/\x < 128:=fun x hx=>by
 unfold goP at hx
 simp only [List.mem_cons,List.mem_append,List.not_mem_nil,or_false] at hx
 rcases hx with rfl | rfl | h | rfl | h | rfl
 ·omega
 ·omega
 ·have:=zH7 (by omega) x h;omega
 ·omega
 ·have:=zH7 (by omega) x h;omega
 ·omega
theorem zO7:∀ x∈kP,0<=x/\x < 128:=fun x hx=>by
 unfold kP at hx
 simp only [List.mem_cons,List.not_mem_nil,or_false] at hx
 rcases hx with rfl | rfl | rfl <;> omega
theorem zJ5 {a:Nat} (ha:a < 100):∀ x∈mP a,0<=x/\x < 128:=fun x hx=>by
 unfold mP at hx
 simp only [List.mem_cons,List.mem_append,List.not_mem_nil,or_false] at hx
 rcases hx with rfl | rfl | h | rfl
 ·omega
 ·omega
 ·have:=zH7 ha x h;omega
 ·omega
theorem zFB {x:Int} (h:0<=x/\x < 128):ptG x=true:=by
 unfold ptG
 simp only [Bool.and_eq_true,decide_eq_true_eq,Bool.not_eq_true',Bool.and_eq_false_iff,decide_eq_false_iff_not]
 omega
theorem zFI {n:Nat} (h:n < 100):strInts (decG n)=digs n:=by
 unfold decG digs strInts
 split
 ·simp only [List.map_cons,List.map_nil]
  have:(UInt8.ofNat (48+n)).toNat=(48+n) % 256:=by simp
  rw [this,Nat.mod_eq_of_lt (by omega)]
 ·simp only [List.map_cons,List.map_nil]
  have h1:(UInt8.ofNat (48+n / 10)).toNat=(48+n / 10) % 256:=by simp
  have h2:(UInt8.ofNat (48+n % 10)).toNat=(48+n % 10) % 256:=by simp
  rw [h1,h2,Nat.mod_eq_of_lt (by omega),Nat.mod_eq_of_lt (by omega)]
theorem zNK {r:Nat} (hr:r < 99):headS r=goP r 0 ++ kP:=by
 unfold headS goP kP
 rw [zD8,zD8,zFI (by omega)]
 simp [strInts,digs]
theorem zOR {r c:Nat} (hr:r < 99) (hc:c < 99):strInts (csiS r c)=goP r c:=by
 unfold csiS goP
 rw [zD8,zD8,zD8,zD8,zFI (by omega),zFI (by omega)]
 simp [strInts]
theorem zNZ {a:Int} (ha:0<=a/\a<=3):attrS a=mP a.toNat:=by
 unfold attrS mP
 rw [zD8,zD8,zFI (by omega)]
 simp [strInts]
def ptsU:Int->List UnitT->List Int×Int
 | a,[]=>([],a)
 | a,u::t=>((if u.2=a then [] else mP u.2.toNat) ++ u.1 ++ (ptsU u.2 t).1,(ptsU u.2 t).2)
theorem zEU {u:UnitT} (h:uOk u):(0<=u.2/\u.2<=3)/\u.1.length<=4/\(∀ p∈u.1,ptG p=true/\ctlG p=false)/\∃ p t,u.1=p::t/\wG p≠0/\∀ q∈t,wG q=0:=by
 obtain ⟨hc,hn⟩:=h
 unfold cellG cellU at hc
 simp only [Bool.and_eq_true,decide_eq_true_eq,List.all_eq_true,List.mem_range] at hc
 obtain ⟨⟨⟨h1,h2⟩,h3⟩,h4⟩:=hc
 have hp:∀ (i:Nat) (hi:i < u.1.length),ptG u.1[i]=true/\ctlG u.1[i]=false/\(decide (i=0) != decide (wG u.1[i]=0))=true:=fun i hi=>by
  have:=h4 i hi
  unfold okP at this
  rw [zEB hi] at this
  simp only [Bool.and_eq_true,Bool.not_eq_true'] at this
  exact ⟨this.1.1,this.1.2,this.2⟩
 refine ⟨⟨h2,h3⟩,h1,fun p hm=>?_,?_⟩
 ·obtain ⟨i,hi,rfl⟩:=List.getElem_of_mem hm
  exact ⟨(hp i hi).1,(hp i hi).2.1⟩
 ·cases hu:u.1 with
  | nil=>exact absurd hu hn
  | cons p t =>
   refine ⟨p,t,rfl,?_,fun q hq=>?_⟩
   ·have:=(hp 0 (by rw [hu];simp)).2.2
    simp only [hu,List.getElem_cons_zero,decide_true] at this
    intro hz
    rw [decide_eq_true hz] at this;simp at this
   ·obtain ⟨i,hi,rfl⟩:=List.getElem_of_mem hq
    have:=(hp (i+1) (by rw [hu];simp;omega)).2.2
    simp only [hu,List.getElem_cons_succ] at this
    by_cases hz:wG t[i]=0
    ·exact hz
    ·rw [decide_eq_false hz,decide_eq_false (by omega)] at this;simp at this
theorem zH6:∀ {us:List UnitT} {a:Int},(∀ u∈us,uOk u)->(0<=a/\a<=3)->(∀ p∈(ptsU a us).1,ptG p=true)/\(0<=(ptsU a us).2/\(ptsU a us).2<=3)
 | [],_,_,ha=>⟨fun _ h=>by (cases h),ha⟩
 | u::t,a,h,ha=>by
  obtain ⟨f1,f2,f3,_⟩:=zEU (h u (by simp))
  obtain ⟨i1,i2⟩:=zH6 (us:=t) (a:=u.2) (fun x hx=>h x (List.mem_cons_of_mem _ hx)) f1
  refine ⟨fun p hp=>?_,i2⟩
  rw [ptsU] at hp
  simp only [List.mem_append] at hp
  rcases hp with (hp | hp) | hp
  ·split at hp
   ·cases hp
   ·exact zFB (zJ5 (by omega) p hp)
  ·exact (f3 p hp).1
  ·exact i1 p hp
theorem zJ4:∀ {us:List UnitT} {a:Int},(∀ u∈us,uOk u)->(ptsU a us).1.length<=9 * us.length
 | [],_,_=>by simp [ptsU]
 | u::t,a,h=>by
  obtain ⟨f1,f2,_,_⟩:=zEU (h u (by simp))
  have i1:=zJ4 (us:=t) (a:=u.2) (fun x hx=>h x (List.mem_cons_of_mem _ hx))
  rw [ptsU]
  simp only [List.length_append,List.length_cons]
  have hm:(if u.2=a then [] else mP u.2.toNat).length<=5:=by
   split
   ·simp
   ·unfold mP;have:=zF1 u.2.toNat;simp;omega
  omega
theorem zKC:∀ (us:List UnitT) (a:Int) (S:List Int),(∀ u∈us,uOk u)->(rowUC us).foldl rowStep (a,S)=((ptsU a us).2,S ++ encs (ptsU a us).1)
 | [],a,S,_=>by simp [rowUC,ptsU,encs]
 | u::t,a,S,h=>by
  have hu:=h u (by simp)
  obtain ⟨f1,f2,f3,_⟩:=zEU hu
  have ih:=fun a S=>zKC t a S (fun x hx=>h x (List.mem_cons_of_mem _ hx))
  have e0:rowUC (u::t)=uC u ++ rowUC t:=by unfold rowUC;simp
  have hb:strInts (bytesOf (encs u.1))=encs u.1:=zF9 (zI8 fun p hp=>(f3 p hp).1)
  have hone:(uC u).foldl rowStep (a,S)=(u.2,S ++ encs ((if u.2=a then [] else mP u.2.toNat) ++ u.1)):=by
   have h1:rowStep (a,S) (cellU u)=(u.2,S ++ encs ((if u.2=a then [] else mP u.2.toNat) ++ u.1)):=by
    unfold rowStep
    rw [if_neg (show ¬ (cellU u).1=[] from hu.2)]
    have ec1:(cellU u).1=u.1:=rfl
    have ec2:(cellU u).2.1=u.2:=rfl
    simp only [ec1,ec2,hb]
    by_cases hq:u.2=a
    ·rw [if_pos hq,if_pos hq,List.nil_append,hq]
    ·rw [if_neg hq,if_neg hq,zEP,zNZ f1,zEE (fun x hx=>(zJ5 (by omega) x hx).2),List.append_assoc]
   rw [zEL,List.foldl_cons,h1]
   unfold uT
   cases wideC (cellU u) <;> rfl
  rw [e0,List.foldl_append,hone,ih,ptsU]
  simp only [zEP,List.append_assoc]
def rowP (r:Nat) (us:List UnitT):List Int:=goP r 0 ++ kP ++ (ptsU 0 us).1 ++ (if (ptsU 0 us).2=0 then [] else mP 0)
theorem zNS {g:GridT} {C r:Nat} (hr:r < 99) {us:List UnitT} (h:∀ u∈us,uOk u) (e:gRow g C r=rowPad C us):rowL g C r=encs (rowP r us):=by
 unfold rowL rowP
 have hrep:∀ (n:Nat) (s:Int×List Int),(repE n).foldl rowStep s=s:=fun n s=>by
  induction n with
  | zero=>rfl
  | succ n ih=>rw [repE,List.replicate_succ,List.foldl_cons];exact ih
 have hf:(gRow g C r).foldl rowStep (0,headS r)=((ptsU 0 us).2,headS r ++ encs (ptsU 0 us).1):=by
  rw [e];unfold rowPad;rw [List.foldl_append,zKC us 0 _ h];exact hrep _ _
 have hh:headS r=encs (goP r 0 ++ kP):=by
  rw [zNK hr,zEE]
  intro x hx
  rcases List.mem_append.1 hx with z | z
  ·exact (zH9 hr (by omega) x z).2
  ·exact (zO7 x z).2
 simp only [hf]
 have h0:strInts (ByteArray.mk #[27,91,48,109])=encs (mP 0):=by
  rw [zEE (fun x hx=>(zJ5 (by omega) x hx).2)];rfl
 by_cases hz:(ptsU 0 us).2=0
 ·rw [if_pos hz,if_pos hz,List.append_nil,zEP,← hh]
 ·rw [if_neg hz,if_neg hz,zEP,zEP,← hh,h0]
end Go.AE.F
