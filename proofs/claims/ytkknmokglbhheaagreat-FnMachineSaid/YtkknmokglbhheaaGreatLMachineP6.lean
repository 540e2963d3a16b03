/- Plain laws of those functions. -/
import Derived.Test.YtkknmokglbhheaaGreatLMachineP5
namespace Go.AE.F
open Go.AE
def backG (q:Int→Bool) (ps:List Int):Nat→Nat
  | 0=>0
  | n+1=>if q (ps[n]?.getD 0)=true then backG q ps n else n+1
def fwdL (q:Int→Bool):List Int→Nat
  | []=>0
  | x::l=>if q x=true then fwdL q l+1 else 0
theorem backG_le (q:Int→Bool) (ps:List Int):∀ n,backG q ps n≤n
  | 0=>Nat.le_refl _
  | n+1=>by
    unfold backG
    split
    · have:=backG_le q ps n;omega
    · omega
theorem fwdL_le (q:Int→Bool):∀ l:List Int,fwdL q l≤l.length
  | []=>Nat.le_refl _
  | x::l=>by
    unfold fwdL
    have:=fwdL_le q l
    split
    · simp;omega
    · simp
theorem back_gen {D E R:Type} {step:D→(D→Option R)→(E→Option R)→Option R} (st:Nat→D) (ex:Nat→E) (q:Int→Bool) (ps:List Int) (h0:∀ kn kx,step (st 0) kn kx=kx (ex 0))
    (h1:∀ n (hn:n < ps.length) kn kx,step (st (n+1)) kn kx=ifB (q ps[n]) (kn (st n)) (kx (ex (n+1)))) (k:E→Option R):∀ n m,n≤ps.length→n < m→loopP step m (st n) k=k (ex (backG q ps n)):=by
  intro n
  induction n with
  | zero =>
    intro m _ hm
    obtain ⟨m,rfl⟩:=succ_of hm
    rw [loopP_s,h0];rfl
  | succ n ih =>
    intro m hn hm
    obtain ⟨m,rfl⟩:=succ_of hm
    have hlt:n < ps.length:=by omega
    rw [loopP_s,h1 n hlt]
    unfold backG
    rw [List.getElem?_eq_getElem hlt,Option.getD_some]
    cases hq:q ps[n] with
    | true=>rw [ifB_t,if_pos rfl];exact ih m (by omega) (by omega)
    | false=>rw [ifB_f,if_neg (by simp)]
theorem fwd_gen {D E R:Type} {step:D→(D→Option R)→(E→Option R)→Option R} (st:Nat→D) (ex:Nat→E) (q:Int→Bool) (ps:List Int) (h0:∀ n,ps.length≤n→n≤ps.length+1→∀ kn kx,step (st n) kn kx=kx (ex n))
    (h1:∀ n (hn:n < ps.length) kn kx,step (st n) kn kx=ifB (q ps[n]) (kn (st (n+1))) (kx (ex n))) (k:E→Option R):∀ r n m,ps.length - n=r→n≤ps.length+1→r < m→loopP step m (st n) k=k (ex (n+fwdL q (ps.drop n))):=by
  intro r
  induction r with
  | zero =>
    intro n m hr hn hm
    obtain ⟨m,rfl⟩:=succ_of hm
    rw [loopP_s,h0 n (by omega) hn,List.drop_eq_nil_of_le (by omega)];rfl
  | succ r ih =>
    intro n m hr hn hm
    obtain ⟨m,rfl⟩:=succ_of hm
    have hlt:n < ps.length:=by omega
    rw [loopP_s,h1 n hlt,drop_c hlt]
    unfold fwdL
    cases hq:q ps[n] with
    | true =>
      rw [ifB_t,if_pos rfl,ih (n+1) m (by omega) (by omega) (by omega)]
      congr 2;omega
    | false=>rw [ifB_f,if_neg (by simp)];rfl
def notLf (x:Int):Bool:=!decide (x=10)
def startG (ps:List Int) (n:Nat):Nat:=backG notLf ps n
def endG (ps:List Int) (n:Nat):Nat:=n+fwdL notLf (ps.drop n)
def rowG (ps:List Int) (n:Nat):Nat:=(ps.take n).count 10
def lin:Nat→List Int→List Int
  | _,[]=>[]
  | i,x::l=>if x=10 then ((i+1:Nat):Int)::lin (i+1) l else lin (i+1) l
def linesG (ps:List Int):List Int:=0::lin 0 ps
theorem startG_le (ps:List Int) (n:Nat):startG ps n≤n:=backG_le _ _ _
theorem endG_le (ps:List Int) (n:Nat) (h:n≤ps.length):endG ps n≤ps.length:=by
  unfold endG
  have:=fwdL_le notLf (ps.drop n)
  rw [List.length_drop] at this
  omega
theorem endG_ge (ps:List Int) (n:Nat):n≤endG ps n:=by unfold endG;omega
theorem lin_append:∀ (l m:List Int) (i:Nat),lin i (l ++ m)=lin i l ++ lin (i+l.length) m
  | [],m,i=>by simp [lin]
  | x::l,m,i=>by
    have ih:=lin_append l m (i+1)
    simp only [List.cons_append,lin]
    by_cases h:x=10
    · rw [if_pos h,if_pos h,ih,List.cons_append,List.length_cons,show i+1+l.length=i+(l.length+1) by omega]
    · rw [if_neg h,if_neg h,ih,List.length_cons,show i+1+l.length=i+(l.length+1) by omega]
theorem lin_len:∀ (l:List Int) (i:Nat),(lin i l).length=l.count 10
  | [],i=>rfl
  | x::l,i=>by
    have ih:=lin_len l (i+1)
    unfold lin
    rw [List.count_cons]
    by_cases h:x=10
    · rw [if_pos h,List.length_cons,ih];simp [h]
    · rw [if_neg h,ih];simp [h]
theorem lines_len (ps:List Int):(linesG ps).length=rowG ps ps.length+1:=by
  unfold linesG rowG
  rw [List.length_cons,lin_len,List.take_length]
theorem rowG_succ {ps:List Int} {n:Nat} (h:n < ps.length):rowG ps (n+1)=rowG ps n+if ps[n]=10 then 1 else 0:=by
  unfold rowG
  rw [List.take_succ_eq_append_getElem h,List.count_append,List.count_singleton]
  by_cases q:ps[n]=10 <;> simp [q]
theorem rowG_mono {ps:List Int} {n m:Nat} (h:n≤m) (hm:m≤ps.length):rowG ps n≤rowG ps m:=by
  induction m with
  | zero => have : n = 0 := by omega
            subst this;exact Nat.le_refl _
  | succ m ih =>
    by_cases q:n=m+1
    · subst q;exact Nat.le_refl _
    · have:=ih (by omega) (by omega)
      rw [rowG_succ (by omega)]
      omega
theorem startG_succ {ps:List Int} {n:Nat} (h:n < ps.length):startG ps (n+1)=if ps[n]=10 then n+1 else startG ps n:=by
  unfold startG
  rw [backG,List.getElem?_eq_getElem h,Option.getD_some]
  unfold notLf
  by_cases q:ps[n]=10
  · rw [if_pos q,decide_eq_true q,if_neg (by simp)]
  · rw [if_neg q,decide_eq_false q,if_pos (by simp)]
theorem lines_take (ps:List Int):∀ n,n≤ps.length→∃ X:List Int,linesG (ps.take n)=X ++ [(startG ps n:Int)]∧X.length=rowG ps n∧∀ x∈X,x < (startG ps n:Int)
  | 0,_=>⟨[],rfl,rfl,fun x h=>by cases h⟩
  | n+1,h=>by
    have hlt:n < ps.length:=by omega
    obtain ⟨X,h1,h2,h3⟩:=lines_take ps n (by omega)
    have e:linesG (ps.take (n+1))=linesG (ps.take n) ++ lin n [ps[n]]:=by
      unfold linesG
      rw [List.take_succ_eq_append_getElem hlt,lin_append,List.length_take,Nat.min_eq_left (by omega),Nat.zero_add]
      rfl
    rw [e,rowG_succ hlt,startG_succ hlt,h1]
    by_cases q:ps[n]=10
    · rw [if_pos q,if_pos q]
      refine ⟨X ++ [(startG ps n:Int)],?_,by simp [h2],?_⟩
      · simp only [lin,if_pos q]
      · intro x hx
        have hs:=startG_le ps n
        simp only [List.mem_append,List.mem_singleton] at hx
        rcases hx with hx | hx
        · have:=h3 x hx;omega
        · omega
    · rw [if_neg q,if_neg q]
      refine ⟨X,?_,by simp [h2],h3⟩
      simp only [lin,if_neg q,List.append_nil]
theorem lines_at (ps:List Int) (n:Nat) (h:n≤ps.length):∃ X rest:List Int,linesG ps=X ++ (startG ps n:Int)::rest∧X.length=rowG ps n∧(startG ps n:Int) ∉ X:=by
  obtain ⟨X,h1,h2,h3⟩:=lines_take ps n h
  refine ⟨X,lin n (ps.drop n),?_,h2,fun q=>by have:=h3 _ q;omega⟩
  have e:linesG ps=linesG (ps.take n) ++ lin n (ps.drop n):=by
    have:=lin_append (ps.take n) (ps.drop n) 0
    rw [List.take_append_drop,List.length_take,Nat.min_eq_left h,Nat.zero_add] at this
    unfold linesG
    rw [this];rfl
  rw [e,h1,List.append_assoc];rfl
theorem line_at (ps:List Int) (n:Nat) (h:n≤ps.length):(linesG ps)[rowG ps n]?=some (startG ps n:Int):=by
  obtain ⟨X,rest,h1,h2,_⟩:=lines_at ps n h
  rw [h1,← h2,List.getElem?_append_right (Nat.le_refl _),Nat.sub_self];rfl
theorem lin_next:∀ (l:List Int) (i:Nat),lin i l=if fwdL notLf l < l.length then ((i+fwdL notLf l+1:Nat):Int)::lin (i+fwdL notLf l+1) (l.drop (fwdL notLf l+1)) else []
  | [],i=>rfl
  | x::l,i=>by
    have ih:=lin_next l (i+1)
    by_cases h:x=10
    · have hn:notLf x=false:=by unfold notLf;rw [decide_eq_true h];rfl
      have e1:fwdL notLf (x::l)=0:=by unfold fwdL;rw [hn,if_neg (by simp)]
      have e2:lin i (x::l)=((i+1:Nat):Int)::lin (i+1) l:=by simp only [lin,if_pos h]
      rw [e2,e1,if_pos (by simp)]
      rfl
    · have hn:notLf x=true:=by unfold notLf;rw [decide_eq_false h];rfl
      have e1:fwdL notLf (x::l)=fwdL notLf l+1:=by rw [fwdL,hn,if_pos rfl]
      have e2:lin i (x::l)=lin (i+1) l:=by simp only [lin,if_neg h]
      rw [e2,e1,ih]
      by_cases q:fwdL notLf l < l.length
      · rw [if_pos q,if_pos (by simp;omega),List.drop_succ_cons,show i+1+fwdL notLf l+1=i+(fwdL notLf l+1)+1 by omega]
      · rw [if_neg q,if_neg (by simp;omega)]
theorem fwd_false:∀ (l:List Int) (h:fwdL notLf l < l.length),l[fwdL notLf l]=10
  | [],h=>by simp at h
  | x::l,h=>by
    by_cases q:x=10
    · have hn:notLf x=false:=by unfold notLf;rw [decide_eq_true q];rfl
      have e:fwdL notLf (x::l)=0:=by unfold fwdL;rw [hn,if_neg (by simp)]
      simp only [e,List.getElem_cons_zero]
      exact q
    · have hn:notLf x=true:=by unfold notLf;rw [decide_eq_false q];rfl
      have e:fwdL notLf (x::l)=fwdL notLf l+1:=by rw [fwdL,hn,if_pos rfl]
      rw [e] at h
      have ih:=fwd_false l (by simpa using h)
      simp only [e,List.getElem_cons_succ]
      exact ih
theorem fwd_true:∀ (l:List Int) (j:Nat) (hj:j < fwdL notLf l) (hl:j < l.length),l[j]≠10
  | [],j,hj,hl=>by simp at hl
  | x::l,j,hj,hl=>by
    by_cases q:x=10
    · have hn:notLf x=false:=by unfold notLf;rw [decide_eq_true q];rfl
      have e:fwdL notLf (x::l)=0:=by unfold fwdL;rw [hn,if_neg (by simp)]
      omega
    · have hn:notLf x=true:=by unfold notLf;rw [decide_eq_false q];rfl
      have e:fwdL notLf (x::l)=fwdL notLf l+1:=by rw [fwdL,hn,if_pos rfl]
      cases j with
      | zero=>exact q
      | succ j =>
        rw [List.getElem_cons_succ]
        exact fwd_true l j (by omega) (by simpa using hl)
theorem rowG_same {ps:List Int} {s:Nat}:∀ j,j≤fwdL notLf (ps.drop s)→s≤ps.length→rowG ps (s+j)=rowG ps s
  | 0,_,_=>rfl
  | j+1,h,hs=>by
    have ih:=rowG_same j (by omega) hs
    have hl:=fwdL_le notLf (ps.drop s)
    rw [List.length_drop] at hl
    have hlt:s+j < ps.length:=by omega
    have hne:=fwd_true (ps.drop s) j (by omega) (by rw [List.length_drop];omega)
    rw [List.getElem_drop] at hne
    rw [show s+(j+1)=s+j+1 by omega,rowG_succ hlt,if_neg hne,ih];rfl
theorem line_walk (ps:List Int):∀ (r s:Nat),s≤ps.length→r≤(lin s (ps.drop s)).length →
    ∃ x:Nat,((s:Int)::lin s (ps.drop s))[r]?=some (x:Int)∧x≤ps.length∧rowG ps x=rowG ps s+r ∧
      (r=0→x=s)∧(∀ r',r=r'+1→endG ps s < ps.length∧r'≤(lin (endG ps s+1) (ps.drop (endG ps s+1))).length∧((s:Int)::lin s (ps.drop s))[r]?=(((endG ps s+1:Nat):Int)::lin (endG ps s+1) (ps.drop (endG ps s+1)))[r']?)
  | 0,s,hs,_=>⟨s,rfl,hs,rfl,fun _=>rfl,fun r' h=>by omega⟩
  | r+1,s,hs,hr=>by
    have hl:=fwdL_le notLf (ps.drop s)
    rw [List.length_drop] at hl
    have hn:=lin_next (ps.drop s) s
    by_cases q:fwdL notLf (ps.drop s) < (ps.drop s).length
    · rw [if_pos q,List.drop_drop] at hn
      rw [List.length_drop] at q
      have he:endG ps s=s+fwdL notLf (ps.drop s):=rfl
      have hd:s+(fwdL notLf (ps.drop s)+1)=endG ps s+1:=by omega
      rw [hd,← he] at hn
      rw [hn,List.length_cons] at hr
      obtain ⟨x,h1,h2,h3,_⟩:=line_walk ps r (endG ps s+1) (by omega) (by omega)
      have hrow:rowG ps (endG ps s+1)=rowG ps s+1:=by
        have hlt:endG ps s < ps.length:=by omega
        have h10:=fwd_false (ps.drop s) (by rw [List.length_drop];exact q)
        rw [List.getElem_drop] at h10
        have h10':ps[endG ps s]=10:=h10
        have hsame:=rowG_same (ps:=ps) (s:=s) (fwdL notLf (ps.drop s)) (Nat.le_refl _) hs
        rw [rowG_succ hlt,if_pos h10',he,hsame]
      refine ⟨x,?_,h2,by omega,by omega,?_⟩
      · rw [hn,List.getElem?_cons_succ];exact h1
      · intro r' hr'
        have:r'=r:=by omega
        subst this
        exact ⟨by omega,by omega,by rw [hn,List.getElem?_cons_succ]⟩
    · rw [if_neg q] at hn
      rw [hn] at hr
      simp at hr
theorem lines_get (ps:List Int) (r:Nat) (hr:r < (linesG ps).length):∃ x:Nat,(linesG ps)[r]?=some (x:Int)∧x≤ps.length∧rowG ps x=r:=by
  unfold linesG at hr ⊢
  rw [List.length_cons] at hr
  obtain ⟨x,h1,h2,h3,_⟩:=line_walk ps r 0 (by omega) (by rw [List.drop_zero];omega)
  rw [List.drop_zero] at h1
  have h0:rowG ps 0=0:=rfl
  exact ⟨x,h1,h2,by omega⟩
theorem start_end (ps:List Int) (n:Nat) (h:n≤ps.length):n≤endG ps (startG ps n):=by
  have hfree:∀ i,startG ps n≤i→i < n→∀ hi:i < ps.length,ps[i]≠10:=by
    induction n with
    | zero=>intro i _ hi;omega
    | succ n ih =>
      intro i h1 h2 hi
      have hlt:n < ps.length:=by omega
      rw [startG_succ hlt] at h1
      by_cases q:ps[n]=10
      · rw [if_pos q] at h1;omega
      · rw [if_neg q] at h1
        by_cases e:i=n
        · subst e;exact q
        · exact ih (by omega) i h1 (by omega) hi
  have hs:=startG_le ps n
  unfold endG
  refine Classical.byContradiction fun hc=>?_
  have hf:fwdL notLf (ps.drop (startG ps n)) < (ps.drop (startG ps n)).length:=by rw [List.length_drop];omega
  have h10:=fwd_false _ hf
  rw [List.getElem_drop] at h10
  exact hfree _ (by omega) (by omega) (by omega) h10
end Go.AE.F
