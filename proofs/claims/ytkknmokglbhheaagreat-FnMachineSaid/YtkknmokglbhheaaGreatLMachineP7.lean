/- Plain laws of those functions. -/
import Derived.Test.YtkknmokglbhheaaGreatLMachineP6
namespace Go.AE.F
open Go.AE
theorem lf_ne (x:Int):pNe x 10=notLf x:=pNe_d
theorem spec_start (N:Nat) (b:BufT) (n:Nat) (hn:n≤b.1.length) (hl:b.1.length≤300) (hN:301 < N):zB1 N b (n:Int)=some (startG b.1 n:Int):=by
  unfold zB1
  exact back_gen (step:=zB1.l1 N) (fun n=>((n:Int),b,())) (fun n=>((n:Int),())) notLf b.1
    (fun kn kx=>by
      unfold zB1.l1;simp only []
      rw [pGt_f (by omega),ifB_f,bindO_s,ifB_f])
    (fun n hn kn kx=>by
      unfold zB1.l1;simp only []
      rw [pGt_t (by omega),ifB_t,pSub_i (by omega) (by omega),show ((n+1:Nat):Int) - 1=(n:Int) by omega,idx_lt hn,bindO_s,bindO_s,lf_ne])
    (fun d=>let x14:=d.1;some x14) n N hn (by omega)
theorem impl_start (N:Nat) (b:BufT) (n:Nat) (hn:n≤b.1.length) (hl:b.1.length≤300) (hN:301 < N):zAZ N b (n:Int)=some (startG b.1 n:Int):=by
  unfold zAZ
  exact back_gen (step:=zAZ.l1 N) (fun n=>(b,(n:Int),())) (fun n=>((n:Int),())) notLf b.1
    (fun kn kx=>by
      unfold zAZ.l1;simp only []
      rw [pGt_f (by omega),ifB_f,bindO_s,ifB_f])
    (fun n hn kn kx=>by
      unfold zAZ.l1;simp only []
      rw [pGt_t (by omega),ifB_t,pSub_i (by omega) (by omega),show ((n+1:Nat):Int) - 1=(n:Int) by omega,idx_lt hn,bindO_s,bindO_s,lf_ne])
    (fun d=>let x14:=d.1;some x14) n N hn (by omega)
theorem spec_end (N:Nat) (b:BufT) (n:Nat) (hn:n≤b.1.length) (hl:b.1.length≤300) (hN:301 < N):zB9 N b (n:Int)=some (endG b.1 n:Int):=by
  unfold zB9
  exact fwd_gen (step:=zB9.l1 N) (fun n=>((n:Int),b,())) (fun n=>((n:Int),())) notLf b.1
    (fun n h1 h2 kn kx=>by
      unfold zB9.l1;simp only [pLen_d]
      rw [pLt_f (by omega),ifB_f,bindO_s,ifB_f])
    (fun n hn kn kx=>by
      unfold zB9.l1;simp only [pLen_d]
      rw [pLt_t (by omega),ifB_t,idx_lt hn,bindO_s,bindO_s,lf_ne,pAdd_i (by omega) (by omega)]
      rfl)
    (fun d=>let x14:=d.1;some x14) _ n N rfl (by omega) (by omega)
theorem impl_end (N:Nat) (b:BufT) (n:Nat) (hn:n≤b.1.length) (hl:b.1.length≤300) (hN:301 < N):zB4 N b (n:Int)=some (endG b.1 n:Int):=by
  unfold zB4
  exact fwd_gen (step:=zB4.l1 N) (fun n=>(b,(n:Int),())) (fun n=>((n:Int),())) notLf b.1
    (fun n h1 h2 kn kx=>by
      unfold zB4.l1;simp only []
      rw [impl_size_eq N b.1 (by omega),bindO_s,pLt_f (by omega),ifB_f,bindO_s,ifB_f])
    (fun n hn kn kx=>by
      unfold zB4.l1;simp only []
      rw [impl_size_eq N b.1 (by omega),bindO_s,pLt_t (by omega),ifB_t,idx_lt hn,bindO_s,bindO_s,lf_ne,pAdd_i (by omega) (by omega)]
      rfl)
    (fun d=>let x14:=d.1;some x14) _ n N rfl (by omega) (by omega)
def isW (x:Int):Bool:=decide (classG x=2)
def notW (x:Int):Bool:=!decide (classG x=2)
def wbackG (ps:List Int) (n:Nat):Nat:=backG isW ps (backG notW ps n)
def wnextG (ps:List Int) (n:Nat):Nat:=(n+fwdL notW (ps.drop n))+fwdL isW (ps.drop (n+fwdL notW (ps.drop n)))
theorem isWord_eq (N:Nat) (b:BufT) (n:Nat) (h:n < b.1.length):zBZ N b (n:Int)=some (isW b.1[n]):=by
  unfold zBZ
  rw [idx_lt h,bindO_s,impl_ClassOf_eq,bindO_s,pEq_d];rfl
theorem fwd_bd (q:Int→Bool) (ps:List Int) (n:Nat) (h:n≤ps.length):n+fwdL q (ps.drop n)≤ps.length:=by
  have:=fwdL_le q (ps.drop n)
  rw [List.length_drop] at this
  omega
theorem impl_wback (N:Nat) (b:BufT) (n:Nat) (hn:n≤b.1.length) (hl:b.1.length≤300) (hN:301 < N):zAC N b (n:Int)=some (wbackG b.1 n:Int):=by
  unfold zAC
  refine Eq.trans (back_gen (step:=zAC.l1 N) (fun n=>(b,(n:Int),())) (fun n=>(b,(n:Int),())) notW b.1
    (fun kn kx=>by
      unfold zAC.l1;simp only []
      rw [pGt_f (by omega),ifB_f,bindO_s,ifB_f])
    (fun n hn kn kx=>by
      unfold zAC.l1;simp only []
      rw [pGt_t (by omega),ifB_t,pSub_i (by omega) (by omega),show ((n+1:Nat):Int) - 1=(n:Int) by omega,isWord_eq N b n hn,bindO_s,bindO_s];rfl) _ n N hn (by omega)) ?_
  have h1:=backG_le notW b.1 n
  exact back_gen (step:=zAC.l3 N) (fun n=>(b,(n:Int),())) (fun n=>((n:Int),())) isW b.1
    (fun kn kx=>by
      unfold zAC.l3;simp only []
      rw [pGt_f (by omega),ifB_f,bindO_s,ifB_f])
    (fun n hn kn kx=>by
      unfold zAC.l3;simp only []
      rw [pGt_t (by omega),ifB_t,pSub_i (by omega) (by omega),show ((n+1:Nat):Int) - 1=(n:Int) by omega,isWord_eq N b n hn,bindO_s,bindO_s])
    (fun d=>let x32:=d.1;some x32) _ N (by omega) (by omega)
theorem impl_wnext (N:Nat) (b:BufT) (n:Nat) (hn:n≤b.1.length) (hl:b.1.length≤300) (hN:301 < N):zAE N b (n:Int)=some (wnextG b.1 n:Int):=by
  unfold zAE
  rw [impl_size_eq N b.1 (by omega),bindO_s]
  refine Eq.trans (fwd_gen (step:=zAE.l2 N) (fun n=>(b,(n:Int),(b.1.length:Int),())) (fun n=>(b,(n:Int),(b.1.length:Int),())) notW b.1
    (fun n h1 h2 kn kx=>by
      unfold zAE.l2;simp only []
      rw [pLt_f (by omega),ifB_f,bindO_s,ifB_f])
    (fun n hn kn kx=>by
      unfold zAE.l2;simp only []
      rw [pLt_t (by omega),ifB_t,isWord_eq N b n hn,bindO_s,bindO_s,pAdd_i (by omega) (by omega)];rfl) _ _ n N rfl (by omega) (by omega)) ?_
  have h1:=fwd_bd notW b.1 n hn
  exact fwd_gen (step:=zAE.l4 N) (fun n=>(b,(n:Int),(b.1.length:Int),())) (fun n=>((n:Int),())) isW b.1
    (fun n h1 h2 kn kx=>by
      unfold zAE.l4;simp only []
      rw [pLt_f (by omega),ifB_f,bindO_s,ifB_f])
    (fun n hn kn kx=>by
      unfold zAE.l4;simp only []
      rw [pLt_t (by omega),ifB_t,isWord_eq N b n hn,bindO_s,bindO_s,pAdd_i (by omega) (by omega)];rfl)
    (fun d=>let x43:=d.1;some x43) _ _ N rfl (by omega) (by omega)
theorem spec_wback (N : Nat) (b : BufT) (n : Nat) (hn : n ≤ b.1.length) (hl : b.1.length ≤ 300) (hN : 301 < N) : (loopP (zA5.l8 N) N ((n : Int), b, ()) (
          fun d =>
          let x84:=d.1;
          let x85:=d.2.1;
          loopP (zA5.l10 N) N (x84,x85,()) (
            fun d =>
            let x91:=d.1;
            some x91)))=some (wbackG b.1 n:Int):=by
  refine Eq.trans (back_gen (step:=zA5.l8 N) (fun n=>((n:Int),b,())) (fun n=>((n:Int),b,())) notW b.1
    (fun kn kx=>by
      unfold zA5.l8;simp only []
      rw [pGt_f (by omega),ifB_f,bindO_s,ifB_f])
    (fun n hn kn kx=>by
      unfold zA5.l8;simp only []
      rw [pGt_t (by omega),ifB_t,pSub_i (by omega) (by omega),show ((n+1:Nat):Int) - 1=(n:Int) by omega,idx_lt hn,bindO_s,spec_ClassOf_eq,bindO_s,bindO_s,pNe_d];rfl) _ n N hn (by omega)) ?_
  have h1:=backG_le notW b.1 n
  exact back_gen (step:=zA5.l10 N) (fun n=>((n:Int),b,())) (fun n=>((n:Int),())) isW b.1
    (fun kn kx=>by
      unfold zA5.l10;simp only []
      rw [pGt_f (by omega),ifB_f,bindO_s,ifB_f])
    (fun n hn kn kx=>by
      unfold zA5.l10;simp only []
      rw [pGt_t (by omega),ifB_t,pSub_i (by omega) (by omega),show ((n+1:Nat):Int) - 1=(n:Int) by omega,idx_lt hn,bindO_s,spec_ClassOf_eq,bindO_s,bindO_s,pEq_d];rfl)
    (fun d=>let x91:=d.1;some x91) _ N (by omega) (by omega)
theorem spec_wnext (N : Nat) (b : BufT) (n : Nat) (hn : n ≤ b.1.length) (hl : b.1.length ≤ 300) (hN : 301 < N) : (loopP (zA5.l14 N) N ((n : Int), (b.1.length : Int), b, ()) (
            fun d =>
            let x98:=d.1;
            let x99:=d.2.1;
            let x100:=d.2.2.1;
            loopP (zA5.l16 N) N (x98,x99,x100,()) (
              fun d =>
              let x107:=d.1;
              some x107)))=some (wnextG b.1 n:Int):=by
  refine Eq.trans (fwd_gen (step:=zA5.l14 N) (fun n=>((n:Int),(b.1.length:Int),b,())) (fun n=>((n:Int),(b.1.length:Int),b,())) notW b.1
    (fun n h1 h2 kn kx=>by
      unfold zA5.l14;simp only []
      rw [pLt_f (by omega),ifB_f,bindO_s,ifB_f])
    (fun n hn kn kx=>by
      unfold zA5.l14;simp only []
      rw [pLt_t (by omega),ifB_t,idx_lt hn,bindO_s,spec_ClassOf_eq,bindO_s,bindO_s,pNe_d,pAdd_i (by omega) (by omega)];rfl) _ _ n N rfl (by omega) (by omega)) ?_
  have h1:=fwd_bd notW b.1 n hn
  exact fwd_gen (step:=zA5.l16 N) (fun n=>((n:Int),(b.1.length:Int),b,())) (fun n=>((n:Int),())) isW b.1
    (fun n h1 h2 kn kx=>by
      unfold zA5.l16;simp only []
      rw [pLt_f (by omega),ifB_f,bindO_s,ifB_f])
    (fun n hn kn kx=>by
      unfold zA5.l16;simp only []
      rw [pLt_t (by omega),ifB_t,idx_lt hn,bindO_s,spec_ClassOf_eq,bindO_s,bindO_s,pEq_d,pAdd_i (by omega) (by omega)];rfl)
    (fun d=>let x107:=d.1;some x107) _ _ N rfl (by omega) (by omega)
def notC (c x:Int):Bool:=!decide (x=c)
def findG (ps:List Int) (c:Int) (n:Nat):Nat:=if n+1+fwdL (notC c) (ps.drop (n+1)) < ps.length then n+1+fwdL (notC c) (ps.drop (n+1)) else n
theorem spec_find (N : Nat) (b : BufT) (c : Int) (n : Nat) (hn : n ≤ b.1.length) (hl : b.1.length ≤ 300) (hN : 301 < N) : (loopP (zA5.l28 N) N ((n : Int), c, (b.1.length : Int), (pAdd Go.IntKind.i64 (n : Int) 1), b, ()) (
                    onSum (fun d =>
                      let x116:=d.1;
                      some x116) (
                    fun d =>
                    let x117:=d.1;
                    some x117)))=some (findG b.1 c n:Int):=by
  rw [pAdd_i (by omega) (by omega)]
  refine Eq.trans (fwd_gen (step:=zA5.l28 N) (fun i=>((n:Int),c,(b.1.length:Int),(i:Int),b,())) (fun i=>if i < b.1.length then .inr ((i:Int),()) else .inl ((n:Int),())) (notC c) b.1
    (fun i h1 h2 kn kx=>by
      unfold zA5.l28;simp only []
      rw [pLt_f (by omega),ifB_f,if_neg (by omega)])
    (fun i hi kn kx=>by
      unfold zA5.l28;simp only []
      rw [pLt_t (by omega),ifB_t,idx_lt hi,bindO_s,pEq_d,pAdd_i (by omega) (by omega),if_pos hi]
      unfold notC
      cases decide (b.1[i]=c) <;> rfl) _ _ (n+1) N rfl (by omega) (by omega)) ?_
  unfold findG
  by_cases q:n+1+fwdL (notC c) (b.1.drop (n+1)) < b.1.length
  · simp only [if_pos q,onSum]
  · simp only [if_neg q,onSum]
theorem impl_find (N : Nat) (b : BufT) (k c : Int) (n : Nat) (hn : n ≤ b.1.length) (hl : b.1.length ≤ 300) (hN : 301 < N) : (loopP (zB2.l26 N) N (b, (n : Int), c, (b.1.length : Int), (pAdd Go.IntKind.i64 (n : Int) 1), ()) (
                        onSum (fun d =>
                          let x47:=d.1;
                          some x47) (
                        fun d =>
                        let x48:=d.1;
                        some x48)))=some (findG b.1 c n:Int):=by
  rw [pAdd_i (by omega) (by omega)]
  refine Eq.trans (fwd_gen (step:=zB2.l26 N) (fun i=>(b,(n:Int),c,(b.1.length:Int),(i:Int),())) (fun i=>if i < b.1.length then .inr ((i:Int),()) else .inl ((n:Int),())) (notC c) b.1
    (fun i h1 h2 kn kx=>by
      unfold zB2.l26;simp only []
      rw [pLt_f (by omega),ifB_f,if_neg (by omega)])
    (fun i hi kn kx=>by
      unfold zB2.l26;simp only []
      rw [pLt_t (by omega),ifB_t,idx_lt hi,bindO_s,pEq_d,pAdd_i (by omega) (by omega),if_pos hi]
      unfold notC
      cases decide (b.1[i]=c) <;> rfl) _ _ (n+1) N rfl (by omega) (by omega)) ?_
  unfold findG
  by_cases q:n+1+fwdL (notC c) (b.1.drop (n+1)) < b.1.length
  · simp only [if_pos q,onSum]
  · simp only [if_neg q,onSum]
def stepM (ps:List Int) (k c:Int) (n:Nat):Nat :=
  if k=1 then n - 1 else if k=2 then min (n+1) ps.length else if k=3 then wbackG ps n else if k=4 then wnextG ps n else if k=5 then startG ps n else if k=6 then endG ps n else if k=9 then 0 else if k=10 then ps.length else findG ps c n
theorem stepM_le (ps:List Int) (k c:Int) (n:Nat) (h:n≤ps.length):stepM ps k c n≤ps.length:=by
  unfold stepM
  repeat' split
  · omega
  · omega
  · unfold wbackG
    have:=backG_le isW ps (backG notW ps n)
    have:=backG_le notW ps n
    omega
  · exact fwd_bd _ _ _ (fwd_bd _ _ _ h)
  · have:=startG_le ps n;omega
  · exact endG_le ps n h
  · omega
  · omega
  · unfold findG
    split
    · omega
    · omega
theorem spec_step_eq (N:Nat) (b:BufT) (k c:Int) (n:Nat) (hn:n≤b.1.length) (hl:b.1.length≤300) (hN:301 < N):zA5 N b (n:Int) k c=some (stepM b.1 k c n:Int):=by
  unfold zA5 stepM zD2 zD1
  simp only [pLen_d]
  by_cases h1:k=1
  · rw [pEq_t h1,ifB_t,if_pos h1,pSub_i (by omega) (by omega)]
    by_cases q:n=0
    · subst q;rfl
    · rw [pGt_f (by omega),ifB_f,bindO_s];congr 1;omega
  rw [pEq_f h1,ifB_f,if_neg h1]
  by_cases h2:k=2
  · rw [pEq_t h2,ifB_t,if_pos h2,pAdd_i (by omega) (by omega)]
    by_cases q:n=b.1.length
    · rw [pLt_t (by omega),ifB_t,bindO_s];congr 1;omega
    · rw [pLt_f (by omega),ifB_f,bindO_s];congr 1;omega
  rw [pEq_f h2,ifB_f,if_neg h2]
  by_cases h3:k=3
  · rw [pEq_t h3,ifB_t,if_pos h3];exact spec_wback N b n hn hl hN
  rw [pEq_f h3,ifB_f,if_neg h3]
  by_cases h4:k=4
  · rw [pEq_t h4,ifB_t,if_pos h4];exact spec_wnext N b n hn hl hN
  rw [pEq_f h4,ifB_f,if_neg h4]
  by_cases h5:k=5
  · rw [pEq_t h5,ifB_t,if_pos h5,spec_start N b n hn hl hN,bindO_s]
  rw [pEq_f h5,ifB_f,if_neg h5]
  by_cases h6:k=6
  · rw [pEq_t h6,ifB_t,if_pos h6,spec_end N b n hn hl hN,bindO_s]
  rw [pEq_f h6,ifB_f,if_neg h6]
  by_cases h9:k=9
  · rw [pEq_t h9,ifB_t,if_pos h9];rfl
  rw [pEq_f h9,ifB_f,if_neg h9]
  by_cases h10:k=10
  · rw [pEq_t h10,ifB_t,if_pos h10]
  rw [pEq_f h10,ifB_f,if_neg h10]
  exact spec_find N b c n hn hl hN
theorem impl_step_eq (N:Nat) (b:BufT) (k c:Int) (n:Nat) (hn:n≤b.1.length) (hl:b.1.length≤300) (hN:301 < N) (h7:k≠7) (h8:k≠8):zB2 N b (n:Int) k c=some (stepM b.1 k c n:Int):=by
  unfold zB2 stepM
  rw [impl_size_eq N b.1 (by omega),bindO_s]
  by_cases h1:k=1
  · rw [pEq_t h1,ifB_t,if_pos h1,pSub_i (by omega) (by omega)]
    unfold pMax
    congr 1
    by_cases q:n=0
    · rw [if_pos (by omega)];omega
    · rw [if_neg (by omega)];omega
  rw [pEq_f h1,ifB_f,if_neg h1]
  by_cases h2:k=2
  · rw [pEq_t h2,ifB_t,if_pos h2,pAdd_i (by omega) (by omega)]
    unfold pMin
    congr 1
    by_cases q:n=b.1.length
    · rw [if_pos (by omega)];omega
    · rw [if_neg (by omega)];omega
  rw [pEq_f h2,ifB_f,if_neg h2]
  by_cases h3:k=3
  · rw [pEq_t h3,ifB_t,if_pos h3,impl_wback N b n hn hl hN,bindO_s]
  rw [pEq_f h3,ifB_f,if_neg h3]
  by_cases h4:k=4
  · rw [pEq_t h4,ifB_t,if_pos h4,impl_wnext N b n hn hl hN,bindO_s]
  rw [pEq_f h4,ifB_f,if_neg h4]
  by_cases h5:k=5
  · rw [pEq_t h5,ifB_t,if_pos h5,impl_start N b n hn hl hN,bindO_s]
  rw [pEq_f h5,ifB_f,if_neg h5]
  by_cases h6:k=6
  · rw [pEq_t h6,ifB_t,if_pos h6,impl_end N b n hn hl hN,bindO_s]
  rw [pEq_f h6,ifB_f,if_neg h6,pEq_f h7,ifB_f,pEq_f h8,ifB_f]
  by_cases h9:k=9
  · rw [pEq_t h9,ifB_t,if_pos h9];rfl
  rw [pEq_f h9,ifB_f,if_neg h9]
  by_cases h10:k=10
  · rw [pEq_t h10,ifB_t,if_pos h10]
  rw [pEq_f h10,ifB_f,if_neg h10]
  exact impl_find N b k c n hn hl hN
end Go.AE.F
