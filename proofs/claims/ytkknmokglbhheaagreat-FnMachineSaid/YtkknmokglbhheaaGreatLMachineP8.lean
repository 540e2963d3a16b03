/- Plain laws of those functions. -/
import Derived.Test.YtkknmokglbhheaaGreatLMachineP7
namespace Go.AE.F
open Go.AE
theorem linesG_succ {ps:List Int} {n:Nat} (h:n < ps.length):linesG (ps.take (n+1))=linesG (ps.take n) ++ if ps[n]=10 then [((n+1:Nat):Int)] else []:=by
  unfold linesG
  rw [List.take_succ_eq_append_getElem h,lin_append,List.length_take,Nat.min_eq_left (by omega),Nat.zero_add,List.cons_append]
  congr 2
theorem lines_take_len (ps:List Int) (n:Nat):(linesG (ps.take n)).length≤n+1:=by
  unfold linesG
  rw [List.length_cons,lin_len]
  have:=List.count_le_length (a:=(10:Int)) (l:=ps.take n)
  rw [List.length_take] at this
  omega
theorem impl_lines (N:Nat) (b:BufT) (hl:b.1.length≤300) (hN:301 < N):zAY N b=some (linesG b.1):=by
  have go:∀ (m i n:Nat),b.1.length - i=m→i≤b.1.length→m < n→loopP (zAY.l3 N) n (b.1,(b.1.length:Int),(i:Int),linesG (b.1.take i),()) (fun d=>let x28:=d.1;some x28)=some (linesG b.1):=by
    intro m
    induction m with
    | zero =>
      intro i n hm hi hn
      obtain ⟨n,rfl⟩:=succ_of hn
      rw [loopP_s];unfold zAY.l3;simp only []
      rw [pLt_f (by omega),ifB_f,List.take_of_length_le (by omega)]
    | succ m ih =>
      intro i n hm hi hn
      obtain ⟨n,rfl⟩:=succ_of hn
      have hlt:i < b.1.length:=by omega
      have hle:=lines_take_len b.1 i
      have ih':=ih (i+1) n (by omega) (by omega) (by omega)
      rw [linesG_succ hlt] at ih'
      rw [loopP_s];unfold zAY.l3;simp only []
      rw [pLt_t (by omega),ifB_t,idx_lt hlt,bindO_s,pAdd_i (by omega) (by omega)]
      by_cases q:b.1[i]=10
      · rw [if_pos q] at ih'
        rw [pEq_t q,ifB_t,pFit_t (by simp;omega),ifB_t,bindO_s]
        simp only []
        rw [pAdd_i (by omega) (by omega)]
        exact ih'
      · rw [if_neg q,List.append_nil] at ih'
        rw [pEq_f q,ifB_f,bindO_s]
        simp only []
        rw [pAdd_i (by omega) (by omega)]
        exact ih'
  unfold zAY
  rw [pLen_d]
  exact go _ 0 N rfl (by omega) (by omega)
theorem index_eq (N:Nat) (X rest:List Int) (v:Int) (hv:v ∉ X) (hl:(X ++ v::rest).length≤1000) (hN:1001 < N):zAF N (X ++ v::rest) v=some (X.length:Int):=by
  have go:∀ (m i n:Nat),X.length - i=m→i≤X.length→m < n→loopP (zAF.l2 N) n (X ++ v::rest,v,((X ++ v::rest).length:Int),(i:Int),()) (onSum (fun d=>some (-1)) (fun d=>let x17:=d.1;some x17))=some (X.length:Int):=by
    intro m
    induction m with
    | zero =>
      intro i n hm hi hn
      obtain ⟨n,rfl⟩:=succ_of hn
      have e:i=X.length:=by omega
      subst e
      have hx:idx (X ++ v::rest) (X.length:Int)=some v:=by rw [idx_n];simp
      have hlen:(X ++ v::rest).length=X.length+rest.length+1:=by simp;omega
      rw [loopP_s];unfold zAF.l2;simp only []
      rw [pLt_t (by omega),ifB_t,hx,bindO_s,pEq_t rfl,ifB_t]
      rfl
    | succ m ih =>
      intro i n hm hi hn
      obtain ⟨n,rfl⟩:=succ_of hn
      have hlt:i < X.length:=by omega
      have hx:idx (X ++ v::rest) (i:Int)=some X[i]:=by rw [idx_n,List.getElem?_append_left hlt,List.getElem?_eq_getElem hlt]
      have hlen:(X ++ v::rest).length=X.length+rest.length+1:=by simp;omega
      rw [loopP_s];unfold zAF.l2;simp only []
      rw [pLt_t (by omega),ifB_t,hx,bindO_s,pEq_f (fun q=>hv (by rw [q];exact List.getElem_mem hlt)),ifB_f,pAdd_i (by omega) (by omega)]
      exact ih (i+1) n (by omega) (by omega) (by omega)
  have hlen:(X ++ v::rest).length=X.length+rest.length+1:=by simp;omega
  unfold zAF
  rw [pLen_d]
  exact go _ 0 N rfl (by omega) (by omega)
theorem lines_le (ps:List Int):(linesG ps).length≤ps.length+1:=by
  have:=lines_take_len ps ps.length
  rw [List.take_length] at this
  exact this
theorem impl_spot_eq (N:Nat) (b:BufT) (n:Nat) (hn:n≤b.1.length) (hl:b.1.length≤300) (hN:1001 < N):zCI N b (n:Int)=some ((rowG b.1 n:Int),((n:Int) - (startG b.1 n:Int),())):=by
  unfold zCI
  obtain ⟨X,rest,h1,h2,h3⟩:=lines_at b.1 n hn
  have hlen:=lines_le b.1
  have hs:=startG_le b.1 n
  rw [impl_start N b n hn hl (by omega),bindO_s,impl_lines N b hl (by omega),bindO_s,h1,index_eq N X rest _ h3 (by rw [← h1];omega) hN,bindO_s,h2,pSub_i (by omega) (by omega)]
theorem spec_spot_eq (N:Nat) (b:BufT) (n:Nat) (hn:n≤b.1.length) (hl:b.1.length≤300) (hN:1001 < N):zB3 N b (n:Int)=some ((rowG b.1 n:Int),((n:Int) - (startG b.1 n:Int),())):=by
  have hs:=startG_le b.1 n
  have go:∀ (m i f:Nat),n - i=m→i≤n→m < f→loopP (zB3.l3 N) f ((n:Int),(rowG b.1 i:Int),(i:Int),b,(0,(0,())),()) (fun d =>
    let x38:=d.1;
    let x39:=d.2.1;
    let x40:=d.2.2.1;
    let x41:=d.2.2.2.1;
    bindO (zB1 N x40 x38) fun y42 =>
    some (x39,((pSub Go.IntKind.i64 x38 y42),())))=some ((rowG b.1 n:Int),((n:Int) - (startG b.1 n:Int),())):=by
    intro m
    induction m with
    | zero =>
      intro i f hm hi hf
      obtain ⟨f,rfl⟩:=succ_of hf
      have e:i=n:=by omega
      subst e
      rw [loopP_s];unfold zB3.l3;simp only []
      rw [pLt_f (by omega),ifB_f,spec_start N b i hn hl (by omega),bindO_s,pSub_i (by omega) (by omega)]
    | succ m ih =>
      intro i f hm hi hf
      obtain ⟨f,rfl⟩:=succ_of hf
      have hlt:i < b.1.length:=by omega
      have hr:rowG b.1 i≤i:=by
        unfold rowG
        have:=List.count_le_length (a:=(10:Int)) (l:=b.1.take i)
        rw [List.length_take] at this
        omega
      have ih':=ih (i+1) f (by omega) (by omega) (by omega)
      rw [rowG_succ hlt] at ih'
      rw [loopP_s];unfold zB3.l3;simp only []
      rw [pLt_t (by omega),ifB_t,idx_lt hlt,bindO_s]
      by_cases q:b.1[i]=10
      · rw [if_pos q] at ih'
        rw [pEq_t q,ifB_t,bindO_s]
        simp only []
        rw [pAdd_i (by omega) (by omega),pAdd_i (by omega) (by omega)]
        exact ih'
      · rw [if_neg q] at ih'
        rw [pEq_f q,ifB_f,bindO_s]
        simp only []
        rw [pAdd_i (by omega) (by omega)]
        exact ih'
  unfold zB3
  exact go _ 0 N rfl (by omega) (by omega)
def rowC (ps:List Int) (r:Int):Nat:=(min (max r 0) (rowG ps ps.length:Int)).toNat
def lineG (ps:List Int) (r:Nat):Nat:=((linesG ps)[r]?.getD 0).toNat
def colC (ps:List Int) (x:Nat) (c:Int):Nat:=(min (max c 0) ((endG ps x:Int) - x)).toNat
def placeG (ps:List Int) (r c:Int):Nat:=lineG ps (rowC ps r)+colC ps (lineG ps (rowC ps r)) c
theorem rowC_le (ps:List Int) (r:Int):rowC ps r≤rowG ps ps.length:=by unfold rowC;omega
theorem lineG_eq (ps:List Int) (r:Nat) (hr:r≤rowG ps ps.length):(linesG ps)[r]?=some (lineG ps r:Int)∧lineG ps r≤ps.length∧rowG ps (lineG ps r)=r:=by
  obtain ⟨x,h1,h2,h3⟩:=lines_get ps r (by rw [lines_len];omega)
  have e:lineG ps r=x:=by unfold lineG;rw [h1];rfl
  rw [e];exact ⟨h1,h2,h3⟩
theorem colC_le (ps:List Int) (x:Nat) (c:Int):x+colC ps x c≤endG ps x:=by
  have:=endG_ge ps x
  unfold colC;omega
theorem placeG_le (ps:List Int) (r c:Int):placeG ps r c≤ps.length:=by
  obtain ⟨_,h2,_⟩:=lineG_eq ps (rowC ps r) (rowC_le ps r)
  have:=colC_le ps (lineG ps (rowC ps r)) c
  have:=endG_le ps (lineG ps (rowC ps r)) h2
  unfold placeG
  omega
theorem placeG_row (ps:List Int) (r c:Int):rowG ps (placeG ps r c)=rowC ps r:=by
  obtain ⟨_,h2,h3⟩:=lineG_eq ps (rowC ps r) (rowC_le ps r)
  have h4:=colC_le ps (lineG ps (rowC ps r)) c
  unfold placeG
  rw [rowG_same _ (by unfold endG at h4;omega) h2,h3]
theorem placeG_self (ps:List Int) (n:Nat) (h:n≤ps.length):placeG ps (rowG ps n:Int) ((n:Int) - (startG ps n:Int))=n:=by
  have hm:=rowG_mono h (Nat.le_refl _)
  have e1:rowC ps (rowG ps n:Int)=rowG ps n:=by unfold rowC;omega
  have e2:lineG ps (rowG ps n)=startG ps n:=by unfold lineG;rw [line_at ps n h];rfl
  have hs:=startG_le ps n
  have he:=start_end ps n h
  unfold placeG
  rw [e1,e2]
  unfold colC
  omega
theorem impl_place_eq (N:Nat) (b:BufT) (r c:Int) (hl:b.1.length≤300) (hN:1001 < N) (hr:-100000≤r∧r≤100000) (hc:-100000≤c∧c≤100000):zCD N b (r,(c,()))=some (placeG b.1 r c:Int):=by
  unfold zCD
  have hlen:=lines_le b.1
  have hll:=lines_len b.1
  obtain ⟨h1,h2,h3⟩:=lineG_eq b.1 (rowC b.1 r) (rowC_le b.1 r)
  rw [impl_lines N b hl (by omega),bindO_s,impl_size_eq N (linesG b.1) (by omega),bindO_s,pSub_i (by omega) (by omega)]
  have e:pMin (pMax r 0) (((linesG b.1).length:Int) - 1)=(rowC b.1 r:Int):=by
    rw [hll]
    unfold pMin pMax rowC
    by_cases q:r < 0
    · rw [if_pos q]
      by_cases q2:(((rowG b.1 b.1.length+1:Nat)):Int) - 1 < 0
      · rw [if_pos q2];omega
      · rw [if_neg q2];omega
    · rw [if_neg q]
      by_cases q2:(((rowG b.1 b.1.length+1:Nat)):Int) - 1 < r
      · rw [if_pos q2];omega
      · rw [if_neg q2];omega
  simp only []
  rw [e]
  have hx:idx (linesG b.1) (rowC b.1 r:Int)=some (lineG b.1 (rowC b.1 r):Int):=by rw [idx_n];exact h1
  have hge:=endG_ge b.1 (lineG b.1 (rowC b.1 r))
  have hle:=endG_le b.1 (lineG b.1 (rowC b.1 r)) h2
  rw [hx,bindO_s,bindO_s,impl_end N b _ h2 hl (by omega),bindO_s,pSub_i (by omega) (by omega)]
  have e2:pMin (pMax c 0) ((endG b.1 (lineG b.1 (rowC b.1 r)):Int) - (lineG b.1 (rowC b.1 r):Int))=(colC b.1 (lineG b.1 (rowC b.1 r)) c:Int):=by
    unfold pMin pMax colC
    by_cases q:c < 0
    · rw [if_pos q]
      split <;> omega
    · rw [if_neg q]
      split <;> omega
  rw [e2]
  have hcc:=colC_le b.1 (lineG b.1 (rowC b.1 r)) c
  rw [pAdd_i (by omega) (by omega)]
  unfold placeG
  rw [Int.natCast_add]
theorem spec_walk {N:Nat} {R:Type} (b:BufT) (z:Int×Int×Unit) (hl:b.1.length≤300) (hN:1001 < N) (k:Int×BufT×(Int×Int×Unit)×Unit→Option R):∀ (r s m:Nat),s≤b.1.length→r≤(lin s (b.1.drop s)).length→r < m →
    ∃ x:Int,loopP (zB7.l5 N) m ((r:Int),(s:Int),b,z,()) k=k (x,b,z,())∧((s:Int)::lin s (b.1.drop s))[r]?=some x:=by
  intro r
  induction r with
  | zero =>
    intro s m hs hr hm
    obtain ⟨m,rfl⟩:=succ_of hm
    refine ⟨(s:Int),?_,rfl⟩
    rw [loopP_s];unfold zB7.l5;simp only []
    rw [pGt_f (by omega),ifB_f]
  | succ r ih =>
    intro s m hs hr hm
    obtain ⟨m,rfl⟩:=succ_of hm
    obtain ⟨x,h1,h2,h3,_,h4⟩:=line_walk b.1 (r+1) s hs hr
    obtain ⟨h5,h6,h7⟩:=h4 r rfl
    obtain ⟨y,g1,g2⟩:=ih (endG b.1 s+1) m (by omega) h6 (by omega)
    refine ⟨y,?_,by rw [h7];exact g2⟩
    have hlin:(lin s (b.1.drop s)).length≤300:=by
      rw [lin_len]
      have:=List.count_le_length (a:=(10:Int)) (l:=b.1.drop s)
      rw [List.length_drop] at this
      omega
    rw [loopP_s];unfold zB7.l5;simp only []
    rw [pGt_t (by omega),ifB_t,spec_end N b s hs hl (by omega),bindO_s,pSub_i (by omega) (by omega),pAdd_i (by omega) (by omega),show ((r+1:Nat):Int) - 1=(r:Int) by omega]
    exact g1
theorem spec_place_eq (N:Nat) (b:BufT) (r c:Int) (hb:bufG b=true) (hN:1001 < N) (hr:-100000≤r∧r≤100000) (hc:-100000≤c∧c≤100000):zB7 N b (r,(c,()))=some (placeG b.1 r c:Int):=by
  have hl:=ptsG_len (bufG_iff.1 hb).1
  have hrow:rowG b.1 b.1.length≤300:=by
    unfold rowG
    have:=List.count_le_length (a:=(10:Int)) (l:=b.1.take b.1.length)
    rw [List.length_take] at this
    omega
  obtain ⟨h1,h2,h3⟩:=lineG_eq b.1 (rowC b.1 r) (rowC_le b.1 r)
  unfold zB7 zCR zD1 zD2
  rw [spec_BufRight_eq N b (by omega),bindO_s,hb,pNot_d,Bool.not_true,ifB_f,bindO_s,pNot_d,Bool.not_true,ifB_f,pLen_d,spec_spot_eq N b b.1.length (Nat.le_refl _) hl hN,bindO_s,bindO_s]
  simp only []
  rw [pAdd_i (by omega) (by omega),pSub_i (by omega) (by omega)]
  have e:(bindO (ifB (pLt r ((rowG b.1 b.1.length:Int)+1 - 1)) (some r) (some ((rowG b.1 b.1.length:Int)+1 - 1))) fun y24=>ifB (pGt 0 y24) (some 0) (some y24))=some (rowC b.1 r:Int):=by
    unfold rowC
    by_cases q:r < (rowG b.1 b.1.length:Int)+1 - 1
    · rw [pLt_t q,ifB_t,bindO_s]
      by_cases q2:r < 0
      · rw [pGt_t q2,ifB_t];congr 1;omega
      · rw [pGt_f (by omega),ifB_f];congr 1;omega
    · rw [pLt_f (by omega),ifB_f,bindO_s,pGt_f (by omega),ifB_f];congr 1;omega
  have e2:∀ (f:Int→Option Int),(bindO (ifB (pLt r ((rowG b.1 b.1.length:Int)+1 - 1)) (some r) (some ((rowG b.1 b.1.length:Int)+1 - 1))) fun y24=>bindO (ifB (pGt 0 y24) (some 0) (some y24)) f)=f (rowC b.1 r:Int):=fun f=>by
    cases h0:ifB (pLt r ((rowG b.1 b.1.length:Int)+1 - 1)) (some r) (some ((rowG b.1 b.1.length:Int)+1 - 1)) with
    | none=>rw [h0] at e;cases e
    | some v =>
      rw [h0,bindO_s] at e
      rw [bindO_s,e,bindO_s]
  rw [e2]
  have hlin:rowC b.1 r≤(lin 0 (b.1.drop 0)).length:=by
    rw [List.drop_zero,lin_len]
    have:=rowC_le b.1 r
    unfold rowG at this
    rw [List.take_length] at this
    exact this
  have hrc:=rowC_le b.1 r
  obtain ⟨x,g1,g2⟩:=spec_walk (N:=N) (R:=Int) b (r,(c,())) hl hN (fun d =>
      let x31:=d.1;
      let x32:=d.2.1;
      let x33:=d.2.2.1;
      bindO (zB9 N x32 x31) fun y34 =>
      ifB (pLt x33.2.1 0) (
        some x31) (
        ifB (pGt x33.2.1 (pSub Go.IntKind.i64 y34 x31)) (
          some y34) (
          some (pAdd Go.IntKind.i64 x31 x33.2.1)))) (rowC b.1 r) 0 N (by omega) hlin (by omega)
  have hx:x=(lineG b.1 (rowC b.1 r):Int):=by
    rw [List.drop_zero] at g2
    have:(linesG b.1)[rowC b.1 r]?=some x:=g2
    rw [h1] at this
    exact (Option.some.inj this).symm
  refine Eq.trans g1 ?_
  simp only []
  have hge:=endG_ge b.1 (lineG b.1 (rowC b.1 r))
  have hle:=endG_le b.1 (lineG b.1 (rowC b.1 r)) h2
  rw [hx,spec_end N b _ h2 hl (by omega),bindO_s,pSub_i (by omega) (by omega)]
  unfold placeG colC
  by_cases q:c < 0
  · rw [pLt_t q,ifB_t];congr 1;omega
  · rw [pLt_f (by omega),ifB_f]
    by_cases q2:c > (endG b.1 (lineG b.1 (rowC b.1 r)):Int) - (lineG b.1 (rowC b.1 r):Int)
    · rw [pGt_t q2,ifB_t];congr 1;omega
    · rw [pGt_f (by omega),ifB_f,pAdd_i (by omega) (by omega)];congr 1;omega
end Go.AE.F
