/- Plain laws of those functions. -/
import Derived.Test.YtkknmokglbhheaaGreatLMachineP12
namespace Go.AE.F
open Go.AE
theorem op_12 (N:Nat) (hN:2000 < N) (num:Int) (sc:SceneT) (hb:bufG sc.1=true) (hf:0≤sc.2.1∧sc.2.1≤5000) (hbe:0≤sc.2.2.1∧sc.2.2.1≤1000000000) (st:List Int) (hst:st.length≤100) (v:List Int) (hv:v.length=8) (p:Int) (hp:0≤p∧p≤2000) (a:Int) (ha:-1000000000≤a∧a≤1000000000):zAP N (sc,(st ++ [a],(tupN v,(p,())))) (12,(num,()))=some ((evG (12,(num,())) sc v a 0 (p+1)).sc,(st ++ (evG (12,(num,())) sc v a 0 (p+1)).put,(tupN (evG (12,(num,())) sc v a 0 (p+1)).v,((evG (12,(num,())) sc v a 0 (p+1)).at',())))):=by
  have hpa:pAdd .i64 p 1=p+1:=pAdd_i (by omega) (by omega)
  have e:zAP N (sc,(st ++ [a],(tupN v,(p,())))) (12,(num,()))=bindO (zB6 N (sc,(st ++ [a],(tupN v,(pAdd .i64 p 1,()))))) fun y=>ifB (pEq y.1 0) (some (y.2.1,(y.2.2.1,(y.2.2.2.1,(num,y.2.2.2.2.2))))) (some y.2):=rfl
  rw [e,pop_eq N sc st a _ _ (by omega),bindO_s]
  simp only []
  show _=some (sc,(st ++ [],(tupN v,((if a=0 then num else p+1),()))))
  rw [List.append_nil,hpa]
  by_cases h:a=0
  · rw [pEq_t h,ifB_t,if_pos h]
  · rw [pEq_f h,ifB_f,if_neg h]
theorem op_13 (N:Nat) (hN:2000 < N) (num:Int) (sc:SceneT) (hb:bufG sc.1=true) (hf:0≤sc.2.1∧sc.2.1≤5000) (hbe:0≤sc.2.2.1∧sc.2.2.1≤1000000000) (st:List Int) (hst:st.length≤100) (v:List Int) (hv:v.length=8) (p:Int) (hp:0≤p∧p≤2000) (a:Int) (ha:-1000000000≤a∧a≤1000000000):zAP N (sc,(st ++ [a],(tupN v,(p,())))) (13,(num,()))=some ((evG (13,(num,())) sc v a 0 (p+1)).sc,(st ++ (evG (13,(num,())) sc v a 0 (p+1)).put,(tupN (evG (13,(num,())) sc v a 0 (p+1)).v,((evG (13,(num,())) sc v a 0 (p+1)).at',())))):=by
  have hpa:pAdd .i64 p 1=p+1:=pAdd_i (by omega) (by omega)
  have e:zAP N (sc,(st ++ [a],(tupN v,(p,())))) (13,(num,()))=bindO (zB6 N (sc,(st ++ [a],(tupN v,(pAdd .i64 p 1,()))))) fun y=>bindO (zBQ N y.2.1 y.1) fun y1=>some (y1,y.2.2):=rfl
  rw [e,pop_eq N sc st a _ _ (by omega),bindO_s]
  simp only []
  rw [insert_eq N sc a hb (by omega),bindO_s,hpa]
  show _=some (insS sc a,(st ++ [],(tupN v,(p+1,()))))
  rw [List.append_nil]
theorem op_15 (N:Nat) (hN:2000 < N) (num:Int) (sc:SceneT) (hb:bufG sc.1=true) (hf:0≤sc.2.1∧sc.2.1≤5000) (hbe:0≤sc.2.2.1∧sc.2.2.1≤1000000000) (st:List Int) (hst:st.length≤100) (v:List Int) (hv:v.length=8) (p:Int) (hp:0≤p∧p≤2000) (a:Int) (ha:-1000000000≤a∧a≤1000000000):zAP N (sc,(st ++ [a],(tupN v,(p,())))) (15,(num,()))=some ((evG (15,(num,())) sc v a 0 (p+1)).sc,(st ++ (evG (15,(num,())) sc v a 0 (p+1)).put,(tupN (evG (15,(num,())) sc v a 0 (p+1)).v,((evG (15,(num,())) sc v a 0 (p+1)).at',())))):=by
  have hpa:pAdd .i64 p 1=p+1:=pAdd_i (by omega) (by omega)
  have e:zAP N (sc,(st ++ [a],(tupN v,(p,())))) (15,(num,()))=bindO (zB6 N (sc,(st ++ [a],(tupN v,(pAdd .i64 p 1,()))))) fun y=>bindO (zC0 N y.2.1 y.1) fun y1=>some (y1,y.2.2):=rfl
  rw [e,pop_eq N sc st a _ _ (by omega),bindO_s]
  simp only []
  rw [goTo_eq N sc a hb,bindO_s,hpa]
  show _=some (goS sc a,(st ++ [],(tupN v,(p+1,()))))
  rw [List.append_nil]
theorem op_16 (N:Nat) (hN:2000 < N) (num:Int) (sc:SceneT) (hb:bufG sc.1=true) (hf:0≤sc.2.1∧sc.2.1≤5000) (hbe:0≤sc.2.2.1∧sc.2.2.1≤1000000000) (st:List Int) (hst:st.length≤100) (v:List Int) (hv:v.length=8) (p:Int) (hp:0≤p∧p≤2000) (a:Int) (ha:-1000000000≤a∧a≤1000000000):zAP N (sc,(st ++ [a],(tupN v,(p,())))) (16,(num,()))=some ((evG (16,(num,())) sc v a 0 (p+1)).sc,(st ++ (evG (16,(num,())) sc v a 0 (p+1)).put,(tupN (evG (16,(num,())) sc v a 0 (p+1)).v,((evG (16,(num,())) sc v a 0 (p+1)).at',())))):=by
  have hpa:pAdd .i64 p 1=p+1:=pAdd_i (by omega) (by omega)
  have e:zAP N (sc,(st ++ [a],(tupN v,(p,())))) (16,(num,()))=bindO (zB6 N (sc,(st ++ [a],(tupN v,(pAdd .i64 p 1,()))))) fun y=>bindO (zBP N y.2.1 y.1) fun y1=>some (y1,y.2.2):=rfl
  rw [e,pop_eq N sc st a _ _ (by omega),bindO_s]
  simp only []
  rw [markAt_eq N sc a hb,bindO_s,hpa]
  show _=some (markS sc a,(st ++ [],(tupN v,(p+1,()))))
  rw [List.append_nil]
theorem op_10 (N:Nat) (hN:2000 < N) (num:Int) (sc:SceneT) (hb:bufG sc.1=true) (hf:0≤sc.2.1∧sc.2.1≤5000) (hbe:0≤sc.2.2.1∧sc.2.2.1≤1000000000) (st:List Int) (hst:st.length≤100) (v:List Int) (hv:v.length=8) (p:Int) (hp:0≤p∧p≤2000) (hn:18≤num∧num≤26) (a b:Int) (ha:-1000000000≤a∧a≤1000000000) (hb9:-1000000000≤b∧b≤1000000000):zAP N (sc,(st ++ [a,b],(tupN v,(p,())))) (10,(num,()))=some ((evG (10,(num,())) sc v a b (p+1)).sc,(st ++ (evG (10,(num,())) sc v a b (p+1)).put,(tupN (evG (10,(num,())) sc v a b (p+1)).v,((evG (10,(num,())) sc v a b (p+1)).at',())))):=by
  have hpa:pAdd .i64 p 1=p+1:=pAdd_i (by omega) (by omega)
  have e:zAP N (sc,(st ++ [a,b],(tupN v,(p,())))) (10,(num,()))=bindO (zB6 N (sc,(st ++ [a,b],(tupN v,(pAdd .i64 p 1,()))))) fun z=>bindO (zB6 N z.2) fun y=>bindO (zCA N y.2.1 num y.1 z.1) fun y1=>bindO (zAD N (y1.2,y.2.2) y1.1) fun y2=>some y2:=rfl
  have ea:st ++ [a,b]=(st ++ [a]) ++ [b]:=by simp
  rw [e,ea,pop_eq N sc (st ++ [a]) b _ _ (by simp;omega),bindO_s]
  simp only []
  rw [pop_eq N sc st a _ _ (by omega),bindO_s]
  simp only []
  rw [two_eq N sc num a b hn,bindO_s,push_eq N _ _ (by show st.length≤1000;omega),bindO_s,hpa]
  rfl
theorem op_14 (N:Nat) (hN:2000 < N) (num:Int) (sc:SceneT) (hb:bufG sc.1=true) (hf:0≤sc.2.1∧sc.2.1≤5000) (hbe:0≤sc.2.2.1∧sc.2.2.1≤1000000000) (st:List Int) (hst:st.length≤100) (v:List Int) (hv:v.length=8) (p:Int) (hp:0≤p∧p≤2000) (a b:Int) (ha:-1000000000≤a∧a≤1000000000) (hb9:-1000000000≤b∧b≤1000000000):zAP N (sc,(st ++ [a,b],(tupN v,(p,())))) (14,(num,()))=some ((evG (14,(num,())) sc v a b (p+1)).sc,(st ++ (evG (14,(num,())) sc v a b (p+1)).put,(tupN (evG (14,(num,())) sc v a b (p+1)).v,((evG (14,(num,())) sc v a b (p+1)).at',())))):=by
  have hpa:pAdd .i64 p 1=p+1:=pAdd_i (by omega) (by omega)
  have e:zAP N (sc,(st ++ [a,b],(tupN v,(p,())))) (14,(num,()))=bindO (zB6 N (sc,(st ++ [a,b],(tupN v,(pAdd .i64 p 1,()))))) fun z=>bindO (zB6 N z.2) fun y=>bindO (zBR N y.2.1 y.1 z.1) fun y1=>some (y1,y.2.2):=rfl
  have ea:st ++ [a,b]=(st ++ [a]) ++ [b]:=by simp
  rw [e,ea,pop_eq N sc (st ++ [a]) b _ _ (by simp;omega),bindO_s]
  simp only []
  rw [pop_eq N sc st a _ _ (by omega),bindO_s]
  simp only []
  rw [delete_eq N sc a b hb (by omega) ha hb9,bindO_s,hpa]
  show _=some (tookS sc (replG sc.1 a b []),(st ++ [],(tupN v,(p+1,()))))
  rw [List.append_nil]
end Go.AE.F
namespace Go.AE.F
open Go.AE
abbrev RunT:=(List (Int×Int×ByteArray×Int×Unit))×List ByteArray×List Int×SceneT
theorem sfail_eq (N:Nat) (l:List (Int×Int×ByteArray×Int×Unit)) (nm:List ByteArray) (v:List Int) (sc:SceneT) (c:Int) (h0:sc.2.2.2.1=0):zBC N (l,(nm,(v,sc))) c=some (l,(nm,(v,failS sc c))):=by
  unfold zBC failS
  rw [pEq_t h0,ifB_t]
theorem sact_ins (N:Nat) (hN:400 < N) (l:List (Int×Int×ByteArray×Int×Unit)) (nm:List ByteArray) (v:List Int) (sc:SceneT) (a b:Int) (h0:sc.2.2.2.1=0) (hb:bufG sc.1=true):zBF N (l,(nm,(v,sc))) 5 a b=some (l,(nm,(v,insS sc a))):=by
  unfold zBF insS tookS
  rw [show pEq 5 5=true from rfl,ifB_t,spec_l01Point_eq,bindO_s,pNot_d,sfail_eq N l nm v sc 8 h0]
  cases h:ptG a with
  | false=>rfl
  | true =>
    have hp:ptsG [a]=true:=by unfold ptsG;simp [h]
    have ei:insG sc.1 [a]=replG sc.1 sc.1.2.1 sc.1.2.1 [a]:=by
      unfold insG;rw [if_neg (by simp),if_neg (by rw [hb,hp];simp)]
    rw [Bool.not_true,ifB_f,if_neg (by simp),spec_Insert_eq N sc.1 [a] (by omega),bindO_s,ei]
    by_cases hc:(replG sc.1 sc.1.2.1 sc.1.2.1 [a]).2.2.1=0
    · rw [pNe_f hc,ifB_f,if_neg (by simp [hc])]
    · rw [pNe_t hc,ifB_t,sfail_eq N l nm v sc _ h0,bindO_s,if_pos hc]
theorem sact_del (N:Nat) (hN:400 < N) (l:List (Int×Int×ByteArray×Int×Unit)) (nm:List ByteArray) (v:List Int) (sc:SceneT) (a b:Int) (h0:sc.2.2.2.1=0) (hb:bufG sc.1=true) (ha:-1000000000≤a∧a≤1000000000) (hb9:-1000000000≤b∧b≤1000000000) :
    zBF N (l,(nm,(v,sc))) 6 a b=some (l,(nm,(v,tookS sc (replG sc.1 a b [])))):=by
  unfold zBF tookS zCS
  rw [show pEq 6 5=false from rfl,ifB_f,show pEq 6 6=true from rfl,ifB_t]
  simp only []
  rw [spec_Replace_eq N sc.1 a b [] hb rfl (by omega) (by omega) (by omega),bindO_s,bindO_s]
  by_cases hc:(replG sc.1 a b []).2.2.1=0
  · rw [pNe_f hc,ifB_f,if_neg (by simp [hc])]
  · rw [pNe_t hc,ifB_t,sfail_eq N l nm v sc _ h0,bindO_s,if_pos hc]
theorem place_or (b:BufT) (a:Int):(pLt a 0 || pGt a (pLen b.1))=!(decide (0≤a) && decide (a≤(b.1.length:Int))):=by
  rw [pLt_d,pGt_d,pLen_d]
  by_cases h1:0≤a
  · by_cases h2:a≤(b.1.length:Int)
    · rw [decide_eq_true h1,decide_eq_true h2,decide_eq_false (by omega),decide_eq_false (by omega)];rfl
    · rw [decide_eq_true h1,decide_eq_false h2,decide_eq_false (by omega),decide_eq_true (by omega)];rfl
  · rw [decide_eq_false h1,decide_eq_true (by omega:a < 0)];rfl
theorem sact_go (N:Nat) (l:List (Int×Int×ByteArray×Int×Unit)) (nm:List ByteArray) (v:List Int) (sc:SceneT) (a b:Int) (h0:sc.2.2.2.1=0):zBF N (l,(nm,(v,sc))) 7 a b=some (l,(nm,(v,goS sc a))):=by
  unfold zBF goS
  rw [show pEq 7 5=false from rfl,ifB_f,show pEq 7 6=false from rfl,ifB_f,sfail_eq N l nm v sc 8 h0,ifB_or,bindO_s]
  simp only [place_or]
  cases (decide (0≤a) && decide (a≤(sc.1.1.length:Int))) <;> rfl
theorem sact_mark (N:Nat) (l:List (Int×Int×ByteArray×Int×Unit)) (nm:List ByteArray) (v:List Int) (sc:SceneT) (a b:Int) (h0:sc.2.2.2.1=0):zBF N (l,(nm,(v,sc))) 8 a b=some (l,(nm,(v,markS sc a))):=by
  unfold zBF markS
  rw [show pEq 8 5=false from rfl,ifB_f,show pEq 8 6=false from rfl,ifB_f,sfail_eq N l nm v sc 8 h0,ifB_or,bindO_s]
  simp only [place_or]
  cases (decide (0≤a) && decide (a≤(sc.1.1.length:Int))) <;> rfl
theorem sdone_at (N:Nat) (l:List (Int×Int×ByteArray×Int×Unit)) (nm:List ByteArray) (v:List Int) (sc:SceneT) (x:Int) (s:ByteArray) (y:Int) (a b:Int) (h0:sc.2.2.2.1=0):zBS N (l,(nm,(v,sc))) (16,(x,(s,(y,())))) a b=some ((atS sc a).1,(l,(nm,(v,(atS sc a).2)))):=by
  have e:zBS N (l,(nm,(v,sc))) (16,(x,(s,(y,())))) a b=bindO (
      ifB (pLt a 0) (
        some true) (
        some (pGe a (pLen sc.1.1)))) fun y29 =>
    ifB y29 (
      bindO (zBC N (l,(nm,(v,sc))) 8) fun y30 =>
      some (0,y30)) (
      bindO (idx sc.1.1 a) fun y31 =>
      some (y31,(l,(nm,(v,sc))))):=rfl
  rw [e,sfail_eq N l nm v sc 8 h0,ifB_or,bindO_s,bindO_s]
  unfold atS
  by_cases h:0≤a∧a < (sc.1.1.length:Int)
  · have hlt:a.toNat < sc.1.1.length:=by omega
    have ei:idx sc.1.1 a=some sc.1.1[a.toNat]:=by
      have:=idx_lt (xs:=sc.1.1) (i:=a.toNat) hlt
      rw [show ((a.toNat:Nat):Int)=a by omega] at this
      exact this
    rw [if_pos h,pLt_f (by omega),pLen_d,pGe_f (by omega),show (false || false)=false from rfl,ifB_f,ei,bindO_s,List.getElem?_eq_getElem hlt];rfl
  · rw [if_neg h]
    have:(pLt a 0 || pGe a (pLen sc.1.1))=true:=by
      rw [pLen_d]
      by_cases h1:a < 0
      · rw [pLt_t h1];rfl
      · rw [pGe_t (by omega)];simp
    rw [this,ifB_t]
theorem sdone_not (N:Nat) (l:List (Int×Int×ByteArray×Int×Unit)) (nm:List ByteArray) (v:List Int) (sc:SceneT) (x:Int) (s:ByteArray) (y:Int) (a b:Int):zBS N (l,(nm,(v,sc))) (17,(x,(s,(y,())))) a b=some ((if a=0 then 1 else 0),(l,(nm,(v,sc)))):=by
  have e:zBS N (l,(nm,(v,sc))) (17,(x,(s,(y,())))) a b=ifB (pEq a 0) (some (1,(l,(nm,(v,sc))))) (some (0,(l,(nm,(v,sc))))):=rfl
  rw [e]
  by_cases h:a=0
  · rw [pEq_t h,ifB_t,if_pos h]
  · rw [pEq_f h,ifB_f,if_neg h]
noncomputable def opV (k a b:Int):Int×Int:=match twoV k a b with
  | some v=>if okV v=true then (v,0) else (0,8)
  | none=>(0,8)
theorem fin_op (v:Int):(bindO (ifB (pLt v (-1000000000)) (some true) (some (pGt v 1000000000))) fun y=>ifB y (some ((0:Int),(8:Int))) (some (v,0)))=some (if okV v=true then (v,0) else (0,8)):=by
  rw [ifB_or,bindO_s]
  unfold okV
  rw [pLt_d,pGt_d]
  by_cases h1:-1000000000≤v
  · by_cases h2:v≤1000000000
    · rw [decide_eq_true h1,decide_eq_true h2,decide_eq_false (by omega),decide_eq_false (by omega)];rfl
    · rw [decide_eq_true h1,decide_eq_false h2,decide_eq_false (by omega),decide_eq_true (by omega)];rfl
  · rw [decide_eq_false h1,decide_eq_true (by omega:v < -1000000000)];rfl
theorem sop_eq (N:Nat) (k a b:Int) (hk:18≤k∧k≤26):zDE N k a b=some (opV k a b):=by
  have b1:pLt 1 (-1000000000)=false:=rfl
  have b2:pGt 1 1000000000=false:=rfl
  have b3:pLt 0 (-1000000000)=false:=rfl
  have b4:pGt 0 1000000000=false:=rfl
  have key:∀ c:Bool,ifB c (bindO (ifB (pLt 1 (-1000000000)) (some true) (some (pGt 1 1000000000))) fun y=>ifB y (some ((0:Int),(8:Int))) (some (1,0))) (bindO (ifB (pLt 0 (-1000000000)) (some true) (some (pGt 0 1000000000))) fun y=>ifB y (some ((0:Int),(8:Int))) (some (0,0)))=some (if c=true then 1 else 0,0):=fun c=>by
    cases c <;> rfl
  have fo:∀ v,twoV k a b=some v→opV k a b=if okV v=true then (v,0) else (0,8):=fun v h=>by unfold opV;rw [h]
  unfold zDE
  rcases (by omega:k=18 ∨ k=19 ∨ k=20 ∨ k=21 ∨ k=22 ∨ k=23 ∨ k=24 ∨ k=25 ∨ k=26) with rfl | rfl | rfl | rfl | rfl | rfl | rfl | rfl | rfl
  · rw [show pEq 18 18=true from rfl,ifB_t,ifB_or,bindO_s,key]
    have e:twoV 18 a b=some (if a≠0 ∨ b≠0 then 1 else 0):=rfl
    rw [fo _ e,pNe_d,pNe_d]
    by_cases h1:a=0 <;> by_cases h2:b=0 <;> simp [h1,h2,okV]
  · rw [show pEq 19 18=false from rfl,show pEq 19 19=true from rfl,ifB_f,ifB_t,ifB_and,bindO_s,key]
    have e:twoV 19 a b=some (if a≠0∧b≠0 then 1 else 0):=rfl
    rw [fo _ e,pNe_d,pNe_d]
    by_cases h1:a=0 <;> by_cases h2:b=0 <;> simp [h1,h2,okV]
  · rw [show pEq 20 18=false from rfl,show pEq 20 19=false from rfl,show pEq 20 20=true from rfl,ifB_f,ifB_f,ifB_t,key]
    have e:twoV 20 a b=some (if a < b then 1 else 0):=rfl
    rw [fo _ e,pLt_d]
    by_cases h1:a < b <;> simp [h1,okV]
  · rw [show pEq 21 18=false from rfl,show pEq 21 19=false from rfl,show pEq 21 20=false from rfl,show pEq 21 21=true from rfl,ifB_f,ifB_f,ifB_f,ifB_t,key]
    have e:twoV 21 a b=some (if a=b then 1 else 0):=rfl
    rw [fo _ e,pEq_d]
    by_cases h1:a=b <;> simp [h1,okV]
  · rw [show pEq 22 18=false from rfl,show pEq 22 19=false from rfl,show pEq 22 20=false from rfl,show pEq 22 21=false from rfl,show pEq 22 22=true from rfl,ifB_f,ifB_f,ifB_f,ifB_f,ifB_t,key]
    have e:twoV 22 a b=some (if b < a then 1 else 0):=rfl
    rw [fo _ e,pGt_d]
    by_cases h1:b < a <;> simp [h1,okV]
  · rw [fo _ (rfl:twoV 23 a b=some (pAdd .i64 a b))];exact fin_op (pAdd .i64 a b)
  · rw [fo _ (rfl:twoV 24 a b=some (pSub .i64 a b))];exact fin_op (pSub .i64 a b)
  · rw [fo _ (rfl:twoV 25 a b=some (pMul .i64 a b))];exact fin_op (pMul .i64 a b)
  · show ifB (pEq b 0) _ (ifB (pEq b 0) none _)=_
    by_cases h:b=0
    · have e:opV 26 a b=(0,8):=by unfold opV twoV;simp [h]
      rw [e,pEq_t h,ifB_t]
    · have e:twoV 26 a b=some (pQuo .i64 a b):=by unfold twoV;simp [h]
      rw [fo _ e,pEq_f h,ifB_f,ifB_f]
      exact fin_op (pQuo .i64 a b)
theorem sdone_two (N:Nat) (l:List (Int×Int×ByteArray×Int×Unit)) (nm:List ByteArray) (v:List Int) (sc:SceneT) (k x:Int) (s:ByteArray) (y:Int) (a b:Int) (hk:18≤k∧k≤26) (h0:sc.2.2.2.1=0) :
    ∃ p,zBS N (l,(nm,(v,sc))) (k,(x,(s,(y,())))) a b=some (p,(l,(nm,(v,(twoS sc k a b).2))))∧((twoS sc k a b).2.2.2.2.1=0→p=(twoS sc k a b).1∧-1000000000≤p∧p≤1000000000):=by
  have e:zBS N (l,(nm,(v,sc))) (k,(x,(s,(y,())))) a b=bindO (zDE N k a b) fun y32 =>
      ifB (pNe y32.2 0) (bindO (zBC N (l,(nm,(v,sc))) y32.2) fun y33=>some (y32.1,y33)) (some (y32.1,(l,(nm,(v,sc))))):=by
    rcases (by omega:k=18 ∨ k=19 ∨ k=20 ∨ k=21 ∨ k=22 ∨ k=23 ∨ k=24 ∨ k=25 ∨ k=26) with rfl | rfl | rfl | rfl | rfl | rfl | rfl | rfl | rfl <;> rfl
  rw [e,sop_eq N k a b hk,bindO_s]
  unfold opV twoS
  cases ht:twoV k a b with
  | none =>
    simp only []
    rw [pNe_t (by omega),ifB_t,sfail_eq N l nm v sc 8 h0,bindO_s]
    exact ⟨0,rfl,fun h=>by exfalso;have:(8:Int)=0:=h;omega⟩
  | some w =>
    simp only []
    unfold resS
    cases hw:okV w with
    | true =>
      rw [if_pos rfl,pNe_f rfl,ifB_f]
      refine ⟨w,by simp,fun _=>⟨rfl,?_⟩⟩
      unfold okV at hw
      simp only [Bool.and_eq_true,decide_eq_true_eq] at hw
      exact hw
    | false =>
      rw [if_neg (by simp)]
      simp only []
      rw [pNe_t (by omega),ifB_t,sfail_eq N l nm v sc 8 h0,bindO_s]
      exact ⟨0,by simp,fun h=>by exfalso;have:(8:Int)=0:=h;omega⟩
theorem smove_eq (N:Nat) (b:BufT) (k:Int) (hN:2000 < N) (hl:b.1.length≤1000):zCT N b k 1 0=some (moveB b k):=by
  unfold zCT moveB zCG
  rw [copy_eq N b.1 (by omega),bindO_s,bindO_s,spec_Motion_eq N b k 1 0 (by omega),bindO_s]
  by_cases h:0≤motG b k 1 0
  · rw [pGe_t h,ifB_t,if_pos h]
  · rw [pGe_f (by omega),ifB_f,if_neg h]
end Go.AE.F
