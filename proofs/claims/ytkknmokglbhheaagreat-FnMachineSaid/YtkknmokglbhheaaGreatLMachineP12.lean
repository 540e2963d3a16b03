/- Plain laws of those functions. -/
import Derived.Test.YtkknmokglbhheaaGreatLMachineP11
namespace Go.AE.F
open Go.AE
theorem op_1 (N:Nat) (hN:2000 < N) (num:Int) (sc:SceneT) (hb:bufG sc.1=true) (hf:0≤sc.2.1∧sc.2.1≤5000) (hbe:0≤sc.2.2.1∧sc.2.2.1≤1000000000) (st:List Int) (hst:st.length≤100) (v:List Int) (hv:v.length=8) (p:Int) (hp:0≤p∧p≤2000):zAP N (sc,(st,(tupN v,(p,())))) (1,(num,()))=some ((evG (1,(num,())) sc v 0 0 (p+1)).sc,(st ++ (evG (1,(num,())) sc v 0 0 (p+1)).put,(tupN (evG (1,(num,())) sc v 0 0 (p+1)).v,((evG (1,(num,())) sc v 0 0 (p+1)).at',())))):=by
  have hpa:pAdd .i64 p 1=p+1:=pAdd_i (by omega) (by omega)
  have e:zAP N (sc,(st,(tupN v,(p,())))) (1,(num,()))=bindO (zC3 N sc) fun y=>some (y.2,(st,(tupN v,(pAdd .i64 p 1,())))):=rfl
  obtain ⟨b,h⟩:=tick_eq N sc hf
  rw [e,h,bindO_s,hpa]
  show _=some (tickG sc,(st ++ [],(tupN v,(p+1,()))))
  rw [List.append_nil]
theorem op_2 (N:Nat) (hN:2000 < N) (num:Int) (sc:SceneT) (hb:bufG sc.1=true) (hf:0≤sc.2.1∧sc.2.1≤5000) (hbe:0≤sc.2.2.1∧sc.2.2.1≤1000000000) (st:List Int) (hst:st.length≤100) (v:List Int) (hv:v.length=8) (p:Int) (hp:0≤p∧p≤2000):zAP N (sc,(st,(tupN v,(p,())))) (2,(num,()))=some ((evG (2,(num,())) sc v 0 0 (p+1)).sc,(st ++ (evG (2,(num,())) sc v 0 0 (p+1)).put,(tupN (evG (2,(num,())) sc v 0 0 (p+1)).v,((evG (2,(num,())) sc v 0 0 (p+1)).at',())))):=by
  have hpa:pAdd .i64 p 1=p+1:=pAdd_i (by omega) (by omega)
  have e:zAP N (sc,(st,(tupN v,(p,())))) (2,(num,()))=bindO (zAD N (sc,(st,(tupN v,(pAdd .i64 p 1,())))) num) fun y=>some y:=rfl
  rw [e,push_eq N _ _ (by show st.length≤1000;omega),bindO_s,hpa]
  rfl
theorem op_5 (N:Nat) (hN:2000 < N) (num:Int) (sc:SceneT) (hb:bufG sc.1=true) (hf:0≤sc.2.1∧sc.2.1≤5000) (hbe:0≤sc.2.2.1∧sc.2.2.1≤1000000000) (st:List Int) (hst:st.length≤100) (v:List Int) (hv:v.length=8) (p:Int) (hp:0≤p∧p≤2000):zAP N (sc,(st,(tupN v,(p,())))) (5,(num,()))=some ((evG (5,(num,())) sc v 0 0 (p+1)).sc,(st ++ (evG (5,(num,())) sc v 0 0 (p+1)).put,(tupN (evG (5,(num,())) sc v 0 0 (p+1)).v,((evG (5,(num,())) sc v 0 0 (p+1)).at',())))):=by
  have hpa:pAdd .i64 p 1=p+1:=pAdd_i (by omega) (by omega)
  have e:zAP N (sc,(st,(tupN v,(p,())))) (5,(num,()))=bindO (zAD N (sc,(st,(tupN v,(pAdd .i64 p 1,())))) sc.1.2.1) fun y=>some y:=rfl
  rw [e,push_eq N _ _ (by show st.length≤1000;omega),bindO_s,hpa]
  rfl
theorem op_7 (N:Nat) (hN:2000 < N) (num:Int) (sc:SceneT) (hb:bufG sc.1=true) (hf:0≤sc.2.1∧sc.2.1≤5000) (hbe:0≤sc.2.2.1∧sc.2.2.1≤1000000000) (st:List Int) (hst:st.length≤100) (v:List Int) (hv:v.length=8) (p:Int) (hp:0≤p∧p≤2000):zAP N (sc,(st,(tupN v,(p,())))) (7,(num,()))=some ((evG (7,(num,())) sc v 0 0 (p+1)).sc,(st ++ (evG (7,(num,())) sc v 0 0 (p+1)).put,(tupN (evG (7,(num,())) sc v 0 0 (p+1)).v,((evG (7,(num,())) sc v 0 0 (p+1)).at',())))):=by
  have hpa:pAdd .i64 p 1=p+1:=pAdd_i (by omega) (by omega)
  have e:zAP N (sc,(st,(tupN v,(p,())))) (7,(num,()))=bindO (zAD N (sc,(st,(tupN v,(pAdd .i64 p 1,())))) sc.1.2.2.1) fun y=>some y:=rfl
  rw [e,push_eq N _ _ (by show st.length≤1000;omega),bindO_s,hpa]
  rfl
theorem op_6 (N:Nat) (hN:2000 < N) (num:Int) (sc:SceneT) (hb:bufG sc.1=true) (hf:0≤sc.2.1∧sc.2.1≤5000) (hbe:0≤sc.2.2.1∧sc.2.2.1≤1000000000) (st:List Int) (hst:st.length≤100) (v:List Int) (hv:v.length=8) (p:Int) (hp:0≤p∧p≤2000):zAP N (sc,(st,(tupN v,(p,())))) (6,(num,()))=some ((evG (6,(num,())) sc v 0 0 (p+1)).sc,(st ++ (evG (6,(num,())) sc v 0 0 (p+1)).put,(tupN (evG (6,(num,())) sc v 0 0 (p+1)).v,((evG (6,(num,())) sc v 0 0 (p+1)).at',())))):=by
  have hpa:pAdd .i64 p 1=p+1:=pAdd_i (by omega) (by omega)
  have hl:=ptsG_len (bufG_iff.1 hb).1
  have e:zAP N (sc,(st,(tupN v,(p,())))) (6,(num,()))=bindO (zAR N sc.1.1) fun y=>bindO (zAD N (sc,(st,(tupN v,(pAdd .i64 p 1,())))) y) fun y=>some y:=rfl
  rw [e,impl_size_eq N _ (by omega),bindO_s,push_eq N _ _ (by show st.length≤1000;omega),bindO_s,hpa]
  rfl
theorem op_3 (N:Nat) (hN:2000 < N) (num:Int) (sc:SceneT) (hb:bufG sc.1=true) (hf:0≤sc.2.1∧sc.2.1≤5000) (hbe:0≤sc.2.2.1∧sc.2.2.1≤1000000000) (st:List Int) (hst:st.length≤100) (v:List Int) (hv:v.length=8) (p:Int) (hp:0≤p∧p≤2000) (hn:0≤num∧num≤7):zAP N (sc,(st,(tupN v,(p,())))) (3,(num,()))=some ((evG (3,(num,())) sc v 0 0 (p+1)).sc,(st ++ (evG (3,(num,())) sc v 0 0 (p+1)).put,(tupN (evG (3,(num,())) sc v 0 0 (p+1)).v,((evG (3,(num,())) sc v 0 0 (p+1)).at',())))):=by
  have hpa:pAdd .i64 p 1=p+1:=pAdd_i (by omega) (by omega)
  rcases (by omega:num=0 ∨ num=1 ∨ num=2 ∨ num=3 ∨ num=4 ∨ num=5 ∨ num=6 ∨ num=7) with rfl | rfl | rfl | rfl | rfl | rfl | rfl | rfl
  · have e:zAP N (sc,(st,(tupN v,(p,())))) (3,((0:Int),()))=bindO (zAD N (sc,(st,(tupN v,(pAdd .i64 p 1,())))) (tupN v).1) fun y=>some y:=rfl
    rw [e,push_eq N _ _ (by show st.length≤1000;omega),bindO_s,hpa]
    rfl
  · have e:zAP N (sc,(st,(tupN v,(p,())))) (3,((1:Int),()))=bindO (zAD N (sc,(st,(tupN v,(pAdd .i64 p 1,())))) (tupN v).2.1) fun y=>some y:=rfl
    rw [e,push_eq N _ _ (by show st.length≤1000;omega),bindO_s,hpa]
    rfl
  · have e:zAP N (sc,(st,(tupN v,(p,())))) (3,((2:Int),()))=bindO (zAD N (sc,(st,(tupN v,(pAdd .i64 p 1,())))) (tupN v).2.2.1) fun y=>some y:=rfl
    rw [e,push_eq N _ _ (by show st.length≤1000;omega),bindO_s,hpa]
    rfl
  · have e:zAP N (sc,(st,(tupN v,(p,())))) (3,((3:Int),()))=bindO (zAD N (sc,(st,(tupN v,(pAdd .i64 p 1,())))) (tupN v).2.2.2.1) fun y=>some y:=rfl
    rw [e,push_eq N _ _ (by show st.length≤1000;omega),bindO_s,hpa]
    rfl
  · have e:zAP N (sc,(st,(tupN v,(p,())))) (3,((4:Int),()))=bindO (zAD N (sc,(st,(tupN v,(pAdd .i64 p 1,())))) (tupN v).2.2.2.2.1) fun y=>some y:=rfl
    rw [e,push_eq N _ _ (by show st.length≤1000;omega),bindO_s,hpa]
    rfl
  · have e:zAP N (sc,(st,(tupN v,(p,())))) (3,((5:Int),()))=bindO (zAD N (sc,(st,(tupN v,(pAdd .i64 p 1,())))) (tupN v).2.2.2.2.2.1) fun y=>some y:=rfl
    rw [e,push_eq N _ _ (by show st.length≤1000;omega),bindO_s,hpa]
    rfl
  · have e:zAP N (sc,(st,(tupN v,(p,())))) (3,((6:Int),()))=bindO (zAD N (sc,(st,(tupN v,(pAdd .i64 p 1,())))) (tupN v).2.2.2.2.2.2.1) fun y=>some y:=rfl
    rw [e,push_eq N _ _ (by show st.length≤1000;omega),bindO_s,hpa]
    rfl
  · have e:zAP N (sc,(st,(tupN v,(p,())))) (3,((7:Int),()))=bindO (zAD N (sc,(st,(tupN v,(pAdd .i64 p 1,())))) (tupN v).2.2.2.2.2.2.2.1) fun y=>some y:=rfl
    rw [e,push_eq N _ _ (by show st.length≤1000;omega),bindO_s,hpa]
    rfl
theorem op_11 (N:Nat) (hN:2000 < N) (num:Int) (sc:SceneT) (hb:bufG sc.1=true) (hf:0≤sc.2.1∧sc.2.1≤5000) (hbe:0≤sc.2.2.1∧sc.2.2.1≤1000000000) (st:List Int) (hst:st.length≤100) (v:List Int) (hv:v.length=8) (p:Int) (hp:0≤p∧p≤2000):zAP N (sc,(st,(tupN v,(p,())))) (11,(num,()))=some ((evG (11,(num,())) sc v 0 0 (p+1)).sc,(st ++ (evG (11,(num,())) sc v 0 0 (p+1)).put,(tupN (evG (11,(num,())) sc v 0 0 (p+1)).v,((evG (11,(num,())) sc v 0 0 (p+1)).at',())))):=by
  have hpa:pAdd .i64 p 1=p+1:=pAdd_i (by omega) (by omega)
  show some (sc,(st,(tupN v,(num,()))))=some (sc,(st ++ [],(tupN v,(num,()))))
  rw [List.append_nil]
theorem op_17 (N:Nat) (hN:2000 < N) (num:Int) (sc:SceneT) (hb:bufG sc.1=true) (hf:0≤sc.2.1∧sc.2.1≤5000) (hbe:0≤sc.2.2.1∧sc.2.2.1≤1000000000) (st:List Int) (hst:st.length≤100) (v:List Int) (hv:v.length=8) (p:Int) (hp:0≤p∧p≤2000):zAP N (sc,(st,(tupN v,(p,())))) (17,(num,()))=some ((evG (17,(num,())) sc v 0 0 (p+1)).sc,(st ++ (evG (17,(num,())) sc v 0 0 (p+1)).put,(tupN (evG (17,(num,())) sc v 0 0 (p+1)).v,((evG (17,(num,())) sc v 0 0 (p+1)).at',())))):=by
  have hpa:pAdd .i64 p 1=p+1:=pAdd_i (by omega) (by omega)
  show some ((sc.1,(sc.2.1,(pAdd .i64 sc.2.2.1 1,sc.2.2.2))),(st,(tupN v,(pAdd .i64 p 1,()))))=some ((sc.1,(sc.2.1,(sc.2.2.1+1,sc.2.2.2))),(st ++ [],(tupN v,(p+1,()))))
  rw [List.append_nil,hpa,pAdd_i (by omega) (by omega)]
theorem op_18 (N:Nat) (hN:2000 < N) (num:Int) (sc:SceneT) (hb:bufG sc.1=true) (hf:0≤sc.2.1∧sc.2.1≤5000) (hbe:0≤sc.2.2.1∧sc.2.2.1≤1000000000) (st:List Int) (hst:st.length≤100) (v:List Int) (hv:v.length=8) (p:Int) (hp:0≤p∧p≤2000):zAP N (sc,(st,(tupN v,(p,())))) (18,(num,()))=some ((evG (18,(num,())) sc v 0 0 (p+1)).sc,(st ++ (evG (18,(num,())) sc v 0 0 (p+1)).put,(tupN (evG (18,(num,())) sc v 0 0 (p+1)).v,((evG (18,(num,())) sc v 0 0 (p+1)).at',())))):=by
  have hpa:pAdd .i64 p 1=p+1:=pAdd_i (by omega) (by omega)
  have hl:=ptsG_len (bufG_iff.1 hb).1
  have e:zAP N (sc,(st,(tupN v,(p,())))) (18,(num,()))=bindO (zCU N sc.1 num 1 0) fun y=>some ((y,sc.2),(st,(tupN v,(pAdd .i64 p 1,())))):=rfl
  rw [e,move_eq N sc.1 num 1 0 hN (by omega),bindO_s,hpa]
  show some ((moveB sc.1 num,sc.2),(st,(tupN v,(p+1,()))))=some ((moveB sc.1 num,sc.2),(st ++ [],(tupN v,(p+1,()))))
  rw [List.append_nil]
theorem op_4 (N:Nat) (hN:2000 < N) (num:Int) (sc:SceneT) (hb:bufG sc.1=true) (hf:0≤sc.2.1∧sc.2.1≤5000) (hbe:0≤sc.2.2.1∧sc.2.2.1≤1000000000) (st:List Int) (hst:st.length≤100) (v:List Int) (hv:v.length=8) (p:Int) (hp:0≤p∧p≤2000) (hn:0≤num∧num≤7) (a:Int) (ha:-1000000000≤a∧a≤1000000000):zAP N (sc,(st ++ [a],(tupN v,(p,())))) (4,(num,()))=some ((evG (4,(num,())) sc v a 0 (p+1)).sc,(st ++ (evG (4,(num,())) sc v a 0 (p+1)).put,(tupN (evG (4,(num,())) sc v a 0 (p+1)).v,((evG (4,(num,())) sc v a 0 (p+1)).at',())))):=by
  have hpa:pAdd .i64 p 1=p+1:=pAdd_i (by omega) (by omega)
  obtain ⟨v0,v1,v2,v3,v4,v5,v6,v7,rfl⟩:=eight hv
  rcases (by omega:num=0 ∨ num=1 ∨ num=2 ∨ num=3 ∨ num=4 ∨ num=5 ∨ num=6 ∨ num=7) with rfl | rfl | rfl | rfl | rfl | rfl | rfl | rfl
  · have e:zAP N (sc,(st ++ [a],(tupN [v0,v1,v2,v3,v4,v5,v6,v7],(p,())))) (4,((0:Int),()))=bindO (zB6 N (sc,(st ++ [a],(tupN [v0,v1,v2,v3,v4,v5,v6,v7],(pAdd .i64 p 1,()))))) fun y=>some (y.2.1,(y.2.2.1,(((y.1,y.2.2.2.1.2.1,y.2.2.2.1.2.2.1,y.2.2.2.1.2.2.2.1,y.2.2.2.1.2.2.2.2.1,y.2.2.2.1.2.2.2.2.2.1,y.2.2.2.1.2.2.2.2.2.2.1,y.2.2.2.1.2.2.2.2.2.2.2.1,y.2.2.2.1.2.2.2.2.2.2.2.2),y.2.2.2.2)))):=rfl
    rw [e,pop_eq N sc st a _ _ (by omega),bindO_s,hpa]
    show some (sc,(st,((a,v1,v2,v3,v4,v5,v6,v7,(),()),(p+1,()))))=some (sc,(st ++ [],((a,v1,v2,v3,v4,v5,v6,v7,(),()),(p+1,()))))
    rw [List.append_nil]
  · have e:zAP N (sc,(st ++ [a],(tupN [v0,v1,v2,v3,v4,v5,v6,v7],(p,())))) (4,((1:Int),()))=bindO (zB6 N (sc,(st ++ [a],(tupN [v0,v1,v2,v3,v4,v5,v6,v7],(pAdd .i64 p 1,()))))) fun y=>some (y.2.1,(y.2.2.1,(((y.2.2.2.1.1,y.1,y.2.2.2.1.2.2.1,y.2.2.2.1.2.2.2.1,y.2.2.2.1.2.2.2.2.1,y.2.2.2.1.2.2.2.2.2.1,y.2.2.2.1.2.2.2.2.2.2.1,y.2.2.2.1.2.2.2.2.2.2.2.1,y.2.2.2.1.2.2.2.2.2.2.2.2),y.2.2.2.2)))):=rfl
    rw [e,pop_eq N sc st a _ _ (by omega),bindO_s,hpa]
    show some (sc,(st,((v0,a,v2,v3,v4,v5,v6,v7,(),()),(p+1,()))))=some (sc,(st ++ [],((v0,a,v2,v3,v4,v5,v6,v7,(),()),(p+1,()))))
    rw [List.append_nil]
  · have e:zAP N (sc,(st ++ [a],(tupN [v0,v1,v2,v3,v4,v5,v6,v7],(p,())))) (4,((2:Int),()))=bindO (zB6 N (sc,(st ++ [a],(tupN [v0,v1,v2,v3,v4,v5,v6,v7],(pAdd .i64 p 1,()))))) fun y=>some (y.2.1,(y.2.2.1,(((y.2.2.2.1.1,y.2.2.2.1.2.1,y.1,y.2.2.2.1.2.2.2.1,y.2.2.2.1.2.2.2.2.1,y.2.2.2.1.2.2.2.2.2.1,y.2.2.2.1.2.2.2.2.2.2.1,y.2.2.2.1.2.2.2.2.2.2.2.1,y.2.2.2.1.2.2.2.2.2.2.2.2),y.2.2.2.2)))):=rfl
    rw [e,pop_eq N sc st a _ _ (by omega),bindO_s,hpa]
    show some (sc,(st,((v0,v1,a,v3,v4,v5,v6,v7,(),()),(p+1,()))))=some (sc,(st ++ [],((v0,v1,a,v3,v4,v5,v6,v7,(),()),(p+1,()))))
    rw [List.append_nil]
  · have e:zAP N (sc,(st ++ [a],(tupN [v0,v1,v2,v3,v4,v5,v6,v7],(p,())))) (4,((3:Int),()))=bindO (zB6 N (sc,(st ++ [a],(tupN [v0,v1,v2,v3,v4,v5,v6,v7],(pAdd .i64 p 1,()))))) fun y=>some (y.2.1,(y.2.2.1,(((y.2.2.2.1.1,y.2.2.2.1.2.1,y.2.2.2.1.2.2.1,y.1,y.2.2.2.1.2.2.2.2.1,y.2.2.2.1.2.2.2.2.2.1,y.2.2.2.1.2.2.2.2.2.2.1,y.2.2.2.1.2.2.2.2.2.2.2.1,y.2.2.2.1.2.2.2.2.2.2.2.2),y.2.2.2.2)))):=rfl
    rw [e,pop_eq N sc st a _ _ (by omega),bindO_s,hpa]
    show some (sc,(st,((v0,v1,v2,a,v4,v5,v6,v7,(),()),(p+1,()))))=some (sc,(st ++ [],((v0,v1,v2,a,v4,v5,v6,v7,(),()),(p+1,()))))
    rw [List.append_nil]
  · have e:zAP N (sc,(st ++ [a],(tupN [v0,v1,v2,v3,v4,v5,v6,v7],(p,())))) (4,((4:Int),()))=bindO (zB6 N (sc,(st ++ [a],(tupN [v0,v1,v2,v3,v4,v5,v6,v7],(pAdd .i64 p 1,()))))) fun y=>some (y.2.1,(y.2.2.1,(((y.2.2.2.1.1,y.2.2.2.1.2.1,y.2.2.2.1.2.2.1,y.2.2.2.1.2.2.2.1,y.1,y.2.2.2.1.2.2.2.2.2.1,y.2.2.2.1.2.2.2.2.2.2.1,y.2.2.2.1.2.2.2.2.2.2.2.1,y.2.2.2.1.2.2.2.2.2.2.2.2),y.2.2.2.2)))):=rfl
    rw [e,pop_eq N sc st a _ _ (by omega),bindO_s,hpa]
    show some (sc,(st,((v0,v1,v2,v3,a,v5,v6,v7,(),()),(p+1,()))))=some (sc,(st ++ [],((v0,v1,v2,v3,a,v5,v6,v7,(),()),(p+1,()))))
    rw [List.append_nil]
  · have e:zAP N (sc,(st ++ [a],(tupN [v0,v1,v2,v3,v4,v5,v6,v7],(p,())))) (4,((5:Int),()))=bindO (zB6 N (sc,(st ++ [a],(tupN [v0,v1,v2,v3,v4,v5,v6,v7],(pAdd .i64 p 1,()))))) fun y=>some (y.2.1,(y.2.2.1,(((y.2.2.2.1.1,y.2.2.2.1.2.1,y.2.2.2.1.2.2.1,y.2.2.2.1.2.2.2.1,y.2.2.2.1.2.2.2.2.1,y.1,y.2.2.2.1.2.2.2.2.2.2.1,y.2.2.2.1.2.2.2.2.2.2.2.1,y.2.2.2.1.2.2.2.2.2.2.2.2),y.2.2.2.2)))):=rfl
    rw [e,pop_eq N sc st a _ _ (by omega),bindO_s,hpa]
    show some (sc,(st,((v0,v1,v2,v3,v4,a,v6,v7,(),()),(p+1,()))))=some (sc,(st ++ [],((v0,v1,v2,v3,v4,a,v6,v7,(),()),(p+1,()))))
    rw [List.append_nil]
  · have e:zAP N (sc,(st ++ [a],(tupN [v0,v1,v2,v3,v4,v5,v6,v7],(p,())))) (4,((6:Int),()))=bindO (zB6 N (sc,(st ++ [a],(tupN [v0,v1,v2,v3,v4,v5,v6,v7],(pAdd .i64 p 1,()))))) fun y=>some (y.2.1,(y.2.2.1,(((y.2.2.2.1.1,y.2.2.2.1.2.1,y.2.2.2.1.2.2.1,y.2.2.2.1.2.2.2.1,y.2.2.2.1.2.2.2.2.1,y.2.2.2.1.2.2.2.2.2.1,y.1,y.2.2.2.1.2.2.2.2.2.2.2.1,y.2.2.2.1.2.2.2.2.2.2.2.2),y.2.2.2.2)))):=rfl
    rw [e,pop_eq N sc st a _ _ (by omega),bindO_s,hpa]
    show some (sc,(st,((v0,v1,v2,v3,v4,v5,a,v7,(),()),(p+1,()))))=some (sc,(st ++ [],((v0,v1,v2,v3,v4,v5,a,v7,(),()),(p+1,()))))
    rw [List.append_nil]
  · have e:zAP N (sc,(st ++ [a],(tupN [v0,v1,v2,v3,v4,v5,v6,v7],(p,())))) (4,((7:Int),()))=bindO (zB6 N (sc,(st ++ [a],(tupN [v0,v1,v2,v3,v4,v5,v6,v7],(pAdd .i64 p 1,()))))) fun y=>some (y.2.1,(y.2.2.1,(((y.2.2.2.1.1,y.2.2.2.1.2.1,y.2.2.2.1.2.2.1,y.2.2.2.1.2.2.2.1,y.2.2.2.1.2.2.2.2.1,y.2.2.2.1.2.2.2.2.2.1,y.2.2.2.1.2.2.2.2.2.2.1,y.1,y.2.2.2.1.2.2.2.2.2.2.2.2),y.2.2.2.2)))):=rfl
    rw [e,pop_eq N sc st a _ _ (by omega),bindO_s,hpa]
    show some (sc,(st,((v0,v1,v2,v3,v4,v5,v6,a,(),()),(p+1,()))))=some (sc,(st ++ [],((v0,v1,v2,v3,v4,v5,v6,a,(),()),(p+1,()))))
    rw [List.append_nil]
theorem op_8 (N:Nat) (hN:2000 < N) (num:Int) (sc:SceneT) (hb:bufG sc.1=true) (hf:0≤sc.2.1∧sc.2.1≤5000) (hbe:0≤sc.2.2.1∧sc.2.2.1≤1000000000) (st:List Int) (hst:st.length≤100) (v:List Int) (hv:v.length=8) (p:Int) (hp:0≤p∧p≤2000) (a:Int) (ha:-1000000000≤a∧a≤1000000000):zAP N (sc,(st ++ [a],(tupN v,(p,())))) (8,(num,()))=some ((evG (8,(num,())) sc v a 0 (p+1)).sc,(st ++ (evG (8,(num,())) sc v a 0 (p+1)).put,(tupN (evG (8,(num,())) sc v a 0 (p+1)).v,((evG (8,(num,())) sc v a 0 (p+1)).at',())))):=by
  have hpa:pAdd .i64 p 1=p+1:=pAdd_i (by omega) (by omega)
  have e:zAP N (sc,(st ++ [a],(tupN v,(p,())))) (8,(num,()))=bindO (zB6 N (sc,(st ++ [a],(tupN v,(pAdd .i64 p 1,()))))) fun y=>bindO (zCJ N y.2.1 y.1) fun y1=>bindO (zAD N (y1.2,y.2.2) y1.1) fun y2=>some y2:=rfl
  rw [e,pop_eq N sc st a _ _ (by omega),bindO_s]
  simp only []
  rw [at_eq N sc a hb,bindO_s,push_eq N _ _ (by show st.length≤1000;omega),bindO_s,hpa]
  rfl
theorem op_9 (N:Nat) (hN:2000 < N) (num:Int) (sc:SceneT) (hb:bufG sc.1=true) (hf:0≤sc.2.1∧sc.2.1≤5000) (hbe:0≤sc.2.2.1∧sc.2.2.1≤1000000000) (st:List Int) (hst:st.length≤100) (v:List Int) (hv:v.length=8) (p:Int) (hp:0≤p∧p≤2000) (a:Int) (ha:-1000000000≤a∧a≤1000000000):zAP N (sc,(st ++ [a],(tupN v,(p,())))) (9,(num,()))=some ((evG (9,(num,())) sc v a 0 (p+1)).sc,(st ++ (evG (9,(num,())) sc v a 0 (p+1)).put,(tupN (evG (9,(num,())) sc v a 0 (p+1)).v,((evG (9,(num,())) sc v a 0 (p+1)).at',())))):=by
  have hpa:pAdd .i64 p 1=p+1:=pAdd_i (by omega) (by omega)
  have e:zAP N (sc,(st ++ [a],(tupN v,(p,())))) (9,(num,()))=bindO (zB6 N (sc,(st ++ [a],(tupN v,(pAdd .i64 p 1,()))))) fun y=>bindO (zDG N (pEq y.1 0)) fun y1=>bindO (zAD N y.2 y1) fun y2=>some y2:=rfl
  rw [e,pop_eq N sc st a _ _ (by omega),bindO_s]
  simp only []
  rw [one_eq,bindO_s,push_eq N _ _ (by show st.length≤1000;omega),bindO_s,hpa,pEq_d]
  have e2:(if decide (a=0)=true then (1:Int) else 0)=if a=0 then 1 else 0:=by by_cases h:a=0 <;> simp [h]
  rw [e2]
  rfl
end Go.AE.F
