/- Plain laws of those functions. -/
import Derived.Test.YtkknmokglbhheaaGreatLMachineP16
namespace Go.AE.F
open Go.AE
theorem takesN (k:Int):∃ t:Nat,(takesG k).1=(t:Int):=⟨(takesG k).1.toNat,by have:=takes_bd k;omega⟩
theorem limit_f {f m:Int} (hf:0≤f∧f≤5000):pMul .i64 40 (pAdd .i64 f 1)=40 * (f+1):=by
  rw [pAdd_i (by omega) (by omega)]
  exact wrap_i64 (by omega) (by omega)
theorem sx_end {R:Type} (N:Nat) (ops:List OpT) (f m k:Int) (b0:BufT) (v0:SceneT) (v:List Int) (sc:SceneT) (st:List Int) (kn:LoopT→Option R) (kx:LoopX→Option R) (h:pLt k (pLen ops)=false) :
    zAX.l5 N (ops,f,m,k,b0,v0,([],([],(v,sc))),st,()) kn kx=kx (m,b0,v0,([],([],(v,sc))),()):=by
  unfold zAX.l5
  simp only [h,ifB_f,bindO_s]
theorem sx_code {R:Type} (N:Nat) (ops:List OpT) (f m k:Int) (b0:BufT) (v0:SceneT) (v:List Int) (sc:SceneT) (st:List Int) (kn:LoopT→Option R) (kx:LoopX→Option R) (h:pEq sc.2.2.2.1 0=false) :
    zAX.l5 N (ops,f,m,k,b0,v0,([],([],(v,sc))),st,()) kn kx=kx (m,b0,v0,([],([],(v,sc))),()):=by
  cases h1:pLt k (pLen ops) with
  | false=>exact sx_end N ops f m k b0 v0 v sc st kn kx h1
  | true =>
    unfold zAX.l5
    simp only [h1,h,ifB_t,ifB_f,bindO_s]
theorem sx_lim {R:Type} (N:Nat) (ops:List OpT) (f m k:Int) (b0:BufT) (v0:SceneT) (v:List Int) (sc:SceneT) (st:List Int) (kn:LoopT→Option R) (kx:LoopX→Option R) (h1:pLt k (pLen ops)=true) (h0:sc.2.2.2.1=0) (hm:pEq m (pMul .i64 40 (pAdd .i64 f 1))=true) :
    zAX.l5 N (ops,f,m,k,b0,v0,([],([],(v,sc))),st,()) kn kx=kx (m,b0,v0,([],([],(v,failS sc 6))),()):=by
  have h2:pEq sc.2.2.2.1 0=true:=pEq_t h0
  have c1:=sfail_eq N [] [] v sc 6 h0
  unfold zAX.l5
  simp only [h1,h2,hm,c1,ifB_t,bindO_s]
def Ends {R1 R2:Type} (N:Nat) (ops:List OpT) (f:Int) (b0:BufT) (vi:SceneT) (vs:SceneT) (n1 n2:Nat) (m:Int) (k:Nat) (st:List Int) (v:List Int) (sc:SceneT) (K1:Int×BufT×SceneT×MachT×Unit→Option R1) (K2:LoopX→Option R2):Prop :=
  ∃ (m1 m2:Int) (M:MachT) (r:SceneT) (v':List Int),
    loopP (zBJ.l4 N) n1 (ops,f,m,b0,vi,(sc,(st,(tupN v,((k:Int),())))),()) K1=K1 (m1,b0,vi,M,()) ∧
    loopP (zAX.l5 N) n2 (ops,f,m,(k:Int),b0,vs,([],([],(v,sc))),st,()) K2=K2 (m2,b0,vs,([],([],(v',r))),()) ∧
    r.2.2.2.1=M.1.2.2.2.1∧(M.1.2.2.2.1=0→r=M.1∧m1=m2∧SInv M.1∧m≤m1∧m1≤40 * (f+1)∧M.1.2.1≤sc.2.1)
theorem took_left (sc:SceneT) (o:OutT):(tookS sc o).2.1=sc.2.1:=by unfold tookS;split <;> rfl
theorem ev_ite {c:Prop} [Decidable c] {x y:EvT} {L:Int} (h1:x.sc.2.1≤L) (h2:y.sc.2.1≤L):(if c then x else y).sc.2.1≤L:=by split <;> assumption
theorem ev_left (o:OpT) (sc:SceneT) (v:List Int) (a b k:Int):(evG o sc v a b k).sc.2.1≤sc.2.1:=by
  have t1:(tickG sc).2.1≤sc.2.1:=by unfold tickG;split <;> first | exact Int.le_refl _ | (show sc.2.1 - 1≤sc.2.1;omega)
  have t2:(atS sc a).2.2.1≤sc.2.1:=by unfold atS;split <;> exact Int.le_refl _
  have t3:(twoS sc o.2.1 a b).2.2.1≤sc.2.1:=by
    unfold twoS
    cases twoV o.2.1 a b with
    | none=>exact Int.le_refl _
    | some w=>show (resS sc w).2.2.1≤_;unfold resS;simp only [];split <;> exact Int.le_refl _
  have t4:(insS sc a).2.1≤sc.2.1:=by unfold insS;split <;> first | exact Int.le_refl _ | (rw [took_left];exact Int.le_refl _)
  have t5:(tookS sc (replG sc.1 a b [])).2.1≤sc.2.1:=by rw [took_left];exact Int.le_refl _
  have t6:(goS sc a).2.1≤sc.2.1:=by unfold goS;split <;> exact Int.le_refl _
  have t7:(markS sc a).2.1≤sc.2.1:=by unfold markS;split <;> exact Int.le_refl _
  have r:=Int.le_refl sc.2.1
  unfold evG
  exact ev_ite t1 (ev_ite r (ev_ite r (ev_ite r (ev_ite r (ev_ite r (ev_ite r (ev_ite t2 (ev_ite r (ev_ite t3 (ev_ite r (ev_ite r (ev_ite t4 (ev_ite t5 (ev_ite t6 (ev_ite t7 (ev_ite r r))))))))))))))))
theorem run_both {R1 R2:Type} (N:Nat) (hN:2000 < N) (ops:List OpT) (hl:ops.length≤1500) (hop:opsG ops=true) (out:List Int) (hol:out.length=ops.length+1) (hgd:∀ k,k < ops.length→GoodAt ops out k) (f:Int) (hf:0≤f∧f≤5000) (b0:BufT) (vi vs:SceneT) (K1:Int×BufT×SceneT×MachT×Unit→Option R1) (K2:LoopX→Option R2) :
    ∀ (r n1 n2:Nat) (m:Nat) (k:Nat) (st v:List Int) (sc:SceneT),40 * (f+1) - (m:Int)=(r:Int)→r+1 < n1→r+1 < n2→k≤ops.length→SInv sc→sc.2.2.2.1=0→sc.2.2.1≤(m:Int)→v.length=8→(∀ x∈v,Bd x)→(∀ x∈st,Bd x)→st.length≤24→out[k]?=some (st.length:Int) →
      Ends N ops f b0 vi vs n1 n2 (m:Int) k st v sc K1 K2:=by
  intro r
  induction r with
  | zero =>
    intro n1 n2 m k st v sc hr h1 h2 hk hs h0 hb hv hvb hsb hst hd
    obtain ⟨n1,rfl⟩:=succ_of h1
    obtain ⟨n2,rfl⟩:=succ_of h2
    have hm:(m:Int)=40 * (f+1):=by omega
    unfold Ends
    by_cases hkl:k < ops.length
    · refine ⟨(m:Int),(m:Int),(failS sc 6,(st,(tupN v,((k:Int),())))),failS sc 6,v,?_,?_,rfl,fun h=>by exfalso;have:(6:Int)=0:=h;omega⟩
      · rw [loopP_s];unfold zBJ.l4;simp only []
        unfold zBE
        rw [pEq_t h0,ifB_t,bindO_s,pLen_d,pLt_t (by omega),ifB_t,limit_f (m:=0) hf,pEq_t hm,ifB_t]
        rfl
      · rw [loopP_s,sx_lim _ _ _ _ _ _ _ _ _ _ _ _ (by rw [pLen_d];exact pLt_t (by omega)) h0 (by rw [limit_f (m:=0) hf];exact pEq_t hm)]
    · refine ⟨(m:Int),(m:Int),(sc,(st,(tupN v,((k:Int),())))),sc,v,?_,?_,rfl,fun _=>⟨rfl,rfl,hs,Int.le_refl _,by omega,Int.le_refl _⟩⟩
      · rw [loopP_s];unfold zBJ.l4;simp only []
        unfold zBE
        rw [pEq_t h0,ifB_t,bindO_s,pLen_d,pLt_f (by omega),ifB_f]
      · rw [loopP_s,sx_end _ _ _ _ _ _ _ _ _ _ _ _ (by rw [pLen_d];exact pLt_f (by omega))]
  | succ r ih =>
    intro n1 n2 m k st v sc hr h1 h2 hk hs h0 hb hv hvb hsb hst hd
    obtain ⟨n1,rfl⟩:=succ_of h1
    obtain ⟨n2,rfl⟩:=succ_of h2
    have hm:(m:Int)≠40 * (f+1):=by omega
    by_cases hkl:k < ops.length
    · have ho:opG ops[k] ops.length=true:=List.all_eq_true.1 hop _ (List.getElem_mem hkl)
      obtain ⟨g1,g2,g3⟩:=hgd k hkl hkl (st.length:Int) hd (by omega)
      obtain ⟨t,ht⟩:=takesN ops[k].1
      obtain ⟨_,_,p0,p1⟩:=takes_bd ops[k].1
      have hsp:st.take (st.length - t) ++ st.drop (st.length - t)=st:=List.take_append_drop _ _
      have hg:((st.drop (st.length - t)).length:Int)=(takesG ops[k].1).1:=by rw [List.length_drop,ht];omega
      have hgb:∀ x∈st.drop (st.length - t),Bd x:=fun x hx=>hsb x (List.mem_of_mem_drop hx)
      have hs0:(st.take (st.length - t)).length=st.length - t:=by rw [List.length_take];omega
      generalize hst0:st.take (st.length - t)=st0 at hsp hs0
      generalize hgg:st.drop (st.length - t)=g at hsp hg hgb
      have hlim:pEq (m:Int) (pMul .i64 40 (pAdd .i64 f 1))=false:=by rw [limit_f (m:=0) hf];exact pEq_f hm
      have hop1:=op_all N hN ho sc hs (by omega) st0 g (by omega) hg hgb v hv (k:Int) (by omega)
      have hss:=ss_all (R:=R2) N hN ops hl f (m:Int) (by omega) hlim k hkl ho b0 vs v hv sc hs h0 (by omega) st0 g (by omega) hg hgb (fun d'=>loopP (zAX.l5 N) n2 d' K2) K2
      have hlf:=ev_left ops[k] sc v ((g[0]?).getD 0) ((g[1]?).getD 0) ((k:Int)+1)
      have hev:=ev_ok ho hs h0 hv hvb (a:=(g[0]?).getD 0) (b:=(g[1]?).getD 0) (get_bd hgb 0) (get_bd hgb 1) (k:Int)
      generalize evG ops[k] sc v ((g[0]?).getD 0) ((g[1]?).getD 0) ((k:Int)+1)=e at hop1 hss hev hlf
      obtain ⟨sc',put',hs1,hs2,hs3⟩:=hss
      have hat:=next_in hop hkl (L:=ops.length+1) rfl _ hev.go
      obtain ⟨k',hk'⟩:∃ k':Nat,e.at'=(k':Int):=⟨e.at'.toNat,by omega⟩
      have hm1:pAdd .i64 (m:Int) 1=((m+1:Nat):Int):=by rw [pAdd_i (by omega) (by omega)];rfl
      have himp:loopP (zBJ.l4 N) (n1+1) (ops,f,(m:Int),b0,vi,(sc,(st,(tupN v,((k:Int),())))),()) K1=loopP (zBJ.l4 N) n1 (ops,f,((m+1:Nat):Int),b0,vi,(e.sc,(st0 ++ e.put,(tupN e.v,((k':Int),())))),()) K1:=by
        rw [loopP_s];unfold zBJ.l4;simp only []
        unfold zBE
        rw [pEq_t h0,ifB_t,bindO_s,pLen_d,pLt_t (by omega),ifB_t,hlim,ifB_f,idx_lt hkl,bindO_s,← hsp,hop1,bindO_s,hm1,hk']
      have hspc:loopP (zAX.l5 N) (n2+1) (ops,f,(m:Int),(k:Int),b0,vs,([],([],(v,sc))),st,()) K2=loopP (zAX.l5 N) n2 (ops,f,((m+1:Nat):Int),(k':Int),b0,vs,([],([],(e.v,sc'))),st0 ++ put',()) K2:=by
        rw [loopP_s,← hsp,hs1,hk']
        rfl
      unfold Ends
      rw [himp,hspc]
      by_cases hc:e.sc.2.2.2.1=0
      · obtain ⟨e1,e2⟩:=hs3 hc
        subst e1 e2
        obtain ⟨i1,i2,i3,i4⟩:=hev.inv hc
        refine (fun ⟨m1,m2,M,r,v',q1,q2,q3,q4⟩=>⟨m1,m2,M,r,v',q1,q2,q3,fun h=>by
          obtain ⟨w1,w2,w3,w4,w5,w6⟩:=q4 h
          exact ⟨w1,w2,w3,by omega,w5,by omega⟩⟩:Ends N ops f b0 vi vs n1 n2 ((m+1:Nat):Int) k' (st0 ++ e.put) e.v e.sc K1 K2→_) ?_
        refine ih n1 n2 (m+1) k' (st0 ++ e.put) e.v e.sc (by omega) (by omega) (by omega) (by omega) i1 hc (by omega) hev.len i3 (fun x hx=>?_) ?_ ?_
        · rw [List.mem_append] at hx
          rcases hx with hx | hx
          · rw [← hst0] at hx;exact hsb x (List.mem_of_mem_take hx)
          · exact i4 x hx
        · have:=hev.put
          rw [List.length_append];omega
        · have h3:=g3 _ hev.go
          rw [hk',Int.toNat_natCast] at h3
          rw [h3]
          have:=hev.put
          rw [List.length_append]
          congr 1
          omega
      · obtain ⟨n1,rfl⟩:=succ_of (show 0 < n1 by omega)
        obtain ⟨n2,rfl⟩:=succ_of (show 0 < n2 by omega)
        refine ⟨((m+1:Nat):Int),((m+1:Nat):Int),(e.sc,(st0 ++ e.put,(tupN e.v,((k':Int),())))),sc',e.v,?_,?_,hs2,fun h=>absurd h hc⟩
        · rw [loopP_s];unfold zBJ.l4;simp only []
          rw [pEq_f hc,ifB_f]
        · rw [loopP_s,sx_code _ _ _ _ _ _ _ _ _ _ _ _ (pEq_f (by rw [hs2];exact hc))]
    · unfold Ends
      refine ⟨(m:Int),(m:Int),(sc,(st,(tupN v,((k:Int),())))),sc,v,?_,?_,rfl,fun _=>⟨rfl,rfl,hs,Int.le_refl _,by omega,Int.le_refl _⟩⟩
      · rw [loopP_s];unfold zBJ.l4;simp only []
        unfold zBE
        rw [pEq_t h0,ifB_t,bindO_s,pLen_d,pLt_f (by omega),ifB_f]
      · rw [loopP_s,sx_end _ _ _ _ _ _ _ _ _ _ _ _ (by rw [pLen_d];exact pLt_f (by omega))]
theorem cp2 (N:Nat) (b:BufT) (h:b.1.length≤68719476736):zCG N b=some b:=by
  unfold zCG;rw [copy_eq N _ h,bindO_s]
abbrev RanT:=BufT×Int×Int×Int×Unit
theorem play_run (N:Nat) (hN:1000000 < N) (ops:List OpT) (b:BufT) (f:Int) (hr:zAV N ops=some true) (hb:bufG b=true) (hf:0≤f∧f≤5000) :
    ∃ (rn:RanT) (s1 s2:Int),zBJ N ops b f=some (rn,s1)∧zAX N ops b f=some (rn,s2)∧(rn.2.2.2.1=0→s1=s2)∧(rn.2.2.2.1≠0→s2=-1)∧rn.1.1.length≤300 ∧
      (rn.2.2.2.1=0→bufG rn.1=true∧0≤s1∧s1≤40 * (f+1)∧rn.2.1≤f)∧(rn.2.2.2.1≠0→rn.1=b):=by
  obtain ⟨hl,hop,out,hol,hrng,ho0,hgd⟩:=right_closed N (by omega) ops hr
  have hbl:=ptsG_len (bufG_iff.1 hb).1
  obtain ⟨bb,r1,r2⟩:=right_both N ops (by omega)
  rw [hr] at r1
  have hbb:bb=true:=(Option.some.inj r1).symm
  subst hbb
  obtain ⟨R,hR⟩:∃ R:Nat,40 * (f+1)=(R:Int):=⟨(40 * (f+1)).toNat,by omega⟩
  have key:=run_both (R1:=RanT×Int) (R2:=RanT×Int) N (by omega) ops hl hop out hol hgd f hf b (([],(0,(0,()))),(0,(0,(0,())))) (([],(0,(0,()))),(0,(0,(0,())))) (fun d =>
      let x48:=d.1;
      let x49:=d.2.1;
      let x50:=d.2.2.1;
      let x51:=d.2.2.2.1;
      bindO (zCF N x51.1 x49) fun y52 =>
      some (y52,x48)) (fun d =>
          let x151:=d.1;
          let x152:=d.2.1;
          let x153:=d.2.2.1;
          let x154:=d.2.2.2.1;
          ifB (pNe x154.2.2.2.2.2.2.1 0) (
            bindO (zCG N x152) fun y155 =>
            some ((y155,(0,(0,(x154.2.2.2.2.2.2.1,())))),(-1))) (
            some ((x154.2.2.2.1,(x154.2.2.2.2.1,(x154.2.2.2.2.2.1,(0,())))),x151))) R N N 0 0 [] (List.replicate 8 0) (b,(f,(0,(0,())))) (by rw [hR];omega) (by omega) (by omega) (by omega) ⟨hb,hf.1,hf.2,by show (0:Int)≤0;omega⟩ rfl (by show (0:Int)≤((0:Nat):Int);omega) (by simp) (fun x hx=>by have:=(List.mem_replicate.1 hx).2;rw [this];exact ⟨by decide,by decide⟩) (fun x hx=>by cases hx) (by simp) (by rw [ho0];rfl)
  obtain ⟨m1,m2,M,r,v',e1,e2,e3,e4⟩:=key
  have himp:zBJ N ops b f=bindO (zCF N M.1 b) fun y52=>some (y52,m1):=by
    unfold zBJ
    rw [r2,bindO_s,show pNot true=false from rfl,ifB_f,impl_BufRight_eq N b (by omega) (by omega),hb,bindO_s,show pNot true=false from rfl,bindO_s,ifB_f,impl_within_eq,bindO_s,decide_eq_true hf.1,decide_eq_true hf.2,show pNot (true && true)=false from rfl,bindO_s,ifB_f]
    unfold zCL
    rw [clone_eq N b.1 (by omega),bindO_s,bindO_s]
    exact e1
  have hspc:zAX N ops b f=ifB (pNe r.2.2.2.1 0) (some ((b,(0,(0,(r.2.2.2.1,())))),(-1))) (some ((r.1,(r.2.1,(r.2.2.1,(0,())))),m2)):=by
    unfold zAX
    rw [show pEq 8 8=true from rfl,ifB_t,show pLe 0 8=true from rfl,ifB_t,show pLe 8 68719476736=true from rfl,ifB_t]
    rw [cp2 N b (by omega),bindO_s]
    refine Eq.trans e2 ?_
    show ifB (pNe r.2.2.2.1 0) (bindO (zCG N b) fun y155=>some ((y155,(0,(0,(r.2.2.2.1,())))),(-1))) (some ((r.1,(r.2.1,(r.2.2.1,(0,())))),m2))=_
    rw [cp2 N b (by omega),bindO_s]
  rw [himp,hspc]
  by_cases hc:M.1.2.2.2.1=0
  · obtain ⟨q1,q2,q3,q4,q5,q6⟩:=e4 hc
    subst q1 q2
    have hml:=ptsG_len (bufG_iff.1 q3.1).1
    refine ⟨(M.1.1,(M.1.2.1,(M.1.2.2.1,(0,())))),m1,m1,?_,?_,fun _=>rfl,fun h=>absurd rfl h,hml,fun _=>⟨q3.1,by omega,q5,q6⟩,fun h=>absurd rfl h⟩
    · unfold zCF zCL
      rw [pNe_f hc,ifB_f,clone_eq N _ (by omega),bindO_s,bindO_s,bindO_s]
    · rw [pNe_f hc,ifB_f]
  · refine ⟨(b,(0,(0,(M.1.2.2.2.1,())))),m1,-1,?_,?_,fun h=>absurd h hc,fun _=>rfl,hbl,fun h=>absurd h hc,fun _=>rfl⟩
    · unfold zCF zCL
      rw [pNe_t hc,ifB_t,clone_eq N _ (by omega),bindO_s,bindO_s,bindO_s]
    · have hc2:r.2.2.2.1≠0:=by rw [e3];exact hc
      rw [pNe_t hc2,ifB_t,e3]
def failR (c:Int):RanT:=(([],(0,(0,()))),(0,(0,(c,()))))
theorem machine_both (N:Nat) (hN:1000000 < N) (ops:List OpT) (b:BufT) (f:Int) (hbl:b.1.length < N) (hbb:b.1.length≤9223372036854775806) :
    ∃ rn:RanT,zCC N ops b f=some rn∧zC2 N ops b f=some rn∧rn.1.1.length≤300:=by
  unfold zCC zC2
  rw [pLen_d]
  by_cases hl:1500 < ops.length
  · rw [pGt_t (by omega),ifB_t,ifB_t]
    exact ⟨failR 2,rfl,rfl,by simp [failR]⟩
  rw [pGt_f (by omega),ifB_f,ifB_f]
  obtain ⟨q,r1,r2⟩:=right_both N ops (by omega)
  by_cases hgood:q=true∧bufG b=true∧0≤f∧f≤5000
  · obtain ⟨hq,hb,hf⟩:=hgood
    subst hq
    obtain ⟨rn,s1,s2,p1,p2,_,_,p5,_⟩:=play_run N hN ops b f r1 hb hf
    refine ⟨rn,?_,by rw [p1,bindO_s],p5⟩
    rw [r1,bindO_s,show pNot true=false from rfl,ifB_f,spec_BufRight_eq N b (by omega),hb,bindO_s,show pNot true=false from rfl,bindO_s,ifB_f,pLt_f (by omega),bindO_s,ifB_f,pGt_f (by omega),bindO_s,ifB_f,p2,bindO_s]
  · refine ⟨failR 1,?_,?_,by simp [failR]⟩
    · rw [r1,bindO_s,spec_BufRight_eq N b (by omega),bindO_s,ifB_or,bindO_s,ifB_or,bindO_s,ifB_or,bindO_s]
      have:(((pNot q || pNot (bufG b)) || pLt f 0) || pGt f 5000)=true:=by
        refine Classical.byContradiction fun h=>hgood ?_
        simp only [Bool.not_eq_true,Bool.or_eq_false_iff,pNot_d,pLt_d,pGt_d,Bool.not_eq_false',decide_eq_false_iff_not] at h
        exact ⟨h.1.1.1,h.1.1.2,by omega,by omega⟩
      rw [this];rfl
    · unfold zBJ
      rw [r2,bindO_s,impl_BufRight_eq N b hbl hbb,bindO_s,ifB_or,bindO_s,impl_within_eq,bindO_s,ifB_or,bindO_s]
      have:((pNot q || pNot (bufG b)) || pNot (decide (0≤f) && decide (f≤5000)))=true:=by
        refine Classical.byContradiction fun h=>hgood ?_
        simp only [Bool.not_eq_true,Bool.or_eq_false_iff,pNot_d,Bool.not_eq_false',Bool.and_eq_true,decide_eq_true_eq] at h
        exact ⟨h.1.1,h.1.2,h.2.1,h.2.2⟩
      rw [this];rfl
end Go.AE.F
namespace Go.AE.F
open Go.AE
theorem steps_both (N:Nat) (hN:1000000 < N) (ops:List OpT) (b:BufT) (f:Int) (hbl:b.1.length < N) (hbb:b.1.length≤9223372036854775806) :
    ∃ r:Int,zDH N ops b f=some r∧zBX N ops b f=some r:=by
  unfold zDH zBX
  rw [pLen_d]
  by_cases hl:1500 < ops.length
  · rw [pGt_t (by omega),ifB_t,ifB_t]
    exact ⟨0,rfl,rfl⟩
  rw [pGt_f (by omega),ifB_f,ifB_f]
  obtain ⟨q,r1,r2⟩:=right_both N ops (by omega)
  by_cases hgood:q=true∧bufG b=true∧0≤f∧f≤5000
  · obtain ⟨hq,hb,hf⟩:=hgood
    subst hq
    obtain ⟨rn,s1,s2,p1,p2,p3,p4,_⟩:=play_run N hN ops b f r1 hb hf
    refine ⟨s2,?_,?_⟩
    · rw [r1,bindO_s,show pNot true=false from rfl,ifB_f,spec_BufRight_eq N b (by omega),hb,bindO_s,show pNot true=false from rfl,bindO_s,ifB_f,pLt_f (by omega),bindO_s,ifB_f,pGt_f (by omega),bindO_s,ifB_f,p2,bindO_s]
    · rw [p1,bindO_s]
      by_cases hc:rn.2.2.2.1=0
      · rw [pNe_f hc,ifB_f,p3 hc]
      · rw [pNe_t hc,ifB_t,p4 hc]
  · refine ⟨-1,?_,?_⟩
    · rw [r1,bindO_s,spec_BufRight_eq N b (by omega),bindO_s,ifB_or,bindO_s,ifB_or,bindO_s,ifB_or,bindO_s]
      have:(((pNot q || pNot (bufG b)) || pLt f 0) || pGt f 5000)=true:=by
        refine Classical.byContradiction fun h=>hgood ?_
        simp only [Bool.not_eq_true,Bool.or_eq_false_iff,pNot_d,pLt_d,pGt_d,Bool.not_eq_false',decide_eq_false_iff_not] at h
        exact ⟨h.1.1.1,h.1.1.2,by omega,by omega⟩
      rw [this,ifB_t]
    · have hp:zBJ N ops b f=some (failR 1,0):=by
        unfold zBJ
        rw [r2,bindO_s,impl_BufRight_eq N b hbl hbb,bindO_s,ifB_or,bindO_s,impl_within_eq,bindO_s,ifB_or,bindO_s]
        have:((pNot q || pNot (bufG b)) || pNot (decide (0≤f) && decide (f≤5000)))=true:=by
          refine Classical.byContradiction fun h=>hgood ?_
          simp only [Bool.not_eq_true,Bool.or_eq_false_iff,pNot_d,Bool.not_eq_false',Bool.and_eq_true,decide_eq_true_eq] at h
          exact ⟨h.1.1,h.1.2,h.2.1,h.2.2⟩
        rw [this];rfl
      rw [hp,bindO_s];rfl
end Go.AE.F
