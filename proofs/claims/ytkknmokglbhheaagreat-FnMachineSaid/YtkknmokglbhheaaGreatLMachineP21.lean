/- Plain laws of those functions. -/
import Derived.Test.YtkknmokglbhheaaGreatLMachineP20
namespace Go.AE.F
open Go.AE
theorem l23_tot (N:Nat) (hN:100 < N) (l:List NodeT) (hl:l.length≤100) (s:SrcT) (hs:srcOk s) (c:Int) (hc:0≤c∧c≤50) {R:Type} {Q:R→Prop} (k:SrcT×List NodeT×Unit→Option R) (hk:∀ s l,srcOk s→l.length≤200→Tot Q (k (s,l,()))) :
    Tot Q (loopP (zA3.l23 N) N (c,s,l,()) k):=by
  refine loop_tot (fun m d=>∃ i:Nat,d.1=(i:Int)∧srcOk d.2.1∧i≤m∧d.2.2.1.length+i≤200) (fun e=>srcOk e.1∧e.2.1.length≤200) (fun e he=>hk e.1 e.2.1 he.1 he.2) ?_ N 50 _ (by omega) ⟨c.toNat,by show c=_;omega,hs,by omega,by show l.length+_≤200;omega⟩
  intro m d kn kx ⟨i,h1,h2,h3,h4⟩ hn hx
  unfold zA3.l23
  simp only [h1]
  refine Tot.ite (fun h=>?_) (fun _=>hx _ ⟨h2,by show d.2.2.1.length≤200;omega⟩)
  have hlt:0 < i:=by rw [pGt_d] at h;have:=of_decide_eq_true h;omega
  refine Tot.fit (by simp;omega) ?_
  exact hn (m - 1) _ (by omega) ⟨i - 1,by show pSub .i64 (i:Int) 1=_;rw [pSub_i (by omega) (by omega)];omega,h2,by omega,by simp [pApp];omega⟩
theorem l17_tot (N:Nat) (hN:300 < N) (K:Int) (hK:0≤K∧K≤210) (s:SrcT) (hs:srcOk s) {R:Type} {Q:R→Prop} (k:SrcT×List NodeT×Unit→Option R) (hk:∀ s l,srcOk s→1≤l.length→l.length≤20000→Tot Q (k (s,l,()))) :
    Tot Q (loopP (zA3.l17 N) N (0,s,[((1:Int),((0:Int),(ByteArray.mk #[],(K,()))))],()) k):=by
  refine loop_tot (fun m d=>∃ (i:Nat) (h:NodeT) (t:List NodeT),d.1=(i:Int)∧srcOk d.2.1∧d.2.2.1=h::t∧h.2.2.2.1=K∧K≤(m:Int)+i∧t.length≤300∧(t.length:Int)≤i∧i≤211) (fun e=>srcOk e.1∧1≤e.2.1.length∧e.2.1.length≤20000) (fun e he=>hk e.1 e.2.1 he.1 he.2.1 he.2.2) ?_ N 210 _ (by omega) ⟨0,_,[],rfl,hs,rfl,rfl,by omega,by simp,by simp,by omega⟩
  intro m d kn kx ⟨i,h,t,h1,h2,h3,h4,h5,h6,h7,h8⟩ hn hx
  unfold zA3.l17
  simp only [h1,h3]
  have i0:idx (h::t) 0=some h:=rfl
  rw [i0,bindO_s,bindO_s,h4]
  refine Tot.ite (fun hh=>?_) (fun _=>hx _ ⟨h2,by simp,by simp;omega⟩)
  have hlt:(i:Int) < K:=by rw [pLt_d] at hh;exact of_decide_eq_true hh
  refine Tot.fit (by simp;omega) ?_
  refine hn (m - 1) _ (by omega) ⟨i+1,h,t ++ [_],?_,h2,rfl,h4,by omega,by simp;omega,by simp;omega,by omega⟩
  show pAdd .i64 (i:Int) 1=_
  rw [pAdd_i (by omega) (by omega)];rfl
theorem ntail2 (N : Nat) (hN : 300 < N) (l : List NodeT) (s : SrcT) (hs : srcOk s) (hl : 1 ≤ l.length) (hl2 : l.length ≤ 21000) : Tot (NL 0 21000) (
          bindO (zAI N s 40) fun y153 =>
          ifB y153.1 (
            bindO (zA9 N y153.2 4) fun y154 =>
            loopP (zA3.l23 N) N ((pAdd Go.IntKind.i64 y154.1 15),y154.2,[(1,(0,((ByteArray.mk #[]),(1,())))),(7,(0,((ByteArray.mk #[]),(1,()))))],()) (
              fun d =>
              let x132:=d.1;
              let x133:=d.2.1;
              ifB (pFit x133 [(13,(0,((ByteArray.mk #[]),(0,()))))]) (
                some ((pApp x133 [(13,(0,((ByteArray.mk #[]),(0,()))))]),x132)) (
                none))) (
            some (l,y153.2))):=by
  refine Tot.bind (oneT N s 40 hs (by omega)) fun o ho=>?_
  refine Tot.both ?_ (Tot.ret ⟨ho,by omega,hl2⟩)
  refine Tot.bind (nT N _ 4 ho (by omega)) fun q hq=>?_
  have h2:=hq.2.2.2 (by omega)
  have h1:=hq.2.1
  rw [pAdd_i (by omega) (by omega)]
  refine l23_tot N (by omega) _ (by simp) q.2 hq.1 _ (by omega) _ (fun s' l' hs' hl'=>?_)
  exact Tot.fit (by simp;omega) (Tot.ret ⟨hs',by simp [pApp],by simp [pApp];omega⟩)
theorem ntail1 (N : Nat) (hN : 300 < N) (l : List NodeT) (s : SrcT) (hs : srcOk s) (hl : 1 ≤ l.length) (hl2 : l.length ≤ 21000) : Tot (NL 0 21000) (
      bindO (zAI N s 40) fun y111 =>
      ifB y111.1 (
        bindO (zA9 N y111.2 3) fun y112 =>
        loopP (zA3.l17 N) N (0,y112.2,[(1,(0,((ByteArray.mk #[]),((pAdd Go.IntKind.i64 198 y112.1),()))))],()) (
          fun d =>
          let x118:=d.1;
          let x119:=d.2.1;
          bindO (zAI N x118 40) fun y120 =>
          ifB y120.1 (
            bindO (zA9 N y120.2 4) fun y121 =>
            loopP (zA3.l23 N) N ((pAdd Go.IntKind.i64 y121.1 15),y121.2,[(1,(0,((ByteArray.mk #[]),(1,())))),(7,(0,((ByteArray.mk #[]),(1,()))))],()) (
              fun d =>
              let x125:=d.1;
              let x126:=d.2.1;
              ifB (pFit x126 [(13,(0,((ByteArray.mk #[]),(0,()))))]) (
                some ((pApp x126 [(13,(0,((ByteArray.mk #[]),(0,()))))]),x125)) (
                none))) (
            some (x119,y120.2)))) (
        bindO (zAI N y111.2 40) fun y127 =>
        ifB y127.1 (
          bindO (zA9 N y127.2 4) fun y128 =>
          loopP (zA3.l23 N) N ((pAdd Go.IntKind.i64 y128.1 15),y128.2,[(1,(0,((ByteArray.mk #[]),(1,())))),(7,(0,((ByteArray.mk #[]),(1,()))))],()) (
            fun d =>
            let x132:=d.1;
            let x133:=d.2.1;
            ifB (pFit x133 [(13,(0,((ByteArray.mk #[]),(0,()))))]) (
              some ((pApp x133 [(13,(0,((ByteArray.mk #[]),(0,()))))]),x132)) (
              none))) (
          some (l,y127.2)))):=by
  refine Tot.bind (oneT N s 40 hs (by omega)) fun o ho=>?_
  refine Tot.both ?_ (ntail2 N hN l o.2 ho hl hl2)
  refine Tot.bind (nT N _ 3 ho (by omega)) fun q hq=>?_
  have h2:=hq.2.2.2 (by omega)
  have h1:=hq.2.1
  rw [pAdd_i (by omega) (by omega)]
  exact l17_tot N hN _ (by omega) q.2 hq.1 _ (fun s' l' hs' h1' hl'=>ntail2 N hN l' s' hs' h1' (by omega))
theorem nodes_tot (N:Nat) (hN:300 < N) (s:SrcT) (hs:srcOk s):Tot (NL 0 21000) (zA3 N s):=by
  unfold zA3
  refine Tot.bind (block3 N s (by omega) hs) fun b ⟨b1,b2,b3⟩=>?_
  refine Tot.bind (oneT N _ 12 b1 (by omega)) fun o ho=>?_
  refine Tot.both ?_ (ntail1 N hN b.1 o.2 ho b2 (by omega))
  have eb:=pLen_d (xs:=b.1)
  refine Tot.bind (nT N _ (pLen b.1) ho (by rw [pLen_d];omega)) fun k hk=>?_
  rw [pLen_d] at hk
  have hk1:=hk.2.1
  have hk2:k.1 < (b.1.length:Int):=by
    by_cases h:(1:Int) < b.1.length
    · exact hk.2.2.2 h
    · have:=hk.2.2.1 (by omega);omega
  have ix:=idxT b.1 k.1 hk1 hk2
  have hset:∀ x:NodeT,(pSet b.1 k.1 x).length=b.1.length:=fun x=>by simp [pSet]
  refine Tot.bind (nT N _ 5 hk.1 (by omega)) fun q hq=>?_
  refine Tot.both ?_ (Tot.both ?_ (Tot.both ?_ (Tot.both ?_ ?_)))
  · refine Tot.bind (nT N _ 4 hq.1 (by omega)) fun p hp=>?_
    refine Tot.bind ix fun _ _=>?_
    refine Tot.bind ix fun _ _=>?_
    exact ntail1 N hN _ p.2 hp.1 (by rw [hset];omega) (by rw [hset];omega)
  · refine Tot.bind (nT N _ 28 hq.1 (by omega)) fun p hp=>?_
    refine Tot.bind ix fun _ _=>?_
    refine Tot.bind ix fun _ _=>?_
    exact ntail1 N hN _ p.2 hp.1 (by rw [hset];omega) (by rw [hset];omega)
  · refine Tot.bind (edge_tot N _ hq.1) fun p hp=>?_
    refine Tot.bind ix fun _ _=>?_
    refine Tot.bind ix fun _ _=>?_
    exact ntail1 N hN _ p.2 hp (by rw [hset];omega) (by rw [hset];omega)
  · refine Tot.bind (pickTT N _ _ hq.1 (by simp) (by simp)) fun p hp=>?_
    refine Tot.bind ix fun _ _=>?_
    refine Tot.bind ix fun _ _=>?_
    exact ntail1 N hN _ p.2 hp (by rw [hset];omega) (by rw [hset];omega)
  · refine Tot.fit (by simp;omega) ?_
    exact ntail1 N hN _ q.2 hq.1 (by simp [pApp]) (by simp [pApp];omega)
def OL (r:List OpT×SrcT):Prop:=srcOk r.2∧r.1.length≤2000
theorem c17_tot (N : Nat) (hN : 300 < N) (s : SrcT) (hs : srcOk s) (c : Int) (hc : 0 ≤ c ∧ c ≤ 50) : Tot OL (loopP (zA4.l17 N) N (c, s, [], ()) (
              fun d =>
              let x106:=d.1;
              let x107:=d.2.1;
              loopP (zA4.l20 N) N (x106,x107,()) (
                fun d =>
                let x110:=d.1;
                let x111:=d.2.1;
                some (x111,x110)))):=by
  refine loop_tot (fun m d=>∃ i:Nat,d.1=(i:Int)∧srcOk d.2.1∧i≤m∧d.2.2.1.length+i≤100) (fun e=>srcOk e.1∧e.2.1.length≤100) ?_ ?_ N 50 _ (by omega) ⟨c.toNat,by show c=_;omega,hs,by omega,by simp;omega⟩
  · intro e ⟨e1,e2⟩
    refine loop_tot (fun m d=>srcOk d.1∧d.2.1.length≤200∧50≤m+d.2.1.length) (fun e=>srcOk e.1∧e.2.1.length≤200) (fun e he=>Tot.ret ⟨he.1,by show e.2.1.length≤2000;omega⟩) ?_ N 50 _ (by omega) ⟨e1,by show e.2.1.length≤200;omega,by omega⟩
    intro m d kn kx ⟨h1,h2,h3⟩ hn hx
    unfold zA4.l20
    simp only [pLen_d]
    refine Tot.ite (fun h=>?_) (fun _=>hx _ ⟨h1,h2⟩)
    have hlt:d.2.1.length < 50:=by rw [pLt_d] at h;have:=of_decide_eq_true h;omega
    refine Tot.fit (by simp;omega) ?_
    exact hn (m - 1) _ (by omega) ⟨h1,by simp [pApp];omega,by simp [pApp];omega⟩
  · intro m d kn kx ⟨i,h1,h2,h3,h4⟩ hn hx
    unfold zA4.l17
    simp only [h1]
    refine Tot.ite (fun h=>?_) (fun _=>hx _ ⟨h2,by show d.2.2.1.length≤100;omega⟩)
    have hlt:0 < i:=by rw [pGt_d] at h;have:=of_decide_eq_true h;omega
    refine Tot.fit (by simp;omega) ?_
    exact hn (m - 1) _ (by omega) ⟨i - 1,by show pSub .i64 (i:Int) 1=_;rw [pSub_i (by omega) (by omega)];omega,h2,by omega,by simp [pApp];omega⟩
theorem ctail2 (N : Nat) (hN : 300 < N) (l : List OpT) (s : SrcT) (hs : srcOk s) (hl : l.length ≤ 2000) : Tot OL (
          bindO (zAI N s 40) fun y112 =>
          ifB y112.1 (
            bindO (zA9 N y112.2 4) fun y113 =>
            loopP (zA4.l17 N) N ((pAdd Go.IntKind.i64 y113.1 23),y113.2,[],()) (
              fun d =>
              let x117:=d.1;
              let x118:=d.2.1;
              loopP (zA4.l20 N) N (x117,x118,()) (
                fun d =>
                let x121:=d.1;
                let x122:=d.2.1;
                some (x122,x121)))) (
            some (l,y112.2))):=by
  refine Tot.bind (oneT N s 40 hs (by omega)) fun o ho=>?_
  refine Tot.both ?_ (Tot.ret ⟨ho,hl⟩)
  refine Tot.bind (nT N _ 4 ho (by omega)) fun q hq=>?_
  have h2:=hq.2.2.2 (by omega)
  have h1:=hq.2.1
  rw [pAdd_i (by omega) (by omega)]
  exact c17_tot N hN q.2 hq.1 _ (by omega)
theorem ctail1 (N : Nat) (hN : 300 < N) (l : List OpT) (s : SrcT) (hs : srcOk s) (hl : l.length ≤ 2000) : Tot OL (
        bindO (zAI N s 30) fun y100 =>
        ifB y100.1 (
          bindO (zAI N y100.2 40) fun y101 =>
          ifB y101.1 (
            bindO (zA9 N y101.2 4) fun y102 =>
            loopP (zA4.l17 N) N ((pAdd Go.IntKind.i64 y102.1 23),y102.2,[],()) (
              fun d =>
              let x106:=d.1;
              let x107:=d.2.1;
              loopP (zA4.l20 N) N (x106,x107,()) (
                fun d =>
                let x110:=d.1;
                let x111:=d.2.1;
                some (x111,x110)))) (
            some ([(11,(0,()))],y101.2))) (
          bindO (zAI N y100.2 40) fun y112 =>
          ifB y112.1 (
            bindO (zA9 N y112.2 4) fun y113 =>
            loopP (zA4.l17 N) N ((pAdd Go.IntKind.i64 y113.1 23),y113.2,[],()) (
              fun d =>
              let x117:=d.1;
              let x118:=d.2.1;
              loopP (zA4.l20 N) N (x117,x118,()) (
                fun d =>
                let x121:=d.1;
                let x122:=d.2.1;
                some (x122,x121)))) (
            some (l,y112.2)))):=by
  refine Tot.bind (oneT N s 30 hs (by omega)) fun o ho=>?_
  exact Tot.both (ctail2 N hN _ o.2 ho (by simp)) (ctail2 N hN l o.2 ho hl)
theorem dcode_tot (N:Nat) (hN:2000 < N) (s:SrcT) (hs:srcOk s):Tot OL (zA4 N s):=by
  unfold zA4
  refine Tot.bind (nodes_tot N (by omega) s hs) fun nd ⟨n1,_,n3⟩=>?_
  refine Tot.bind (code_tot N hN nd.1 (by omega)) fun c hc=>?_
  refine Tot.fit (by simp;omega) ?_
  have ec:pApp ([]:List OpT) c=c:=List.nil_append c
  refine Tot.bind (oneT N _ 3 n1 (by omega)) fun o ho=>?_
  refine Tot.bind (P:=fun d=>d=true→0 < c.length) (Tot.ite (fun _=>Tot.ret fun h=>?_) (fun _=>Tot.ret fun h=>by cases h)) fun d hd=>?_
  · rw [ec,pLen_d,pGt_d] at h;have:=of_decide_eq_true h;omega
  refine Tot.ite (fun h=>?_) (fun _=>ctail1 N (by omega) _ o.2 ho (by rw [ec];omega))
  have hpos:=hd h
  refine Tot.bind (nT N _ (pLen (pApp ([]:List OpT) c)) ho (by rw [ec,pLen_d];omega)) fun k hk=>?_
  rw [ec,pLen_d] at hk
  have hk1:=hk.2.1
  have hk2:k.1 < (c.length:Int):=by
    by_cases h:(1:Int) < c.length
    · exact hk.2.2.2 h
    · have:=hk.2.2.1 (by omega);omega
  have ix:=idxT c k.1 hk1 hk2
  rw [← ec] at ix
  have hset:∀ x:OpT,(pSet (pApp ([]:List OpT) c) k.1 x).length=c.length:=fun x=>by simp [pSet,pApp]
  refine Tot.bind (nT N _ 4 hk.1 (by omega)) fun q hq=>?_
  refine Tot.both ?_ (Tot.both ?_ (Tot.both ?_ ?_))
  · refine Tot.bind (nT N _ 20 hq.1 (by omega)) fun p hp=>?_
    refine Tot.bind (nT N _ 30 hp.1 (by omega)) fun p2 hp2=>?_
    refine Tot.bind ix fun _ _=>?_
    refine Tot.bind ix fun _ _=>?_
    exact ctail1 N (by omega) _ p2.2 hp2.1 (by rw [hset];omega)
  · have e1:pAdd .i64 k.1 1=k.1+1:=pAdd_i (by omega) (by omega)
    have el:pLen (pApp ([]:List OpT) c)=(c.length:Int):=by rw [ec,pLen_d]
    rw [e1,el,pLe_t (by omega),ifB_t,pLe_t (by omega),ifB_t,pLe_t (by omega),ifB_t,pLe_t (by omega),ifB_t,pLe_t (by omega),ifB_t,pLe_t (by omega),ifB_t]
    have hs1:∀ i j:Int,(sub (pApp ([]:List OpT) c) i j).length≤c.length:=fun i j=>by
      rw [ec];unfold sub;simp only [List.length_drop,List.length_take];omega
    have:=hs1 0 k.1
    have:=hs1 (k.1+1) (c.length:Int)
    refine Tot.fit (by omega) ?_
    exact ctail1 N (by omega) _ q.2 hq.1 (by simp [pApp] at *;omega)
  · refine Tot.bind ix fun _ _=>?_
    refine Tot.bind ix fun _ _=>?_
    refine Tot.fit (by simp [pApp];omega) ?_
    exact ctail1 N (by omega) _ q.2 hq.1 (by simp [pApp];omega)
  · refine Tot.bind (nT N _ _ hq.1 (by rw [ec,pLen_d,pAdd_i (by omega) (by omega)];omega)) fun p hp=>?_
    refine Tot.bind ix fun _ _=>?_
    refine Tot.bind ix fun _ _=>?_
    exact ctail1 N (by omega) _ p.2 hp.1 (by rw [hset];omega)
theorem dfuel_tot (N:Nat) (s:SrcT) (hs:srcOk s):Tot (fun r:Int×SrcT=>srcOk r.2∧-1≤r.1∧r.1≤5001) (zBU N s):=by
  unfold zBU
  refine Tot.bind (oneT N s 15 hs (by omega)) fun o ho=>?_
  refine Tot.both ?_ ?_
  · refine Tot.bind (nT N _ 4 ho (by omega)) fun q hq=>?_
    have h2:=hq.2.2.2 (by omega)
    refine Tot.bind (idxT _ _ hq.2.1 (by simp;omega)) fun _ _=>?_
    refine Tot.bind (idxT _ _ hq.2.1 (by simp;omega)) fun x hx=>Tot.ret ⟨hq.1,?_⟩
    simp only [List.mem_cons,List.not_mem_nil,or_false] at hx
    show -1≤x∧x≤5001
    omega
  · refine Tot.bind (oneT N _ 4 ho (by omega)) fun o2 ho2=>?_
    refine Tot.both ?_ (Tot.ret ⟨ho2,by show (-1:Int)≤500;omega,by show (500:Int)≤5001;omega⟩)
    refine Tot.bind (nT N _ 30 ho2 (by omega)) fun q hq=>?_
    have h2:=hq.2.2.2 (by omega)
    have h1:=hq.2.1
    exact Tot.ret ⟨hq.1,by show -1≤q.1;omega,by show q.1≤5001;omega⟩
theorem dmrun_tot (N:Nat) (hN:100200 < N) (a:List Int) (ha:a.length≤1048576):Tot (fun r:List OpT×BufT×Int=>r.1.length≤2000∧r.2.1.1.length≤1000) (zBV N a):=by
  unfold zBV
  obtain ⟨s,h1,hs⟩:=source_ok N a ha (by omega)
  rw [h1,bindO_s]
  refine Tot.bind (dcode_tot N (by omega) s hs) fun c hc=>?_
  refine Tot.bind (dbuf_tot N (by omega) c.2 hc.1) fun b hb=>?_
  exact Tot.bind (dfuel_tot N b.2 hb.1) fun f _=>Tot.ret ⟨hc.2,hb.2⟩
theorem mach_all (N:Nat) (hN:1000000 < N) (ops:List OpT) (b:BufT) (f:Int) (hbl:b.1.length < N) (hbb:b.1.length≤9223372036854775806) :
    ∃ (rn:RanT) (s:Int),zCC N ops b f=some rn∧zC2 N ops b f=some rn∧zBX N ops b f=some s∧rn.1.1.length≤300 ∧
      (rn.2.2.2.1=1 ∨ rn.2.2.2.1=2 ∨ (rn.2.2.2.1≠0∧rn.1=b∧s=-1) ∨ (rn.2.2.2.1=0∧bufG rn.1=true∧0≤s∧s≤40 * (f+1)∧rn.2.1≤f∧0≤f∧f≤5000)):=by
  obtain ⟨rn,m1,m2,m3⟩:=machine_both N hN ops b f hbl hbb
  obtain ⟨s,t1,t2⟩:=steps_both N hN ops b f hbl hbb
  refine ⟨rn,s,m1,m2,t2,m3,?_⟩
  by_cases hl:1500 < ops.length
  · unfold zC2 at m2
    rw [pLen_d,pGt_t (by omega),ifB_t] at m2
    have:=(Option.some.inj m2).symm
    rw [this];exact .inr (.inl rfl)
  obtain ⟨q,r1,r2⟩:=right_both N ops (by omega)
  by_cases hgood:q=true∧bufG b=true∧0≤f∧f≤5000
  · obtain ⟨hq,hb,hf⟩:=hgood
    subst hq
    obtain ⟨rn',s1,s2,p1,p2,p3,p4,p5,p6,p7⟩:=play_run N hN ops b f r1 hb hf
    unfold zC2 at m2
    rw [pLen_d,pGt_f (by omega),ifB_f,p1,bindO_s] at m2
    have e:=Option.some.inj m2
    have e:rn'=rn:=e
    subst e
    unfold zBX at t2
    rw [pLen_d,pGt_f (by omega),ifB_f,p1,bindO_s] at t2
    by_cases hc:rn'.2.2.2.1=0
    · simp only [] at t2
      rw [pNe_f hc,ifB_f] at t2
      have e2:s1=s:=Option.some.inj t2
      subst e2
      obtain ⟨w1,w2,w3,w4⟩:=p6 hc
      exact .inr (.inr (.inr ⟨hc,w1,w2,w3,w4,hf.1,hf.2⟩))
    · simp only [] at t2
      rw [pNe_t hc,ifB_t] at t2
      have e2:-1=s:=Option.some.inj t2
      exact .inr (.inr (.inl ⟨hc,p7 hc,e2.symm⟩))
  · have hp:zBJ N ops b f=some (failR 1,0):=by
      unfold zBJ
      rw [r2,bindO_s,impl_BufRight_eq N b hbl hbb,bindO_s,ifB_or,bindO_s,impl_within_eq,bindO_s,ifB_or,bindO_s]
      have:((pNot q || pNot (bufG b)) || pNot (decide (0≤f) && decide (f≤5000)))=true:=by
        refine Classical.byContradiction fun h=>hgood ?_
        simp only [Bool.not_eq_true,Bool.or_eq_false_iff,pNot_d,Bool.not_eq_false',Bool.and_eq_true,decide_eq_true_eq] at h
        exact ⟨h.1.1,h.1.2,h.2.1,h.2.2⟩
      rw [this];rfl
    unfold zC2 at m2
    rw [pLen_d,pGt_f (by omega),ifB_f,hp,bindO_s] at m2
    have e:=(Option.some.inj m2).symm
    rw [e];exact .inl rfl
end Go.AE.F
namespace Go.AE.F
open Go.AE
theorem pure_FnMachine (a:List Int) (_h:a.length≤9223372036854775807∧∀ x∈a,IntKind.u8.min≤x∧x≤IntKind.u8.max):∃ N,zCX N a=some true:=by
  refine ⟨1048700,?_⟩
  unfold zCX
  rw [pLen_d]
  by_cases ha:1048576 < a.length
  · rw [pGt_t (by omega),ifB_t]
  rw [pGt_f (by omega),ifB_f]
  obtain ⟨⟨ops,b,f⟩,hd,hol,hbl⟩:=dmrun_tot 1048700 (by omega) a (by omega)
  simp only at hol hbl
  obtain ⟨rn,s,m1,m2,m3,m4,m5⟩:=mach_all 1048700 (by omega) ops b f (by omega) (by omega)
  have ec:pApp ([]:List OpT) ops=ops:=List.nil_append ops
  rw [hd,bindO_s]
  simp only []
  rw [m1,bindO_s,pFit_t (by simp;omega),ifB_t,ec,m2,bindO_s,pNe_f rfl,ifB_f,ifB_t]
  rcases m5 with h | h | ⟨h,h1,h2⟩ | ⟨h,h1,h2,h3,h4,h5,h6⟩
  · rw [pEq_t h,ifB_t,bindO_s,ifB_t]
  · rw [pEq_f (by omega),ifB_f,pEq_t h,bindO_s,ifB_t]
  · by_cases h3:rn.2.2.2.1=1
    · rw [pEq_t h3,ifB_t,bindO_s,ifB_t]
    by_cases h4:rn.2.2.2.1=2
    · rw [pEq_f h3,ifB_f,pEq_t h4,bindO_s,ifB_t]
    rw [pEq_f h3,ifB_f,pEq_f h4,bindO_s,ifB_f,m3,bindO_s,pNe_t h,ifB_t,h1,lwBuf_self _ b (by omega) (by omega),bindO_s,ifB_t,bindO_s,pEq_t h2]
  · rw [pEq_f (by omega),ifB_f,pEq_f (by omega),bindO_s,ifB_f,m3,bindO_s,pNe_f h,ifB_f,impl_BufRight_eq _ _ (by omega) (by omega),bindO_s,h1,ifB_t,pGe_t (by omega),bindO_s,ifB_t]
    have e1:pAdd .i64 f 1=f+1:=pAdd_i (by omega) (by omega)
    have e2:pMul .i64 40 (f+1)=40 * (f+1):=wrap_i64 (by omega) (by omega)
    rw [e1,e2,pLe_t (by omega),bindO_s,ifB_t,pLe_t (by omega),bindO_s,ifB_t,lwBuf_self _ _ (by omega) (by omega),bindO_s,bindO_s]
end Go.AE.F
