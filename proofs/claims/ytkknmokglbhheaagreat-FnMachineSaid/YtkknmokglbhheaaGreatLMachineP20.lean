/- Plain laws of those functions. -/
import Derived.Test.YtkknmokglbhheaaGreatLMachineP19
namespace Go.AE.F
open Go.AE
theorem pickTT (N:Nat) (s:SrcT) (l:List ByteArray) (hs:srcOk s) (h0:0 < l.length) (hk:l.length≤1048576):Tot (fun r:ByteArray×SrcT=>srcOk r.2) (zBI N s l):=by
  obtain ⟨x,s',h1,h2,h3⟩:=pick_ok N s l hs h0 hk
  exact ⟨_,h1,h2⟩
def NL (lo hi:Nat) (r:List NodeT×SrcT):Prop:=srcOk r.2∧lo≤r.1.length∧r.1.length≤hi
def ex:Nat→Nat
  | 0=>1
  | a+1=>1+2 * ex a
theorem exprs_tot:∀ (a F:Nat) (s:SrcT),a < F→ex a≤1000→a≤100→srcOk s→Tot (NL 1 (ex a)) (zAJ F s (a:Int)):=by
  intro a
  induction a with
  | zero =>
    intro F s hF hx ha hs
    obtain ⟨F,rfl⟩:=succ_of hF
    show Tot _ (zAJ.st F (zAJ F) s ((0:Nat):Int))
    unfold zAJ.st
    rw [pLe_t (by omega),ifB_t]
    refine Tot.bind (nT F s 5 hs (by omega)) fun q hq=>?_
    refine Tot.both ?_ (Tot.both ?_ (Tot.both ?_ ?_))
    · exact Tot.bind (pickTT F _ _ hq.1 (by simp) (by simp)) fun r hr=>Tot.ret ⟨hr,by simp,by simp [ex]⟩
    · exact Tot.bind (nT F _ 3 hq.1 (by omega)) fun r hr=>Tot.ret ⟨hr.1,by simp,by simp [ex]⟩
    · refine Tot.bind (nT F _ 5 hq.1 (by omega)) fun r hr=>?_
      have h2:=hr.2.2.2 (by omega)
      exact Tot.bind (idxT _ _ hr.2.1 (by simp;omega)) fun _ _=>Tot.bind (idxT _ _ hr.2.1 (by simp;omega)) fun _ _=>Tot.ret ⟨hr.1,by simp,by simp [ex]⟩
    · exact Tot.bind (nT F _ 6 hq.1 (by omega)) fun r hr=>Tot.ret ⟨hr.1,by simp,by simp [ex]⟩
  | succ a ih =>
    intro F s hF hx ha hs
    obtain ⟨F,rfl⟩:=succ_of hF
    have hxa:ex (a+1)=1+2 * ex a:=rfl
    show Tot _ (zAJ.st F (zAJ F) s ((a+1:Nat):Int))
    unfold zAJ.st
    have e1:pSub .i64 ((a+1:Nat):Int) 1=(a:Int):=by rw [pSub_i (by omega) (by omega)];omega
    rw [pLe_f (by omega),ifB_f,e1]
    refine Tot.bind (oneT F s 3 hs (by omega)) fun o ho=>?_
    refine Tot.both ?_ ?_
    · refine Tot.bind (nT F _ 5 ho (by omega)) fun q hq=>?_
      refine Tot.both ?_ (Tot.both ?_ (Tot.both ?_ ?_))
      · exact Tot.bind (pickTT F _ _ hq.1 (by simp) (by simp)) fun r hr=>Tot.ret ⟨hr,by simp,by simp;omega⟩
      · exact Tot.bind (nT F _ 3 hq.1 (by omega)) fun r hr=>Tot.ret ⟨hr.1,by simp,by simp;omega⟩
      · refine Tot.bind (nT F _ 5 hq.1 (by omega)) fun r hr=>?_
        have h2:=hr.2.2.2 (by omega)
        exact Tot.bind (idxT _ _ hr.2.1 (by simp;omega)) fun _ _=>Tot.bind (idxT _ _ hr.2.1 (by simp;omega)) fun _ _=>Tot.ret ⟨hr.1,by simp,by simp;omega⟩
      · exact Tot.bind (nT F _ 6 hq.1 (by omega)) fun r hr=>Tot.ret ⟨hr.1,by simp,by simp;omega⟩
    · refine Tot.bind (oneT F _ 4 ho (by omega)) fun o2 ho2=>?_
      refine Tot.both ?_ ?_
      · refine Tot.bind (nT F _ 2 ho2 (by omega)) fun q hq=>?_
        refine Tot.bind (ih F _ (by omega) (by omega) (by omega) hq.1) fun r ⟨r1,r2,r3⟩=>?_
        exact Tot.fit (by simp;omega) (Tot.ret ⟨r1,by simp [pApp],by simp [pApp];omega⟩)
      · refine Tot.bind (nT F _ 9 ho2 (by omega)) fun q hq=>?_
        refine Tot.bind (ih F _ (by omega) (by omega) (by omega) hq.1) fun r ⟨r1,r2,r3⟩=>?_
        refine Tot.fit (by simp;omega) ?_
        refine Tot.bind (ih F _ (by omega) (by omega) (by omega) r1) fun r' ⟨r4,r5,r6⟩=>?_
        exact Tot.fit (by simp [pApp];omega) (Tot.ret ⟨r4,by simp [pApp],by simp [pApp];omega⟩)
theorem stmts_s (F:Nat) (s:SrcT) (a:Int):zA6 (F+1) s a=zA6.st F (zA6 F) (zA8 F) s a:=rfl
theorem block_s (F:Nat) (s:SrcT) (a:Int):zA8 (F+1) s a=zA8.st F (zA6 F) (zA8 F) s a:=rfl
theorem motions_pick (F : Nat) (s : SrcT) (hs : srcOk s) (hi : Nat) (hh : 1 ≤ hi) : Tot (NL 1 hi) (bindO (zBM F) fun y79 =>
                    bindO (zA9 F s 10) fun y80 =>
                    bindO (idx y79 (pAdd Go.IntKind.i64 1 y80.1)) fun y81 =>
                    bindO (idx y79 (pAdd Go.IntKind.i64 1 y80.1)) fun y82 =>
                    some ([(10,(0,(y82,(0,()))))],y80.2)):=by
  unfold zBM
  rw [bindO_s]
  refine Tot.bind (nT F s 10 hs (by omega)) fun q hq=>?_
  have h2:=hq.2.2.2 (by omega)
  have h1:=hq.2.1
  rw [pAdd_i (by omega) (by omega)]
  exact Tot.bind (idxT _ _ (by omega) (by simp;omega)) fun _ _=>Tot.bind (idxT _ _ (by omega) (by simp;omega)) fun _ _=>Tot.ret ⟨hq.1,by simp,by simp;omega⟩
theorem idx1 {A:Type} (x:A):Tot (fun y=>y=x) (idx [x] 0):=⟨x,rfl,rfl⟩
theorem stmts_of (a B S:Nat) (ha:a≤100) (hS:12+2 * B≤S) (hS2:S≤100000) (blk:∀ b:Nat,a=b+1→∀ (F:Nat) (s:SrcT),21+2 * b < F→srcOk s→Tot (NL 1 B) (zA8 F s (b:Int))) :
    ∀ (F:Nat) (s:SrcT),20+2 * a < F→srcOk s→Tot (NL 1 S) (zA6 F s (a:Int)):=by
  intro F s hF hs
  obtain ⟨F,rfl⟩:=succ_of hF
  rw [stmts_s]
  unfold zA6.st
  have ex2:ex 2=7:=rfl
  have ex1:ex 1=3:=rfl
  have ex0:ex 0=1:=rfl
  have E2:=fun s hs=>exprs_tot 2 F s (by omega) (by rw [ex2];omega) (by omega) hs
  have E1:=fun s hs=>exprs_tot 1 F s (by omega) (by rw [ex1];omega) (by omega) hs
  have E0:=fun s hs=>exprs_tot 0 F s (by omega) (by rw [ex0];omega) (by omega) hs
  rw [ex2] at E2
  rw [ex1] at E1
  rw [ex0] at E0
  have mot:=fun s hs=>motions_pick F s hs S (by omega)
  have letc:∀ s,srcOk s→Tot (NL 1 S) (bindO (zBI F s [(ByteArray.mk #[120]),(ByteArray.mk #[121])]) fun y48 =>
    bindO (zAJ F y48.2 2) fun y49 =>
    ifB (pFit [(2,(0,(y48.1,(1,()))))] y49.1) (
      some ((pApp [(2,(0,(y48.1,(1,()))))] y49.1),y49.2)) (
      none)):=fun s hs=>by
    refine Tot.bind (pickTT F _ _ hs (by simp) (by simp)) fun p hp=>?_
    refine Tot.bind (E2 _ hp) fun r ⟨r1,r2,r3⟩=>?_
    exact Tot.fit (by simp;omega) (Tot.ret ⟨r1,by simp [pApp],by simp [pApp];omega⟩)
  refine Tot.bind (nT F s 10 hs (by omega)) fun q hq=>?_
  refine Tot.both (letc _ hq.1) (Tot.both (letc _ hq.1) (Tot.both ?_ (Tot.both ?_ (Tot.both ?_ (Tot.both ?_ (Tot.both ?_ (Tot.both ?_ (mot _ hq.1))))))))
  · refine Tot.bind (point_tot F _ hq.1) fun p hp=>?_
    exact Tot.fit (by simp) (Tot.ret ⟨hp,by simp [pApp],by simp [pApp];omega⟩)
  · refine Tot.bind (nT F _ 2 hq.1 (by omega)) fun p hp=>?_
    refine Tot.bind (E1 _ hp.1) fun r ⟨r1,r2,r3⟩=>?_
    exact Tot.fit (by simp;omega) (Tot.ret ⟨r1,by simp [pApp],by simp [pApp];omega⟩)
  · exact Tot.ret ⟨hq.1,by simp,by simp;omega⟩
  · refine Tot.bind (E0 _ hq.1) fun r ⟨r1,r2,r3⟩=>?_
    refine Tot.fit (by simp;omega) ?_
    refine Tot.bind (E0 _ r1) fun r' ⟨r4,r5,r6⟩=>?_
    exact Tot.fit (by simp [pApp];omega) (Tot.ret ⟨r4,by simp [pApp],by simp [pApp];omega⟩)
  · refine Tot.ite (fun h=>?_) (fun _=>mot _ hq.1)
    have hpos:0 < a:=by rw [pGt_d] at h;have:=of_decide_eq_true h;omega
    obtain ⟨b,rfl⟩:∃ b,a=b+1:=⟨a - 1,by omega⟩
    have hb:=blk b rfl
    refine Tot.bind (nT F _ 2 hq.1 (by omega)) fun p hp=>?_
    have hp2:=hp.2.2.2 (by omega)
    have hp1:=hp.2.1
    have e2:pAdd .i64 2 p.1=2+p.1:=pAdd_i (by omega) (by omega)
    obtain ⟨K,hK⟩:∃ K:Nat,2+p.1=(K:Int):=⟨(2+p.1).toNat,by omega⟩
    rw [e2,hK]
    refine Tot.bind (idx1 _) fun y0 _=>?_
    refine Tot.bind (idx1 _) fun y1 hy1=>?_
    rw [hy1]
    refine Tot.bind (E2 _ hp.1) fun r ⟨r1,r2,r3⟩=>?_
    refine Tot.fit (by simp;omega) ?_
    refine loop_tot (fun m d=>∃ i:Nat,d.1=((b+1:Nat):Int)∧d.2.1=(K:Int)∧d.2.2.1=(i:Int)∧srcOk d.2.2.2.1∧1≤d.2.2.2.2.1.length∧K≤m+i∧((i=1∧d.2.2.2.2.1.length≤8) ∨ (i=2∧d.2.2.2.2.1.length≤8+B) ∨ (i=3∧d.2.2.2.2.1.length≤8+2 * B))) (fun e=>srcOk e.1∧1≤e.2.1.length∧e.2.1.length≤8+2 * B) ?_ ?_ F 3 _ (by omega) ⟨1,rfl,rfl,rfl,r1,by simp [pApp],by omega,.inl ⟨rfl,by simp [pApp];omega⟩⟩
    · intro e ⟨e1,e2,e3⟩
      exact Tot.ret ⟨e1,e2,by show e.2.1.length≤S;omega⟩
    · intro m d kn kx ⟨i,h1,h2,h3,h4,h5,h6,h7⟩ hn hx
      unfold zA6.l20
      simp only [h1,h2,h3]
      refine Tot.ite (fun h=>?_) (fun _=>hx _ ⟨h4,h5,by show d.2.2.2.2.1.length≤_;omega⟩)
      have hlt:i < K:=by rw [pLt_d] at h;have:=of_decide_eq_true h;omega
      have e1:pSub .i64 ((b+1:Nat):Int) 1=(b:Int):=by rw [pSub_i (by omega) (by omega)];omega
      rw [e1]
      refine Tot.bind (hb F _ (by omega) h4) fun r ⟨g1,g2,g3⟩=>?_
      refine Tot.fit (by omega) ?_
      refine hn (m - 1) _ (by omega) ⟨i+1,rfl,rfl,by show pAdd .i64 (i:Int) 1=_;rw [pAdd_i (by omega) (by omega)];rfl,g1,by simp [pApp];omega,by omega,?_⟩
      have hl:(pApp d.2.2.2.2.1 r.1).length=d.2.2.2.2.1.length+r.1.length:=by simp [pApp]
      simp only [hl]
      omega
  · refine Tot.ite (fun h=>?_) (fun _=>mot _ hq.1)
    have hpos:0 < a:=by rw [pGt_d] at h;have:=of_decide_eq_true h;omega
    obtain ⟨b,rfl⟩:∃ b,a=b+1:=⟨a - 1,by omega⟩
    have hb:=blk b rfl
    refine Tot.bind (nT F _ 5 hq.1 (by omega)) fun p hp=>?_
    have e1:pSub .i64 ((b+1:Nat):Int) 1=(b:Int):=by rw [pSub_i (by omega) (by omega)];omega
    rw [e1]
    refine Tot.bind (hb F _ (by omega) hp.1) fun r ⟨g1,g2,g3⟩=>?_
    have i0:Tot (fun x=>x∈r.1) (idx r.1 0):=idxT r.1 0 (by omega) (by omega)
    refine Tot.bind i0 fun _ _=>Tot.bind i0 fun _ _=>Tot.bind i0 fun _ _=>Tot.bind i0 fun _ _=>?_
    refine Tot.fit (by simp [pSet];omega) (Tot.fit (by simp [pSet,pApp];omega) (Tot.ret ⟨g1,by simp [pApp],by simp [pSet,pApp];omega⟩))
theorem block_of (a S:Nat) (ha:a≤100) (hS2:S≤100000) (st:∀ (F:Nat) (s:SrcT),20+2 * a < F→srcOk s→Tot (NL 1 S) (zA6 F s (a:Int))) :
    ∀ (F:Nat) (s:SrcT),21+2 * a < F→srcOk s→Tot (NL 1 (1+3 * S)) (zA8 F s (a:Int)):=by
  intro F s hF hs
  obtain ⟨F,rfl⟩:=succ_of hF
  rw [block_s]
  unfold zA8.st
  refine Tot.bind (nT F s 4 hs (by omega)) fun p hp=>?_
  have hp2:=hp.2.2.2 (by omega)
  have hp1:=hp.2.1
  obtain ⟨K,hK⟩:∃ K:Nat,p.1=(K:Int):=⟨p.1.toNat,by omega⟩
  rw [hK]
  refine loop_tot (fun m d=>∃ i:Nat,d.1=(a:Int)∧d.2.1=(K:Int)∧d.2.2.1=(i:Int)∧srcOk d.2.2.2.1∧1≤d.2.2.2.2.1.length∧K≤m+i∧((i=0∧d.2.2.2.2.1.length≤1) ∨ (i=1∧d.2.2.2.2.1.length≤1+S) ∨ (i=2∧d.2.2.2.2.1.length≤1+2 * S) ∨ (i=3∧d.2.2.2.2.1.length≤1+3 * S))) (fun e=>srcOk e.2.1∧1≤e.2.2.1.length∧e.2.2.1.length≤1+3 * S) ?_ ?_ F 3 _ (by omega) ⟨0,rfl,rfl,rfl,hp.1,by simp,by omega,.inl ⟨rfl,by simp⟩⟩
  · intro e ⟨e1,e2,e3⟩
    have i0:Tot (fun x=>x∈e.2.2.1) (idx e.2.2.1 0):=idxT e.2.2.1 0 (by omega) (by omega)
    refine Tot.bind i0 fun _ _=>Tot.bind i0 fun _ _=>Tot.ret ⟨e1,by simp [pSet];omega,by simp [pSet];omega⟩
  · intro m d kn kx ⟨i,h1,h2,h3,h4,h5,h6,h7⟩ hn hx
    unfold zA8.l4
    simp only [h1,h2,h3]
    refine Tot.ite (fun h=>?_) (fun _=>hx _ ⟨h4,h5,by show d.2.2.2.2.1.length≤_;omega⟩)
    have hlt:i < K:=by rw [pLt_d] at h;have:=of_decide_eq_true h;omega
    refine Tot.bind (st F _ (by omega) h4) fun r ⟨g1,g2,g3⟩=>?_
    refine Tot.fit (by omega) ?_
    refine hn (m - 1) _ (by omega) ⟨i+1,rfl,rfl,by show pAdd .i64 (i:Int) 1=_;rw [pAdd_i (by omega) (by omega)];rfl,g1,by simp [pApp];omega,by omega,?_⟩
    have hl:(pApp d.2.2.2.2.1 r.1).length=d.2.2.2.2.1.length+r.1.length:=by simp [pApp]
    simp only [hl]
    omega
theorem block3 (F:Nat) (s:SrcT) (hF:100 < F) (hs:srcOk s):Tot (NL 1 20000) (zA8 F s 3):=by
  have w:∀ {a b:Nat} {o},b≤20000→Tot (NL a b) o→Tot (NL a 20000) o:=fun hb ⟨x,h1,h2,h3,h4⟩=>⟨x,h1,h2,h3,by omega⟩
  have s0:=stmts_of 0 0 12 (by omega) (by omega) (by omega) (fun b hb=>by omega)
  have b0:=block_of 0 12 (by omega) (by omega) s0
  have s1 := stmts_of 1 37 86 (by omega) (by omega) (by omega) (fun b hb => by have : b = 0 := by omega
                                                                               subst this;exact b0)
  have b1:=block_of 1 86 (by omega) (by omega) s1
  have s2 := stmts_of 2 259 530 (by omega) (by omega) (by omega) (fun b hb => by have : b = 1 := by omega
                                                                                 subst this;exact b1)
  have b2:=block_of 2 530 (by omega) (by omega) s2
  have s3 := stmts_of 3 1591 3194 (by omega) (by omega) (by omega) (fun b hb => by have : b = 2 := by omega
                                                                                   subst this;exact b2)
  have b3:=block_of 3 3194 (by omega) (by omega) s3
  exact w (by omega) (b3 F s (by omega) hs)
theorem edge_tot (N:Nat) (s:SrcT) (hs:srcOk s):Tot (fun r:Int×SrcT=>srcOk r.2) (zC8 N s):=by
  unfold zC8
  refine Tot.bind (nT N s 14 hs (by omega)) fun q hq=>?_
  have h2:=hq.2.2.2 (by omega)
  exact Tot.bind (idxT _ _ hq.2.1 (by simp;omega)) fun _ _=>Tot.bind (idxT _ _ hq.2.1 (by simp;omega)) fun _ _=>Tot.ret hq.1
end Go.AE.F
