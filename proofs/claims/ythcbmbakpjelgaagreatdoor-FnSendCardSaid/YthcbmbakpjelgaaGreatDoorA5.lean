/- The abstract evaluator of the program's own code, and its soundness: part 5. -/
import Derived.Test.YthcbmbakpjelgaaGreatDoorA4
import Derived.Orders
import Derived.Scope
import Derived.Below
import Derived.ChangeArms
import Derived.WideShapes
import Derived.DataShut
namespace Go.AE
theorem opnds_mem:∀ {l:List Operand} {n:Nat},n∈opndsOf l ↔ Operand.tmp n∈l
 | [],n=>by simp [opndsOf]
 | .tmp t::l,n=>by simp [opndsOf,opnds_mem (l:=l)]
 | .const _::l,n=>by simp [opndsOf,opnds_mem (l:=l)]
 | .global _::l,n=>by simp [opndsOf,opnds_mem (l:=l)]
 | .func _::l,n=>by simp [opndsOf,opnds_mem (l:=l)]
theorem get_kills {v:SV} {n:Nat}:∀ {l:List (Nat×KK)} {env:List SV},getSlot env n=v->(∀ x∈l,killS x.1 x.2 v=v)->getSlot (kills l env) n=v
 | [],env,h,_=>h
 | (r,k)::l,env,h,hv=>by
  simp only [kills]
  refine get_kills ?_ fun x hx=>hv x (by simp [hx])
  rw [getSlot_kill,h]
  exact hv (r,k) (by simp)
theorem kills_back {v:SV} {n:Nat} (hv:isDeadSV v=false):∀ {l:List (Nat×KK)} {env:List SV},getSlot (kills l env) n=v->getSlot env n=v
 | [],env,h=>h
 | (r,k)::l,env,h=>by
  simp only [kills] at h
  have h:=kills_back hv h
  rw [getSlot_kill] at h
  rcases killS_or (r:=r) (k:=k) (v:=getSlot env n) with e | e
  ·rw [e] at h;exact h
  ·rw [e] at h;subst h;cases hv
theorem noDead_mem {env:List SV}:∀ {l:List Tmp},noDead (getSlots env l)=true->∀ n∈l,isDeadSV (getSlot env n)=false
 | t::l,h,n,hn=>by
  simp only [getSlots,noDead,Bool.and_eq_true,Bool.not_eq_true'] at h
  cases hn with
  | head=>exact h.1
  | tail _ hn=>exact noDead_mem h.2 n hn
theorem getSlots_eq {env env':List SV}:∀ {l:List Tmp},(∀ n∈l,getSlot env' n=getSlot env n)->getSlots env' l=getSlots env l
 | [],_=>rfl
 | t::l,h=>by simp only [getSlots];rw [h t (by simp),getSlots_eq fun n hn=>h n (by simp [hn])]
theorem offV_mem {e:Eff} {mem:Bool} {env:List SV}:∀ {l:List Tmp},offV e mem (getSlots env l)=true->∀ n∈l,(∀ z∈e.kill,killS z.1 z.2 (getSlot env n)=getSlot env n)/\(mem=true->∀ r∈refsSV (getSlot env n),∀ z∈e.upd,z.1≠r)
 | t::l,h,n,hn=>by
  simp only [getSlots,offV,Bool.and_eq_true,Bool.not_eq_true'] at h
  cases hn with
  | head =>
   refine ⟨hitsK_mem h.1.1,fun hm r hr z hz q=>?_⟩
   have:=h.1.2
   rw [hm,cond_true] at this
   exact keysU_mem this z hz (q ▸ hr)
  | tail _ hn=>exact offV_mem h.2 n hn
theorem offU_mem {e:Eff} {mem:Bool} {env:List SV} (hm:mem=true):∀ {l:List Tmp},offU e mem (getSlots env l)=true->∀ n∈l,∀ r∈refsSV (getSlot env n),∀ z∈e.upd,z.1≠r
 | t::l,h,n,hn=>by
  simp only [getSlots,offU,Bool.and_eq_true] at h
  cases hn with
  | head =>
   intro r hr z hz q
   have:=h.1
   rw [hm,cond_true] at this
   exact keysU_mem this z hz (q ▸ hr)
  | tail _ hn=>exact offU_mem hm h.2 n hn
theorem chkAll_iff {m:Nat} {mem:Bool} {vals:List SV} {e:Eff}:∀ {L:List LogE},chkAll m mem vals e L=true ↔ ∀ x∈L,m.testBit x.i=true \/ commB x mem vals e=true
 | []=>by simp [chkAll]
 | x::L=>by
  simp only [chkAll,Bool.and_eq_true,Bool.or_eq_true,List.mem_cons,forall_eq_or_imp]
  rw [chkAll_iff]
theorem chkL_sub {fr:Bool} {m:Nat} {mem:Bool} {vals:List SV} {e:Eff} {L L':List LogE} (hs:∀ x∈L',x∈L) (h:chkL fr m L mem vals e=true):chkL fr m L' mem vals e=true:=by
 unfold chkL at h ⊢
 cases fr with
 | false=>rfl
 | true =>
  simp only [cond_true,Bool.and_eq_true] at h ⊢
  exact ⟨h.1,chkAll_iff.2 fun x hx=>chkAll_iff.1 h.2 x (hs x hx)⟩
section
variable {g:Cfg} {R:Type} {st st':St} {o:Oper} {y:R} {all:List Oper}
def Want (all:List Oper) (st:St) (o:Oper) (b:Bool):Prop :=
 match o.guard with
 | none=>b=true
 | some (i,pol)=>∃ c sv,dstOf all i=some c/\getSlot st.env c=sv/\((∃ v,sv=.one (.pv .bool v)/\b=(v == pol)) \/ (sv=.tup []/\b=false))
def Stays (sv:SV):Prop:=(∃ v,sv=.one (.pv .bool v)) \/ sv=.tup []
theorem Want.at {b:Bool} (h:Want all st o b) (hs:∀ c sv,c∈looksB all o->Stays sv->getSlot st.env c=sv->getSlot st'.env c=sv):Want all st' o b:=by
 unfold Want at h ⊢
 split at h
 ·exact h
 ·rename_i i pol hg
  obtain ⟨c,sv,h1,h2,h3⟩:=h
  refine ⟨c,sv,h1,hs c sv (by simp [looksB,hg,h1]) ?_ h2,h3⟩
  rcases h3 with ⟨v,h3,_⟩ | ⟨h3,_⟩
  ·exact .inl ⟨v,h3⟩
  ·exact .inr h3
theorem stB_id {c:Nat} {b:Bool} (h:getSlot st.env c=.one (.pv .bool b)):stB st c b=st:=by
 unfold stB
 rw [set_self h]
noncomputable def runK (g:Cfg) (all:List Oper) (st:St) (j m:Nat) (fr:Bool) (o:Oper) (l:List DIt) (L:List LogE) (k:St->Option R):Eff->Option R :=
 fun e=>bif chkL fr m L (needsMem o) (valsOf st o) e then evalDraw g all l ({ i:=j,mem:=needsMem o,vals:=valsOf st o,e:=e }::L) (st.apply o.dst e) k else none
theorem draw_cons {j m:Nat} {fr:Bool} {l:List DIt} {L:List LogE} {k:St->Option R} (h:evalDraw g all ((j,m,fr,o)::l) L st k=some y) :
  ∃ b,Want all st o b/\(b=true->opSem g st o (runK g all st j m fr o l L k)=some y)/\(b=false->evalDraw g all l L (stSkip st o.dst) k=some y):=by
 simp only [evalDraw] at h
 split at h
 ·rename_i hg
  exact ⟨true,by simp [Want,hg],fun _=>h,fun e=>(by cases e)⟩
 ·rename_i i pol hg
  split at h
  ·cases h
  ·rename_i c hc
   split at h
   ·rename_i b hb
    rcases ifB_eq h with ⟨e,h⟩ | ⟨e,h⟩ <;> subst e <;> rw [stB_id hb] at h <;> cases pol
    ·exact ⟨false,by simp only [Want,hg];exact ⟨c,_,hc,hb,.inl ⟨_,rfl,rfl⟩⟩,fun e=>(by cases e),fun _=>h⟩
    ·exact ⟨true,by simp only [Want,hg];exact ⟨c,_,hc,hb,.inl ⟨_,rfl,rfl⟩⟩,fun _=>h,fun e=>(by cases e)⟩
    ·exact ⟨true,by simp only [Want,hg];exact ⟨c,_,hc,hb,.inl ⟨_,rfl,rfl⟩⟩,fun _=>h,fun e=>(by cases e)⟩
    ·exact ⟨false,by simp only [Want,hg];exact ⟨c,_,hc,hb,.inl ⟨_,rfl,rfl⟩⟩,fun e=>(by cases e),fun _=>h⟩
   ·rename_i hb
    exact ⟨false,by unfold Want;simp only [hg];exact ⟨c,.tup [],hc,hb,Or.inr (by simp)⟩,fun e=>(by cases e),fun _=>h⟩
   ·cases h
theorem cons_draw {j m:Nat} {fr:Bool} {l:List DIt} {L:List LogE} {k:St->Option R} {b:Bool} (hw:Want all st o b)
  (h1:b=true->opSem g st o (runK g all st j m fr o l L k)=some y) (h2:b=false->evalDraw g all l L (stSkip st o.dst) k=some y):evalDraw g all ((j,m,fr,o)::l) L st k=some y:=by
 unfold Want at hw
 simp only [evalDraw]
 split at hw
 ·rename_i hg
  simp only [hg]
  exact h1 hw
 ·rename_i i pol hg
  obtain ⟨c,sv,e1,e2,⟨v,e4,e3⟩ | ⟨e4,e3⟩⟩:=hw
  case inr=>subst e4 e3;simp only [hg,e1,e2];exact h2 rfl
  subst e4
  simp only [hg,e1,e2]
  cases v <;> cases pol <;> subst e3
  ·exact (show opSem g (stB st c false) o (runK g all (stB st c false) j m fr o l L k)=some y by rw [stB_id e2];exact h1 rfl)
  ·exact (show evalDraw g all l L (stSkip (stB st c false) o.dst) k=some y by rw [stB_id e2];exact h2 rfl)
  ·exact (show evalDraw g all l L (stSkip (stB st c true) o.dst) k=some y by rw [stB_id e2];exact h2 rfl)
  ·exact (show opSem g (stB st c true) o (runK g all (stB st c true) j m fr o l L k)=some y by rw [stB_id e2];exact h1 rfl)
theorem cond_chk {c:Bool} {m:Option R} (h:(bif c then m else none)=some y):c=true/\m=some y:=cond_some h
theorem draw_sub (hD:ConsDet g) {k:St->Option R}:∀ (l:List DIt) (L L':List LogE) (st:St),(∀ x∈L',x∈L)->evalDraw g all l L st k=some y->evalDraw g all l L' st k=some y
 | [],L,L',st,hs,h=>h
 | (j,m,fr,o)::l,L,L',st,hs,h=>by
  obtain ⟨b,hw,h1,h2⟩:=draw_cons h
  refine cons_draw hw (fun hb=>opSem_mono hD (h1 hb) fun e he=>?_) fun hb=>draw_sub hD l L L' _ hs (h2 hb)
  obtain ⟨c,he⟩:=cond_chk he
  show (bif _ then _ else none)=some y
  rw [chkL_sub hs c,cond_true]
  exact draw_sub hD l _ _ _ (fun x hx=>by
   cases hx with
   | head=>simp
   | tail _ hx=>exact List.mem_cons_of_mem _ (hs x hx)) he
def Free (all:List Oper) (i:Nat) (x:Oper) (m:Nat) (fr:Bool) (o:Oper):Prop :=
 m.testBit i=false/\fr=true/\apartB all x o=true/\isNilBin x=false
theorem apart_eq {x:Oper} (h:apartB all x o=true):(∀ d,x.dst=some d->d ∉ looksB all o)/\(∀ d,o.dst=some d->d ∉ looksB all x)/\(∀ d,x.dst=some d->o.dst≠some d):=by
 simp only [apartB,Bool.and_eq_true,Bool.not_eq_true'] at h
 obtain ⟨⟨h1,h2⟩,h3⟩:=h
 refine ⟨fun d hd=>?_,fun d hd=>?_,fun d hd e=>?_⟩
 ·simp only [isDst,hd] at h1;exact memNat_false.1 h1
 ·simp only [isDst,hd] at h2;exact memNat_false.1 h2
 ·rw [hd,e] at h3;simp at h3
theorem ob_apply {d:Option Tmp} {e:Eff} {r:Nat} (h:∀ x∈e.upd,x.1≠r):(st.apply d e).ob r=st.ob r:=by
 show look (st.apply d e).objs r=_
 rw [apply_objs];exact look_upds_other _ _ _ h
theorem slot_apply {d:Option Tmp} {e:Eff} {n:Nat} (h:d≠some n) (hk:∀ x∈e.kill,killS x.1 x.2 (getSlot st.env n)=getSlot st.env n):getSlot (st.apply d e).env n=getSlot st.env n:=by
 rw [apply_env,get_setO h];exact get_kills rfl hk
theorem slot_back {d:Option Tmp} {e:Eff} {n:Nat} {v:SV} (h:d≠some n) (hv:isDeadSV v=false) (hn:getSlot (st.apply d e).env n=v):getSlot st.env n=v:=by
 rw [apply_env,get_setO h] at hn;exact kills_back hv hn
theorem slot_skip {d:Option Tmp} {n:Nat} (h:d≠some n):getSlot (stSkip st d).env n=getSlot st.env n:=by
 rw [skip_env,get_setO h]
theorem ob_skip {d:Option Tmp} {r:Nat}:(stSkip st d).ob r=st.ob r:=by
 show look (stSkip st d).objs r=_
 rw [skip_objs];rfl
theorem bool_kill {c:Nat} {sv:SV} (hs:Stays sv) (h:getSlot st.env c=sv) {l:List (Nat×KK)}:∀ x∈l,killS x.1 x.2 (getSlot st.env c)=getSlot st.env c:=fun x hx=>by
 rw [h]
 rcases hs with ⟨v,e⟩ | e <;> subst e <;> rfl
theorem stays_dead {sv:SV} (hs:Stays sv):isDeadSV sv=false:=by
 rcases hs with ⟨v,e⟩ | e <;> subst e <;> rfl
theorem vals_eq (h:∀ n,.tmp n∈opOpnds o.op->getSlot st'.env n=getSlot st.env n):valsOf st' o=valsOf st o :=
 getSlots_eq fun n hn=>h n (opnds_mem.1 hn)
theorem bubble (hD:ConsDet g) {j m:Nat} {fr:Bool} {l2:List DIt} {k:St->Option R}:∀ (l1:List DIt) (L:List LogE) (st:St),sortedK st.objs=true->(∀ i∈l1,Free all i.1 i.2.2.2 m fr o) ->
  evalDraw g all (l1 ++ (j,m,fr,o)::l2) L st k=some y ->
  ∃ b,Want all st o b /\
   (b=true->∃ Kj:Eff->Option R,opSem g st o Kj=some y/\∀ e,Kj e=some y->chkL fr m L (needsMem o) (valsOf st o) e=true/\evalDraw g all (l1 ++ l2) L (st.apply o.dst e) k=some y) /\
   (b=false->evalDraw g all (l1 ++ l2) L (stSkip st o.dst) k=some y):=by
 intro l1
 induction l1 with
 | nil =>
  intro L st hs hF h
  obtain ⟨b,h1,h2,h3⟩:=draw_cons h
  refine ⟨b,h1,fun hb=>⟨_,h2 hb,fun e he=>⟨(cond_chk he).1,?_⟩⟩,h3⟩
  exact draw_sub hD l2 _ _ _ (fun x hx=>List.mem_cons_of_mem _ hx) (cond_chk he).2
 | cons i l1 ih =>
  intro L st hs hF h
  obtain ⟨ji,mi,fri,x⟩:=i
  have hF1:∀ i∈l1,Free all i.1 i.2.2.2 m fr o:=fun i hi=>hF i (by simp [hi])
  obtain ⟨hbit,hfr,hap,hnil⟩:=hF (ji,mi,fri,x) (by simp)
  simp only at hbit hap hnil
  obtain ⟨ap1,ap2,ap3⟩:=apart_eq hap
  have hop:∀ n,Operand.tmp n∈opOpnds o.op->x.dst≠some n:=fun n hn e=>ap1 n e (by simp only [looksB,List.mem_append];exact .inr (opnds_mem.2 hn))
  have hop':∀ n,Operand.tmp n∈opOpnds x.op->o.dst≠some n:=fun n hn e=>ap2 n e (by simp only [looksB,List.mem_append];exact .inr (opnds_mem.2 hn))
  have ap3':∀ d,o.dst=some d->x.dst≠some d:=fun d hd e=>ap3 d e hd
  obtain ⟨bi,hw,hrun,hskip⟩:=draw_cons h
  have wx:∀ {e:Eff},Want all (st.apply o.dst e) x bi:=fun {e}=>hw.at fun c v hc hsv hv=>by
   rw [slot_apply (fun q=>ap2 c q hc) (bool_kill hsv hv)];exact hv
  have wxs:Want all (stSkip st o.dst) x bi:=hw.at fun c v hc hsv hv=>by
   rw [slot_skip (fun q=>ap2 c q hc)];exact hv
  cases bi with
  | false =>
   have h1:=hskip rfl
   obtain ⟨b,g1,g2,g3⟩:=ih L _ (by rw [skip_objs];exact hs) hF1 h1
   have hsl:∀ n,.tmp n∈opOpnds o.op->getSlot (stSkip st x.dst).env n=getSlot st.env n:=fun n hn=>slot_skip (hop n hn)
   refine ⟨b,g1.at fun c v hc hsv hv=>?_,fun hb=>?_,fun hb=>?_⟩
   ·rwa [slot_skip (fun q=>ap1 c q hc)] at hv
   ·obtain ⟨Kj,k1,k2⟩:=g2 hb
    refine ⟨Kj,?_,fun e he=>?_⟩
    ·rw [← opSem_ag (st':=stSkip st x.dst) hsl (fun n hn r hr=>ob_skip)];exact k1
    ·obtain ⟨c1,c2⟩:=k2 e he
     rw [vals_eq hsl] at c1
     refine ⟨c1,?_⟩
     rw [List.cons_append];refine cons_draw wx (fun q=>by cases q) fun _=>?_
     rw [← skip_apply ap3];exact c2
   ·rw [List.cons_append];refine cons_draw wxs (fun q=>by cases q) fun _=>?_
    rw [← skip_skip ap3];exact g3 hb
  | true =>
   have h1:=hrun rfl
   obtain ⟨ex,q1,q3⟩:=det_op hD hnil h1
   obtain ⟨q4,q5⟩:=cond_chk q1
   obtain ⟨b,g1,g2,g3⟩:=ih _ _ (by rw [apply_objs];exact sorted_upds hs) hF1 q5
   refine ⟨b,g1.at fun c v hc hsv hv=>slot_back (fun q=>ap1 c q hc) (stays_dead hsv) hv,fun hb=>?_,fun hb=>?_⟩
   ·obtain ⟨Kj,k1,k2⟩:=g2 hb
    have split:∀ e,Kj e=some y->noDead (valsOf (st.apply x.dst ex) o)=true/\chkAll m (needsMem o) (valsOf (st.apply x.dst ex) o) e L=true /\
      commB { i:=ji,mem:=needsMem x,vals:=valsOf st x,e:=ex } (needsMem o) (valsOf (st.apply x.dst ex) o) e=true:=fun e he=>by
     have c1:=(k2 e he).1
     unfold chkL at c1
     rw [hfr,cond_true,Bool.and_eq_true] at c1
     refine ⟨c1.1,chkAll_iff.2 fun z hz=>chkAll_iff.1 c1.2 z (List.mem_cons_of_mem _ hz),?_⟩
     rcases chkAll_iff.1 c1.2 _ (List.mem_cons_self ..) with z | z
     ·simp only at z;rw [hbit] at z;cases z
     ·exact z
    obtain ⟨e0,he0⟩:=opSem_ex hD k1
    obtain ⟨nd,_,cm0⟩:=split e0 he0
    have hsl:∀ n,.tmp n∈opOpnds o.op->getSlot (st.apply x.dst ex).env n=getSlot st.env n:=fun n hn =>
     (slot_back (hop n hn) (noDead_mem nd n (opnds_mem.2 hn)) rfl).symm
    have hval:valsOf (st.apply x.dst ex) o=valsOf st o:=vals_eq hsl
    have hEq:∀ kk:Eff->Option R,opSem g (st.apply x.dst ex) o kk=opSem g st o kk:=fun kk=>by
     cases hm:needsMem o with
     | false=>exact opSem_agN hm hsl
     | true =>
      refine opSem_ag hsl fun n hn r hr=>ob_apply fun z hz=>?_
      simp only [commB,Bool.and_eq_true] at cm0
      have h5:=cm0.2
      rw [hval,hm] at h5
      exact offU_mem rfl h5 n (opnds_mem.2 hn) r hr z hz
    refine ⟨Kj,by rw [← hEq];exact k1,fun e he=>?_⟩
    obtain ⟨_,c1,cm⟩:=split e he
    have c2:=(k2 e he).2
    refine ⟨?_,?_⟩
    ·unfold chkL
     rw [hfr,cond_true,Bool.and_eq_true,← hval]
     exact ⟨nd,c1⟩
    ·simp only [commB,Bool.and_eq_true,Bool.not_eq_true'] at cm
     obtain ⟨⟨⟨⟨m1,m2⟩,m3⟩,m4⟩,m5⟩:=cm
     have hsx:∀ n,.tmp n∈opOpnds x.op->getSlot (st.apply o.dst e).env n=getSlot st.env n:=fun n hn =>
      slot_apply (hop' n hn) ((offV_mem m4 n (opnds_mem.2 hn)).1)
     have hEx:∀ kk:Eff->Option R,opSem g (st.apply o.dst e) x kk=opSem g st x kk:=fun kk=>by
      cases hm:needsMem x with
      | false=>exact opSem_agN hm hsx
      | true=>exact opSem_ag hsx fun n hn r hr=>ob_apply fun z hz=>(offV_mem m4 n (opnds_mem.2 hn)).2 hm r hr z hz
     rw [List.cons_append];refine cons_draw wx (fun _=>?_) fun q=>by cases q
     rw [hEx,q3]
     show (bif chkL fri mi L (needsMem x) (valsOf (st.apply o.dst e) x) ex then evalDraw g all (l1 ++ l2) ({ i:=ji,mem:=needsMem x,vals:=valsOf (st.apply o.dst e) x,e:=ex }::L) ((st.apply o.dst e).apply x.dst ex) k else none)=some y
     rw [vals_eq hsx,q4,cond_true,← apply_comm ap3 hs (fun a ha z hz q=>keysU_mem m1 z hz (q ▸ keysOf_mem ha)) (hitsK_mem m2) (hitsK_mem m3)]
     exact c2
   ·rw [List.cons_append];refine cons_draw wxs (fun _=>?_) fun q=>by cases q
    have hsx:∀ n,.tmp n∈opOpnds x.op->getSlot (stSkip st o.dst).env n=getSlot st.env n:=fun n hn=>slot_skip (hop' n hn)
    have hEx:∀ kk:Eff->Option R,opSem g (stSkip st o.dst) x kk=opSem g st x kk:=fun kk=>opSem_ag hsx fun n hn r hr=>ob_skip
    rw [hEx,q3]
    show (bif chkL fri mi L (needsMem x) (valsOf (stSkip st o.dst) x) ex then evalDraw g all (l1 ++ l2) ({ i:=ji,mem:=needsMem x,vals:=valsOf (stSkip st o.dst) x,e:=ex }::L) ((stSkip st o.dst).apply x.dst ex) k else none)=some y
    rw [vals_eq hsx,q4,cond_true,skip_apply ap3']
    exact g3 hb
end
end Go.AE
namespace Go.AE
inductive Reach (all:List Oper):Nat->Nat->Prop where
 | one {i x:Nat} {o:Oper}:all[x]?=some o->i∈predsIn o.after.toList->Reach all i x
 | step {i p x:Nat} {o:Oper}:all[x]?=some o->p∈predsIn o.after.toList->Reach all i p->Reach all i x
theorem preds_mem {p:Nat} (l:List Edge):p∈predsIn l ↔ ∃ e∈l,Region.binds .any e=true/\e.on=p:=by
 induction l with
 | nil=>simp [predsIn]
 | cons e l ih =>
  have yes:Region.binds .any e=true->predsIn (e::l)=e.on::predsIn l->(p∈predsIn (e::l) ↔ ∃ x∈e::l,Region.binds .any x=true/\x.on=p):=by
   intro h1 h2
   rw [h2,List.mem_cons,ih]
   constructor
   ·rintro (h | ⟨x,hx,h⟩)
    ·exact ⟨e,by simp,h1,h.symm⟩
    ·exact ⟨x,by simp [hx],h⟩
   ·rintro ⟨x,hx,h3,h4⟩
    cases hx with
    | head=>exact .inl h4.symm
    | tail _ hx=>exact .inr ⟨x,hx,h3,h4⟩
  have no:Region.binds .any e=false->predsIn (e::l)=predsIn l->(p∈predsIn (e::l) ↔ ∃ x∈e::l,Region.binds .any x=true/\x.on=p):=by
   intro h1 h2
   rw [h2,ih]
   constructor
   ·rintro ⟨x,hx,h⟩
    exact ⟨x,by simp [hx],h⟩
   ·rintro ⟨x,hx,h3,h4⟩
    cases hx with
    | head=>rw [h1] at h3;cases h3
    | tail _ hx=>exact ⟨x,hx,h3,h4⟩
  cases hg:e.ground with
  | textOnly r=>exact no (by unfold Region.binds;rw [hg];rfl) (by simp only [predsIn,hg])
  | gcOnly r=>exact no (by unfold Region.binds;rw [hg];rfl) (by simp only [predsIn,hg])
  | data=>exact yes (by unfold Region.binds;rw [hg]) (by simp only [predsIn,hg])
  | chain=>exact yes (by unfold Region.binds;rw [hg]) (by simp only [predsIn,hg])
  | guard=>exact yes (by unfold Region.binds;rw [hg]) (by simp only [predsIn,hg])
  | phase=>exact yes (by unfold Region.binds;rw [hg]) (by simp only [predsIn,hg])
theorem doneHas_iff:∀ {l:List (Nat×Oper)} {j:Nat},doneHas l j=true ↔ ∃ x∈l,x.1=j
 | [],j=>by simp [doneHas]
 | (i,o)::l,j=>by
  simp only [doneHas,Bool.or_eq_true,nbeq_true,List.mem_cons,exists_eq_or_imp]
  rw [doneHas_iff]
theorem allDone_mem {done:List (Nat×Oper)}:∀ {l:List Nat},allDone done l=true->∀ p∈l,∃ x∈done,x.1=p
 | q::l,h,p,hp=>by
  simp only [allDone,Bool.and_eq_true] at h
  cases hp with
  | head=>exact doneHas_iff.1 h.1
  | tail _ hp=>exact allDone_mem h.2 p hp
theorem cloMask_bit {all:List Oper} {acc:List (Nat×Nat)} (hacc:∀ j m,look acc j=some m->∀ i,m.testBit i=true->Reach all i j):∀ {ps:List Nat} {i:Nat},(cloMask acc ps).testBit i=true->i∈ps \/ ∃ p∈ps,Reach all i p
 | [],i,h=>by simp [cloMask] at h
 | p::ps,i,h=>by
  simp only [cloMask,Nat.testBit_or,Bool.or_eq_true] at h
  rcases h with h | h | h
  ·left
   rw [Nat.testBit_shiftLeft] at h
   simp only [Bool.and_eq_true,decide_eq_true_eq,Nat.testBit_one_eq_true_iff_self_eq_zero] at h
   have:i=p:=by omega
   simp [this]
  ·right
   split at h
   ·rename_i m hm;exact ⟨p,by simp,hacc p m hm i h⟩
   ·simp at h
  ·rcases cloMask_bit hacc h with z | ⟨q,hq,z⟩
   ·exact .inl (by simp [z])
   ·exact .inr ⟨q,by simp [hq],z⟩
theorem okWith_mem {all:List Oper} {m:Nat} {o:Oper} (l:List (Nat×Oper)) (h:okWith all m o l=true):∀ x∈l,m.testBit x.1=true \/ (apartB all x.2 o=true/\isNilBin x.2=false):=by
 induction l with
 | nil=>intro x hx;cases hx
 | cons z l ih =>
  obtain ⟨i,z⟩:=z
  intro x hx
  simp only [okWith,Bool.and_eq_true,Bool.or_eq_true,Bool.not_eq_true'] at h
  cases hx with
  | head=>exact h.1
  | tail _ hx=>exact ih h.2 x hx
theorem free_any {m:Nat} {x:Nat×Oper} (h:m.testBit x.1=false) (l:List (Nat×Oper)) (hx:x∈l):anyFree m l=true:=by
 induction l with
 | nil=>cases hx
 | cons z l ih =>
  obtain ⟨i,z⟩:=z
  simp only [anyFree,Bool.or_eq_true,Bool.not_eq_true']
  cases hx with
  | head=>exact .inl h
  | tail _ hx=>exact .inr (ih hx)
def Ahead (all:List Oper) (i:Nat) (oi:Oper) (x:DIt):Prop :=
 (Reach all i x.1 \/ Free all i oi x.2.1 x.2.2.1 x.2.2.2)/\i≠x.1/\x.1 ∉ predsIn oi.after.toList
theorem plan_ok {all:List Oper}:∀ {ord:List Nat} {done:List (Nat×Oper)} {acc:List (Nat×Nat)} {l:List DIt},drawPlan all ord done acc=some l ->
  (∀ j m,look acc j=some m->∀ i,m.testBit i=true->Reach all i j)->(∀ x∈done,all[x.1]?=some x.2)->(∀ x∈done,∀ p∈predsIn x.2.after.toList,∃ z∈done,z.1=p) ->
  l.map (·.1)=ord/\(∀ x∈l,all[x.1]?=some x.2.2.2/\x.1 ∉ predsIn x.2.2.2.after.toList/\(∀ p∈predsIn x.2.2.2.after.toList,p < all.length)) /\
   l.Pairwise (fun i x=>Ahead all i.1 i.2.2.2 x)/\∀ x∈l,∀ z∈done,Ahead all z.1 z.2 x
 | [],done,acc,l,h,h1,h2,h3=>by
  simp only [drawPlan,Option.some.injEq] at h
  subst h
  exact ⟨rfl,fun _ h=>(by cases h),List.Pairwise.nil,fun _ h=>(by cases h)⟩
 | j::rest,done,acc,l,h,h1,h2,h3=>by
  simp only [drawPlan] at h
  split at h
  ·cases h
  ·rename_i o ho
   rw [opers_get] at ho
   obtain ⟨hc,h⟩:=cond_some h
   simp only [Bool.and_eq_true,Bool.not_eq_true'] at hc
   obtain ⟨⟨hp,hnj⟩,hok⟩:=hc
   split at h
   ·rename_i l' hl'
    simp only [Option.some.injEq] at h
    have hp:=allDone_mem hp
    have hnj:∀ x∈done,x.1≠j:=fun x hx e=>by
     have:=doneHas_iff.2 ⟨x,hx,e⟩
     rw [hnj] at this;cases this
    have hreach:∀ i,(cloMask acc (predsIn o.after.toList)).testBit i=true->Reach all i j:=fun i hi=>by
     rcases cloMask_bit h1 hi with z | ⟨p,hp,z⟩
     ·exact .one ho z
     ·exact .step ho hp z
    obtain ⟨k1,k2,k3,k4⟩:=plan_ok hl' (fun j' m hm i hi=>by
      simp only [look] at hm
      cases hb:Nat.beq j j' with
      | true =>
       rw [hb] at hm
       simp only [cond_true,Option.some.injEq] at hm
       subst hm
       rw [← nbeq_true.1 hb];exact hreach i hi
      | false=>rw [hb] at hm;exact h1 j' m hm i hi)
     (fun x hx=>by
      cases hx with
      | head=>exact ho
      | tail _ hx=>exact h2 x hx)
     (fun x hx p hpx=>by
      cases hx with
      | head=>obtain ⟨z,hz,e⟩:=hp p hpx;exact ⟨z,by simp [hz],e⟩
      | tail _ hx=>obtain ⟨z,hz,e⟩:=h3 x hx p hpx;exact ⟨z,by simp [hz],e⟩)
    subst h
    refine ⟨by simp only [List.map_cons,k1],?_,?_,?_⟩
    ·intro x hx
     cases hx with
     | head =>
      refine ⟨ho,fun hj=>?_,fun p hpx=>?_⟩
      ·obtain ⟨z,hz,e⟩:=hp j hj;exact hnj z hz e
      ·obtain ⟨z,hz,e⟩:=hp p hpx
       have:=h2 z hz
       rw [e] at this
       exact (List.getElem?_eq_some_iff.1 this).1
     | tail _ hx=>exact k2 x hx
    ·refine List.Pairwise.cons (fun x hx=>?_) k3
     exact k4 x hx (j,o) (by simp)
    ·intro x hx z hz
     cases hx with
     | head =>
      refine ⟨?_,hnj z hz,fun hj=>?_⟩
      ·cases hb:(cloMask acc (predsIn o.after.toList)).testBit z.1 with
       | true=>exact .inl (hreach _ hb)
       | false =>
        right
        rcases okWith_mem _ hok z hz with q | ⟨q1,q2⟩
        ·rw [hb] at q;cases q
        ·exact ⟨hb,free_any hb _ hz,q1,q2⟩
      ·obtain ⟨u,hu,e⟩:=h3 z hz j hj
       exact hnj u hu e
     | tail _ hx=>exact k4 x hx z (by simp [hz])
   ·cases h
structure Far (all:List Oper) (rem:List DIt) (listed:Array Bool):Prop where
 size:listed.size=all.length
 lst:∀ i,i < all.length->(listed.getD i true=true ↔ ∀ x∈rem,x.1≠i)
 mem:∀ x∈rem,all[x.1]?=some x.2.2.2/\x.1 ∉ predsIn x.2.2.2.after.toList/\(∀ p∈predsIn x.2.2.2.after.toList,p < all.length)
 pw:rem.Pairwise (fun i x=>Ahead all i.1 i.2.2.2 x)
 down:∀ i o,all[i]?=some o->(∀ x∈rem,x.1≠i)->∀ p∈predsIn o.after.toList,∀ x∈rem,x.1≠p
theorem reach_out {all:List Oper} {rem:List DIt} {listed:Array Bool} (F:Far all rem listed) {i x:Nat} (h:Reach all i x):(∀ o,all[x]?=some o->∀ p∈predsIn o.after.toList,∀ z∈rem,z.1≠p)->∀ z∈rem,z.1≠i:=by
 induction h with
 | one hx hi=>intro hp;exact hp _ hx _ hi
 | step hx hp' _ ih=>intro hp;exact ih fun o ho=>F.down _ o ho (hp _ hx _ hp')
theorem getD_lt {l:Array Bool} {i:Nat} (h:i < l.size):l.getD i false=l.getD i true:=by
 simp [Array.getD,h]
section
variable {P:Program} {tb:Hp} {C:Ctx tb} {Z:Sup} {st:St} {a:Act} {w w':World} {g:Cfg} {o:Oper} {R:Type} {y:R}
theorem want_ok (Rl:Rel Z st a.tmps w) {all:List Oper} {b:Bool} (h:Want all st o b):Region.wanted o (yielded all.toArray a.tmps)=b:=by
 unfold Want at h
 split at h
 ·rename_i hg;rw [h];exact wanted_none hg _
 ·rename_i i pol hg
  obtain ⟨c,sv,h1,h2,⟨v,h4,h3⟩ | ⟨h4,h3⟩⟩:=h
  ·subst h4
   rw [wanted_some hg,yielded_eq h1,getD_some (slot_bool Rl h2),h3]
   cases v <;> cases pol <;> rfl
  ·subst h4 h3
   rw [wanted_some hg,yielded_eq h1]
   obtain ⟨vs,e,al⟩:RelSV Z st.ob (.tup []) (a.tmps.getD c undef):=h2 ▸ Rl.env c
   have ev:vs=[]:=by cases vs with | nil=>rfl | cons _ _=>exact al.elim
   subst ev
   cases ho:a.tmps[c]? with
   | none=>cases pol <;> rfl
   | some u =>
    have:a.tmps.getD c undef=u:=by simp [Array.getD_eq_getD_getElem?,ho]
    rw [this] at e
    subst e
    cases pol <;> rfl
theorem any_ok (hg:tableOk P g.ty=true) (hc:ConsOk P tb g.con) {all:List Oper} {k:St->Option R} {Q:Exit->Act->World->Prop}
  (hQ:∀ st' a' w' Z',k st'=some y->a'.defers=[]->Rel Z' st' a'.tmps w'->Fr C Z' w'->Q .normal a' w') :
  ∀ (n:Nat) (rem:List DIt) (listed:Array Bool) (st:St) (a:Act) (w:World) (Z:Sup) (L:List LogE),rem.length=n->Far all rem listed->a.defers=[]->Rel Z st a.tmps w->Fr C Z w->sortedK st.objs=true ->
   evalDraw g all rem L st k=some y->wpAny P .any all.toArray Q n listed a w:=by
 intro n
 induction n with
 | zero =>
  intro rem listed st a w Z L hn Fa hd Rl F hs h
  have hr:rem=[]:=List.eq_nil_of_length_eq_zero hn
  subst hr
  refine ⟨?_,hQ st a w Z h hd Rl F⟩
  unfold Region.ready
  rw [List.filter_eq_nil_iff]
  intro i hi
  have hi:i < all.length:=by simpa using hi
  have:=(Fa.lst i hi).2 (by simp)
  rw [this];simp
 | succ n ih =>
  intro rem listed st a w Z L hn Fa hd Rl F hs h
  have hlst:∀ p,p < all.length->(∀ x∈rem,x.1≠p)->listed.getD p false=true:=fun p hp hx=>by
   rw [getD_lt (by rw [Fa.size];exact hp)];exact (Fa.lst p hp).2 hx
  constructor
  ·intro hr
   exfalso
   cases rem with
   | nil=>cases hn
   | cons x rem =>
    obtain ⟨e1,e2,e3⟩:=Fa.mem x (by simp)
    have hx:x.1 < all.length:=(List.getElem?_eq_some_iff.1 e1).1
    have:x.1∈Region.ready .any all.toArray listed:=by
     unfold Region.ready
     rw [List.mem_filter]
     refine ⟨by simpa using hx,?_⟩
     have hl:listed.getD x.1 true=false:=by
      cases hb:listed.getD x.1 true with
      | false=>rfl
      | true=>exact absurd rfl ((Fa.lst x.1 hx).1 hb x (by simp))
     rw [hl]
     simp only [List.getElem?_toArray,e1,Option.map_some,Option.getD_some,Bool.not_false,Bool.true_and]
     rw [Array.all_eq_true_iff_forall_mem]
     intro e he
     cases hb:Region.binds .any e with
     | false=>rfl
     | true =>
      simp only [Bool.not_true,Bool.false_or]
      have hp:e.on∈predsIn x.2.2.2.after.toList:=(preds_mem _).2 ⟨e,by simpa using he,hb,rfl⟩
      refine hlst _ (e3 _ hp) fun z hz=>?_
      cases hz with
      | head=>exact fun q=>e2 (q ▸ hp)
      | tail _ hz =>
       have:=(List.pairwise_cons.1 Fa.pw).1 z hz
       exact fun q=>this.2.2 (q ▸ hp)
    rw [hr] at this;cases this
  ·intro i hi
   unfold Region.ready at hi
   rw [List.mem_filter] at hi
   obtain ⟨hi1,hi2⟩:=hi
   have hi1:i < all.length:=by simpa using hi1
   simp only [Bool.and_eq_true,Bool.not_eq_true'] at hi2
   obtain ⟨hi2,hi3⟩:=hi2
   obtain ⟨x,hx,hxi⟩:∃ x∈rem,x.1=i:=by
    apply Classical.byContradiction
    intro hne
    have:=(Fa.lst i hi1).2 fun x hx e=>hne ⟨x,hx,e⟩
    rw [hi2] at this;cases this
   subst hxi
   obtain ⟨j,m,fr,o⟩:=x
   obtain ⟨e1,e2,e3⟩:=Fa.mem _ hx
   simp only at e1 e2 e3 hi1 hi2 hi3
   have hpre:∀ p∈predsIn o.after.toList,∀ z∈rem,z.1≠p:=by
    intro p hp z hz
    obtain ⟨e,he,hb,hon⟩:=(preds_mem _).1 hp
    simp only [List.getElem?_toArray,e1,Option.map_some,Option.getD_some,Array.all_eq_true_iff_forall_mem] at hi3
    have h4:=hi3 e (by simpa using he)
    rw [hb] at h4
    simp only [Bool.not_true,Bool.false_or,hon] at h4
    rw [getD_lt (by rw [Fa.size];exact e3 p hp)] at h4
    exact (Fa.lst p (e3 p hp)).1 h4 z hz
   obtain ⟨l1,l2,hsp⟩:=List.append_of_mem hx
   have hpw:=Fa.pw
   rw [hsp,List.pairwise_append] at hpw
   obtain ⟨pw1,pw2,pw12⟩:=hpw
   have hfree:∀ z∈l1,Free all z.1 z.2.2.2 m fr o:=by
    intro z hz
    obtain ⟨q1,q2,q3⟩:=pw12 z hz (j,m,fr,o) (by simp)
    rcases q1 with q1 | q1
    ·exfalso
     refine reach_out Fa q1 (fun o' ho' p hp=>?_) z (by rw [hsp];simp [hz]) rfl
     rw [e1] at ho';injection ho' with ho';subst ho'
     exact hpre p hp
    ·exact q1
   have hne1:∀ z∈l1,z.1≠j:=fun z hz=>(pw12 z hz (j,m,fr,o) (by simp)).2.1
   have hne2:∀ z∈l2,z.1≠j:=fun z hz=>((List.pairwise_cons.1 pw2).1 z hz).2.1.symm
   have hrem:∀ z∈l1 ++ l2,z∈rem:=fun z hz=>by
    rw [hsp]
    rcases List.mem_append.1 hz with q | q
    ·simp [q]
    ·simp [q]
   have Fa':Far all (l1 ++ l2) (listed.setIfInBounds j true):=by
    refine ⟨by simp [Fa.size],?_,fun z hz=>Fa.mem z (hrem z hz),?_,?_⟩
    ·intro p hp
     by_cases hpj:p=j
     ·subst hpj
      refine ⟨fun _ z hz=>?_,fun _=>?_⟩
      ·rcases List.mem_append.1 hz with q | q
       ·exact hne1 z q
       ·exact hne2 z q
      ·simp [Array.getD,Fa.size,hp]
     ·have hg:(listed.setIfInBounds j true).getD p true=listed.getD p true:=by
       simp only [Array.getD_eq_getD_getElem?,Array.getElem?_setIfInBounds]
       rw [if_neg (fun q=>hpj q.symm)]
      rw [hg,Fa.lst p hp]
      refine ⟨fun h z hz=>h z (hrem z hz),fun h z hz=>?_⟩
      rw [hsp] at hz
      rcases List.mem_append.1 hz with q | q
      ·exact h z (List.mem_append_left _ q)
      ·cases q with
       | head=>exact fun q=>hpj q.symm
       | tail _ q=>exact h z (List.mem_append_right _ q)
    ·rw [List.pairwise_append]
     exact ⟨pw1,(List.pairwise_cons.1 pw2).2,fun z hz u hu=>pw12 z hz u (by simp [hu])⟩
    ·intro p q hq hp r hr z hz
     by_cases hpj:p=j
     ·subst hpj
      rw [e1] at hq;injection hq with hq;subst hq
      exact hpre r hr z (hrem z hz)
     ·refine Fa.down p q hq (fun u hu=>?_) r hr z (hrem z hz)
      rw [hsp] at hu
      rcases List.mem_append.1 hu with v | v
      ·exact hp u (by simp [v])
      ·cases v with
       | head=>exact fun q=>hpj q.symm
       | tail _ v=>exact hp u (List.mem_append_right _ v)
   have hlen:(l1 ++ l2).length=n:=by
    have:rem.length=l1.length+(l2.length+1):=by rw [hsp];simp
    simp only [List.length_append];omega
   rw [hsp] at h
   obtain ⟨b,hw,hrun,hskip⟩:=bubble (fun f ps c e=>(hc f ps c e).2.2) l1 L st hs hfree h
   have hwant:=want_ok Rl hw
   unfold wpOp
   simp only [List.getElem?_toArray,e1]
   rw [hwant]
   cases b with
   | true =>
    rw [if_pos rfl]
    obtain ⟨Kj,k1,k2⟩:=hrun rfl
    obtain ⟨e,he,hdoes⟩:=opSem_ok hg hc hd Rl F k1
    obtain ⟨c1,c2⟩:=k2 e he
    refine .inl (hdoes _ _ fun v w1 I=>?_)
    obtain ⟨hd1,Z1,R1,F1,K1⟩:=I
    exact ih _ _ _ _ w1 Z1 L hlen Fa' hd1 R1 F1 (by rw [apply_objs];exact sorted_upds hs) c2
   | false =>
    rw [if_neg (by simp)]
    exact ih _ _ _ _ w Z L hlen Fa' (by rw [put_defers];exact hd) Rl.skip F (by rw [skip_objs];exact hs) (hskip rfl)
theorem coverN_mem {l:List Nat}:∀ {n i:Nat},coverN l n=true->i < n->i∈l
 | n+1,i,h,hi=>by
  simp only [coverN,Bool.and_eq_true] at h
  by_cases e:i=n
  ·subst e;exact memNat_iff.1 h.1
  ·exact coverN_mem h.2 (by omega)
theorem draw_ok (hg:tableOk P g.ty=true) (hc:ConsOk P tb g.con) (hm:P.follows .mixedOrders=true) {id:Nat} {ops:Array Oper} {ord:List Nat} {l:List DIt} (hlen:ord.length=ops.toList.length)
  (hcov:coverN ord ops.toList.length=true) (hs:sortedK st.objs=true)
  (hl:drawPlan ops.toList ord [] []=some l) (hd:a.defers=[]) (Rl:Rel Z st a.tmps w) (F:Fr C Z w) {k:St->Option R} {y:R} (h:evalDraw g ops.toList l [] st k=some y)
  {Q:Exit->Act->World->Prop} (hQ:∀ st' a' w' Z',k st'=some y->a'.defers=[]->Rel Z' st' a'.tmps w'->Fr C Z' w'->Q .normal a' w'):(Code.region id ops true).wp P Q a w:=by
 refine wp_region_any hm ?_
 obtain ⟨k1,k2,k3,_⟩:=plan_ok hl (fun _ _ h=>by cases h) (fun _ h=>by cases h) (fun _ h=>by cases h)
 have hn:l.length=ops.size:=by
  have:(l.map (·.1)).length=ord.length:=by rw [k1]
  simp only [List.length_map] at this
  rw [this,hlen];simp
 have hall:∀ i,i < ops.toList.length->∃ x∈l,x.1=i:=fun i hi=>by
  have:=coverN_mem hcov hi
  rw [← k1,List.mem_map] at this
  exact this
 have hw:∀ (w0:World),w0={ w with drawn:=w.drawn+1 }->Rel Z st a.tmps w0/\Fr C Z w0:=by
  intro w0 e
  subst e
  exact ⟨⟨Rl.imm,Rl.own,Rl.mdj,Rl.dj,Rl.obs,Rl.env,Rl.len,Rl.rse,Rl.pin⟩,⟨F.os,F.tape,F.output,F.size,F.block,F.cell,F.frz,F.m,F.hs,F.mf,F.ptop,F.shp,F.blt⟩⟩
 obtain ⟨R0,F0⟩:=hw _ rfl
 have e:ops.toList.toArray=ops:=by simp
 have:=any_ok (P:=P) (C:=C) hg hc (all:=ops.toList) hQ ops.size l (Array.replicate ops.size false) st a _ Z [] hn ⟨by simp,?_,k2,k3,?_⟩ hd R0 F0 hs h
 ·rw [e] at this;exact this
 ·intro i hi
  obtain ⟨x,hx,hxi⟩:=hall i hi
  constructor
  ·intro q
   exfalso
   have hi':i < ops.size:=by simpa using hi
   simp [Array.getD,hi'] at q
  ·intro q;exact absurd hxi (q x hx)
 ·intro i o ho hx
  exfalso
  obtain ⟨x,hx',hxi⟩:=hall i (List.getElem?_eq_some_iff.1 ho).1
  exact hx x hx' hxi
end
end Go.AE
namespace Go.AE
theorem pathEq_eq:∀ {p q:Path},pathEq p q=true->p=q
 | [],[],_=>rfl
 | a::p,b::q,h=>by
  simp only [pathEq,Bool.and_eq_true] at h
  obtain ⟨h1,h2⟩:=h
  have:=pathEq_eq h2
  subst this
  cases a <;> cases b <;> simp [stpEq] at h1 <;> rfl
 | [],_::_,h=>by cases h
 | _::_,[],h=>by cases h
theorem fitCaps_ok:∀ {l:List SkC} {cs:List Cap} {T:Type} {f:T->capsD l T},fitCaps l cs=some f->∀ t,(mkCaps l (f t)).2=t/\(mkCaps l (f t)).1=cs
 | [],[],T,f,h,t=>by
  simp only [fitCaps,Option.some.injEq] at h
  subst h
  exact ⟨rfl,rfl⟩
 | .cp r p::l,.cp r' p'::cs,T,f,h,t=>by
  simp only [fitCaps] at h
  obtain ⟨hb,h9⟩:=cond_some h
  simp only [Bool.and_eq_true] at hb
  obtain ⟨e1,e2⟩:=hb
  have e1:=Nat.eq_of_beq_eq_true e1
  have e2:=pathEq_eq e2
  subst e1 e2
  split at h9
  ·rename_i f' hf
   simp only [Option.some.injEq] at h9
   subst h9
   obtain ⟨k1,k2⟩:=fitCaps_ok hf t
   exact ⟨k1,by simp only [mkCaps];rw [k2]⟩
  ·cases h9
 | .cr s::l,.cr s' x::cs,T,f,h,t=>by
  simp only [fitCaps] at h
  split at h
  ·rename_i e f' _ hf
   simp only [Option.some.injEq] at h
   subst h
   subst e
   obtain ⟨k1,k2⟩:=fitCaps_ok hf t
   exact ⟨k1,by simp only [mkCaps];rw [k2]⟩
  ·cases h
 | [],_::_,_,_,h,_=>by simp [fitCaps] at h
 | .cp _ _::_,[],_,_,h,_=>by simp [fitCaps] at h
 | .cp _ _::_,.cr _ _::_,_,_,h,_=>by simp [fitCaps] at h
 | .cr _::_,[],_,_,h,_=>by simp [fitCaps] at h
 | .cr _::_,.cp _ _::_,_,_,h,_=>by simp [fitCaps] at h
theorem relSV_cons {Z:Sup} {ob:Obs} {x x':SV} {l l':List SV} (h1:∀ v,RelSV Z ob x v->RelSV Z ob x' v) (h2:∀ i v,RelSV Z ob (getSlot l i) v->RelSV Z ob (getSlot l' i) v) :
  ∀ i v,RelSV Z ob (getSlot (x::l) i) v->RelSV Z ob (getSlot (x'::l') i) v
 | 0,v,h=>h1 v h
 | i+1,v,h=>h2 i v h
theorem fitEnv_ok {Z:Sup} {ob:Obs}:∀ {l:List Sk} {env:List SV} {T:Type} {f:T->envD l T},fitEnv l env=some f->∀ t,
  (mkEnv l (f t)).2=t/\(mkEnv l (f t)).1.length=env.length/\∀ i v,RelSV Z ob (getSlot env i) v->RelSV Z ob (getSlot (mkEnv l (f t)).1 i) v:=by
 intro l
 induction l with
 | nil =>
  intro env T f h t
  cases env with
  | nil =>
   simp only [fitEnv,Option.some.injEq] at h
   subst h
   exact ⟨rfl,rfl,fun _ _ h=>h⟩
  | cons _ _=>simp [fitEnv] at h
 | cons k l ih =>
  intro env T f h t
  cases env with
  | nil=>cases k <;> simp [fitEnv] at h
  | cons x env =>
   cases k with
   | dead =>
    simp only [fitEnv] at h
    split at h
    ·rename_i f' hf
     simp only [Option.some.injEq] at h
     subst h
     obtain ⟨k1,k2,k3⟩:=ih hf t
     exact ⟨k1,by simp only [mkEnv,List.length_cons,k2],relSV_cons (fun v _=>trivial) k3⟩
    ·cases h
   | pv s =>
    cases x with
    | tup _=>simp [fitEnv] at h
    | one x =>
     cases x with
     | pv s' z =>
      simp only [fitEnv] at h
      split at h
      ·rename_i e f' _ hf
       simp only [Option.some.injEq] at h
       subst h
       subst e
       obtain ⟨k1,k2,k3⟩:=ih hf t
       exact ⟨k1,by simp only [mkEnv,List.length_cons,k2],relSV_cons (fun v h=>h) k3⟩
      ·cases h
     | z s' =>
      simp only [fitEnv] at h
      split at h
      ·rename_i e f' _ hf
       simp only [Option.some.injEq] at h
       subst h
       subst e
       obtain ⟨k1,k2,k3⟩:=ih hf t
       exact ⟨k1,by simp only [mkEnv,List.length_cons,k2],relSV_cons (fun v h=>⟨_,h,Rep_zero _ _ _⟩) k3⟩
      ·cases h
     | _=>simp [fitEnv] at h
   | rp s =>
    cases x with
    | tup _=>simp [fitEnv] at h
    | one x =>
     cases x with
     | rp s' z =>
      simp only [fitEnv] at h
      split at h
      ·rename_i e f' _ hf
       simp only [Option.some.injEq] at h
       subst h
       subst e
       obtain ⟨k1,k2,k3⟩:=ih hf t
       exact ⟨k1,by simp only [mkEnv,List.length_cons,k2],relSV_cons (fun v h=>h) k3⟩
      ·cases h
     | _=>simp [fitEnv] at h
   | ptr r p =>
    cases x with
    | tup _=>simp [fitEnv] at h
    | one x =>
     cases x with
     | ptr r' p' =>
      simp only [fitEnv] at h
      obtain ⟨hb,h9⟩:=cond_some h
      simp only [Bool.and_eq_true] at hb
      obtain ⟨e1,e2⟩:=hb
      have e1:=Nat.eq_of_beq_eq_true e1
      have e2:=pathEq_eq e2
      subst e1 e2
      split at h9
      ·rename_i f' hf
       simp only [Option.some.injEq] at h9
       subst h9
       obtain ⟨k1,k2,k3⟩:=ih hf t
       exact ⟨k1,by simp only [mkEnv,List.length_cons,k2],relSV_cons (fun v h=>h) k3⟩
      ·cases h9
     | _=>simp [fitEnv] at h
   | ov r p =>
    cases x with
    | tup _=>simp [fitEnv] at h
    | one x =>
     cases x with
     | ov r' p' =>
      simp only [fitEnv] at h
      obtain ⟨hb,h9⟩:=cond_some h
      simp only [Bool.and_eq_true] at hb
      obtain ⟨e1,e2⟩:=hb
      have e1:=Nat.eq_of_beq_eq_true e1
      have e2:=pathEq_eq e2
      subst e1 e2
      split at h9
      ·rename_i f' hf
       simp only [Option.some.injEq] at h9
       subst h9
       obtain ⟨k1,k2,k3⟩:=ih hf t
       exact ⟨k1,by simp only [mkEnv,List.length_cons,k2],relSV_cons (fun v h=>h) k3⟩
      ·cases h9
     | _=>simp [fitEnv] at h
   | fn f0 caps =>
    cases x with
    | tup _=>simp [fitEnv] at h
    | one x =>
     cases x with
     | fn f1 cs =>
      simp only [fitEnv] at h
      obtain ⟨hb,h9⟩:=cond_some h
      have e1:=Nat.eq_of_beq_eq_true hb
      subst e1
      split at h9
      ·rename_i g1 f' hg hf
       simp only [Option.some.injEq] at h9
       subst h9
       obtain ⟨k1,k2,k3⟩:=ih hf t
       obtain ⟨j1,j2⟩:=fitCaps_ok hg (f' t)
       refine ⟨by simp only [mkEnv];rw [j1];exact k1,by simp only [mkEnv,List.length_cons];rw [j1,k2],?_⟩
       simp only [mkEnv]
       rw [j1,j2]
       exact relSV_cons (fun v h=>h) k3
      ·cases h9
     | _=>simp [fitEnv] at h
theorem pendIs_eq {s:S} {p:Option Path} (h:pendIs s p=true):p=pendOf s:=by
 unfold pendIs at h
 unfold pendOf
 split at h
 ·rw [h];rfl
 ·cases hn:notBlt s with
  | true=>rw [hn] at h;cases h
  | false=>rfl
 ·cases h
theorem fitObs_ok:∀ {l:List SkO} {objs:List (Nat×Ob)} {t:obsD l},fitObs l objs=some t->mkObs l t=objs
 | [],[],_,_=>rfl
 | b::l,(r,ob)::objs,t,h=>by
  simp only [fitObs] at h
  split at h
  ·rename_i e t' _ hp hf
   obtain ⟨hb,h9⟩:=cond_some h
   simp only [Option.some.injEq] at h9
   subst h9
   simp only [Bool.and_eq_true] at hb
   obtain ⟨⟨⟨q1,q2⟩,q3⟩,q4⟩:=hb
   have e1:=Nat.eq_of_beq_eq_true q1
   have e2:=O.beq_eq q2
   have ih:=fitObs_ok hf
   clear h q1 q2
   obtain ⟨br,bs,bo,bm,bf⟩:=b
   obtain ⟨os,oo,ox,om,of',op⟩:=ob
   simp only at e e1 e2 q3 q4 hp
   have hp:=pendIs_eq hp
   subst e e1 e2 hp
   have e3:bm=om:=by cases bm <;> cases om <;> simp_all
   have e4:bf=of':=by cases bf <;> cases of' <;> simp_all
   subst e3 e4
   simp only [mkObs]
   rw [ih]
  ·cases h
 | [],_::_,_,h=>by simp [fitObs] at h
 | _::_,[],_,h=>by simp [fitObs] at h
section
variable {P:Program} {tb:Hp} {C:Ctx tb} {Z:Sup} {st:St} {a:Act} {w w':World} {g:Cfg} {o:Oper} {R:Type} {y:R}
theorem fitK_ok (Rl:Rel Z st a.tmps w) {sk:Skel} {kk:sk.D->Option R} (h:fitK sk st kk=some y):∃ d,kk d=some y/\Rel Z (sk.mk' d) a.tmps w:=by
 unfold fitK at h
 split at h
 ·rename_i f t hf ht
  have ho:=fitObs_ok ht
  obtain ⟨h1,h2,h3⟩:=fitEnv_ok (Z:=Z) (ob:=st.ob) hf t
  have hob:(sk.mk' (f t)).objs=st.objs:=by
   show mkObs sk.objs (mkEnv sk.env (f t)).2=_
   rw [h1];exact ho
  have hob':(sk.mk' (f t)).ob=st.ob:=by funext r;show look _ r=look _ r;rw [hob]
  refine ⟨f t,h,⟨Rl.imm,Rl.own,Rl.mdj,Rl.dj,by rw [hob'];exact Rl.obs,?_,?_,by rw [hob'];exact Rl.rse,by rw [hob'];exact Rl.pin⟩⟩
  ·intro i
   rw [hob']
   exact h3 i _ (Rl.env i)
  ·show a.tmps.size=(mkEnv sk.env (f t)).1.length
   rw [h2];exact Rl.len
 ·cases h
theorem Ex.is_to {e:Ex} {ex:Exit} (h:e.is ex=true):e.to=ex:=by
 cases e <;> cases ex <;> simp [Ex.is] at h
 ·rfl
 ·subst h;rfl
 ·rfl
theorem exOut_ok (Rl:Rel Z st a.tmps w) (F:Fr C Z w) {k:Exit->St->Option R}:∀ {xs:List XS} {ex:Exit},exOut xs ex st (fun e=>exK k xs e)=some y ->
  ∃ st' Z',k ex st'=some y/\Rel Z' st' a.tmps w/\Fr C Z' w
 | [],ex,h=>by cases h
 | [x],ex,h=>by
  simp only [exOut] at h
  obtain ⟨hb,h9⟩:=cond_some h
  obtain ⟨Z2,R2,F2⟩:=norm_ok Rl F x.live
  obtain ⟨d,h1,R3⟩:=fitK_ok R2 h9
  simp only [exK] at h1
  rw [Ex.is_to hb] at h1
  exact ⟨_,Z2,h1,R3,F2⟩
 | x::x2::xs,ex,h=>by
  simp only [exOut] at h
  cases hb:x.ex.is ex with
  | true =>
   rw [hb] at h
   simp only [cond_true] at h
   obtain ⟨Z2,R2,F2⟩:=norm_ok Rl F x.live
   obtain ⟨d,h1,R3⟩:=fitK_ok R2 h
   simp only [exK,onSum] at h1
   rw [Ex.is_to hb] at h1
   exact ⟨_,Z2,h1,R3,F2⟩
  | false =>
   rw [hb] at h
   exact exOut_ok (xs:=x2::xs) Rl F h
theorem exOut_some (Rl:Rel Z st a.tmps w) (F:Fr C Z w):∀ {xs:List XS} {ex:Exit} {e:XD xs},exOut xs ex st some=some e ->
  ∃ st' Z',Rel Z' st' a.tmps w/\Fr C Z' w/\∀ {R:Type} (k:Exit->St->Option R),exK k xs e=k ex st':=by
 have key:∀ {T:Type} {xs:List XS} {ex:Exit} {kx:XD xs->Option T} {t:T},exOut xs ex st kx=some t ->
   ∃ e st' Z',kx e=some t/\Rel Z' st' a.tmps w/\Fr C Z' w/\∀ {R:Type} (k:Exit->St->Option R),exK k xs e=k ex st':=by
  intro T xs
  induction xs with
  | nil=>intro ex kx t h;cases h
  | cons x xs ih =>
   intro ex kx t h
   cases xs with
   | nil =>
    simp only [exOut] at h
    obtain ⟨hb,h⟩:=cond_some h
    obtain ⟨Z2,R2,F2⟩:=norm_ok Rl F x.live
    obtain ⟨d,h1,R3⟩:=fitK_ok R2 h
    exact ⟨d,_,Z2,h1,R3,F2,fun k=>by simp only [exK];rw [Ex.is_to hb]⟩
   | cons x2 xs =>
    simp only [exOut] at h
    cases hb:x.ex.is ex with
    | true =>
     rw [hb] at h
     simp only [cond_true] at h
     obtain ⟨Z2,R2,F2⟩:=norm_ok Rl F x.live
     obtain ⟨d,h1,R3⟩:=fitK_ok R2 h
     exact ⟨.inl d,_,Z2,h1,R3,F2,fun k=>by simp only [exK,onSum];rw [Ex.is_to hb]⟩
    | false =>
     rw [hb] at h
     obtain ⟨e,st',Z',h1,R3,F3,hk⟩:=ih h
     exact ⟨.inr e,st',Z',h1,R3,F3,fun k=>by simp only [exK,onSum];exact hk k⟩
 intro xs ex e h
 obtain ⟨e',st',Z',h1,R3,F3,hk⟩:=key h
 injection h1 with h1
 subst h1
 exact ⟨st',Z',R3,F3,hk⟩
end
end Go.AE
namespace Go.AE
theorem wp_loop_fuel {P:Program} {Q:Exit->Act->World->Prop} {a:Act} {w:World} {c:Code} (I:Nat->Act->World->Prop) {n:Nat} (h₀:I n a w)
  (round:∀ n a w,I n a w->∃ m,n=m+1/\c.wp P (Exit.then (fun a' w'=>I m a' w') Q) a w):(Code.loop c).wp P Q a w:=by
 intro b k cs
 have key:∀ n a w,I n a w->∃ e a' w',Q e a' w'/\Arrives P (lone (b.at a (.code c::.inLoop c::k)) cs w) b k cs e a' w':=by
  intro n
  induction n with
  | zero=>intro a w hI;obtain ⟨m,e,_⟩:=round 0 a w hI;cases e
  | succ n ih =>
   intro a w hI
   obtain ⟨m,e0,hw⟩:=round _ a w hI
   have e0:n=m:=by omega
   subst e0
   obtain ⟨e,a₁,w₁,hq,harr⟩:=hw b (.inLoop c::k) cs
   cases e with
   | normal =>
    obtain ⟨e₂,a₂,w₂,hq₂,harr₂⟩:=ih a₁ w₁ hq
    exact ⟨e₂,a₂,w₂,hq₂,.of_steps (Steps.trans harr (.one step_inLoop)) harr₂⟩
   | exit id=>exact ⟨_,a₁,w₁,hq,.pass (x:=.inLoop c) rfl (fun _ _=>.inl (by simp)) harr⟩
   | goto l=>exact ⟨_,a₁,w₁,hq,.pass (x:=.inLoop c) rfl (fun _ _=>.inl (by simp)) harr⟩
   | ret=>exact ⟨_,a₁,w₁,hq,.pass (x:=.inLoop c) rfl (fun _ _=>.inl (by simp)) harr⟩
   | panic ch=>exact ⟨_,a₁,w₁,hq,.pass (x:=.inLoop c) rfl (fun _ _=>.inl (by simp)) harr⟩
   | outgrown=>exact ⟨_,a₁,w₁,hq,.pass (x:=.inLoop c) rfl (fun _ _=>.inl (by simp)) harr⟩
 obtain ⟨e,a',w',hq,harr⟩:=key _ a w h₀
 exact ⟨e,a',w',hq,.of_steps (.one step_loop) harr⟩
section
variable {P:Program} {tb:Hp} {C:Ctx tb} {Z:Sup} {st:St} {a:Act} {w w':World} {g:Cfg} {o:Oper} {R:Type} {y:R}
def PostC {tb:Hp} (C:Ctx tb) (k:Exit->St->Option R) (y:R) (ex:Exit) (a:Act) (w:World):Prop :=
 ∃ st' Z',k ex st'=some y/\a.defers=[]/\Rel Z' st' a.tmps w/\Fr C Z' w
def LoopOk (P:Program) (tb:Hp) (c:Code) (L:LoopCon):Prop :=
 ∀ {R:Type} (C:Ctx tb) (st:St) (k:Exit->St->Option R) (y:R) (a:Act) (w:World) (Z:Sup),a.defers=[]->Rel Z st a.tmps w->Fr C Z w ->
  L.run st k=some y->(Code.loop c).wp P (PostC C k y) a w
def loopsOf:Code->List Code
 | .loop c=>c::loopsOf c
 | .seq a b=>loopsOf a ++ loopsOf b
 | .block _ c=>loopsOf c
 | .scope c=>loopsOf c
 | .cond _ a b=>loopsOf a ++ loopsOf b
 | _=>[]
def LoopsOk (P:Program) (tb:Hp) (g:Cfg) (c:Code):Prop:=∀ b∈loopsOf c,∀ id L,loopKey b=some id->lookLoop g.loops id=some L->LoopOk P tb b L
theorem LoopsOk.seq1 {x y:Code} (h:LoopsOk P tb g (.seq x y)):LoopsOk P tb g x:=fun b hb=>h b (by simp [loopsOf,hb])
theorem LoopsOk.seq2 {x y:Code} (h:LoopsOk P tb g (.seq x y)):LoopsOk P tb g y:=fun b hb=>h b (by simp [loopsOf,hb])
theorem LoopsOk.cond1 {o:Operand} {x y:Code} (h:LoopsOk P tb g (.cond o x y)):LoopsOk P tb g x:=fun b hb=>h b (by simp [loopsOf,hb])
theorem LoopsOk.cond2 {o:Operand} {x y:Code} (h:LoopsOk P tb g (.cond o x y)):LoopsOk P tb g y:=fun b hb=>h b (by simp [loopsOf,hb])
theorem LoopsOk.inLoop {x:Code} (h:LoopsOk P tb g (.loop x)):LoopsOk P tb g x:=fun b hb=>h b (by simp [loopsOf,hb])
theorem code_ok (hg:tableOk P g.ty=true) (hc:ConsOk P tb g.con) (hm:P.follows .mixedOrders=true) (N:Nat):∀ (c:Code),LoopsOk P tb g c->∀ (st:St) {R:Type} (k:Exit->St->Option R) (y:R) (a:Act) (w:World) (Z:Sup),a.defers=[]->Rel Z st a.tmps w->Fr C Z w ->
  code g N c st k=some y->c.wp P (PostC C k y) a w:=by
 intro c
 induction c with
 | skip=>intro hL st R k y a w Z hd Rl F h;exact wp_skip ⟨st,Z,h,hd,Rl,F⟩
 | region id ops draw =>
  intro hL st R k y a w Z hd Rl F h
  cases draw with
  | true =>
   simp only [code,cond_true] at h
   obtain ⟨hlen,h⟩:=cond_some h
   simp only [Bool.and_eq_true] at hlen
   obtain ⟨⟨hlen,hcov⟩,hs⟩:=hlen
   split at h
   ·rename_i l hl
    exact draw_ok hg hc hm (Nat.eq_of_beq_eq_true hlen) hcov hs hl hd Rl F h (fun st' a' w' Z' h1 d1 R1 F1=>⟨st',Z',h1,d1,R1,F1⟩)
   ·cases h
  | false =>
   simp only [code,cond_false] at h
   refine wp_region_list ?_
   have:=evalOps_ok (P:=P) (C:=C) hg hc _ _ _ _ _ _ a w Z hd Rl F h (Q:=PostC C k y) (rest:=[]) (fun st' a' w' h1 A=>by
    obtain ⟨Z',R',F',_⟩:=A.ex
    exact ⟨st',Z',h1,A.defers,R',F'⟩)
   simpa using this
 | seq c1 c2 ih1 ih2 =>
  intro hL st R k y a w Z hd Rl F h
  simp only [code] at h
  split at h
  ·refine wp_seq (Code.wp_mono ?_ (ih1 hL.seq1 st _ y a w Z hd Rl F h))
   rintro ex a1 w1 ⟨st1,Z1,h1,d1,R1,F1⟩
   cases ex with
   | normal =>
    obtain ⟨Z2,R2,F2⟩:=normAt_ok (g:=g) R1 F1 c2
    exact ih2 hL.seq2 _ k y a1 w1 Z2 d1 R2 F2 h1
   | exit id=>exact ⟨st1,Z1,h1,d1,R1,F1⟩
   | goto l=>exact ⟨st1,Z1,h1,d1,R1,F1⟩
   | ret=>exact ⟨st1,Z1,h1,d1,R1,F1⟩
   | panic ch=>exact ⟨st1,Z1,h1,d1,R1,F1⟩
   | outgrown=>exact ⟨st1,Z1,h1,d1,R1,F1⟩
  ·rename_i xs hj
   obtain ⟨e,he,h2⟩:=bindO_some h
   refine wp_seq (Code.wp_mono ?_ (ih1 hL.seq1 st _ e a w Z hd Rl F he))
   rintro ex a1 w1 ⟨st1,Z1,h1,d1,R1,F1⟩
   obtain ⟨st2,Z2,R2,F2,hk⟩:=exOut_some R1 F1 h1
   rw [hk] at h2
   cases ex with
   | normal =>
    obtain ⟨Z3,R3,F3⟩:=normAt_ok (g:=g) R2 F2 c2
    exact ih2 hL.seq2 _ k y a1 w1 Z3 d1 R3 F3 h2
   | exit id=>exact ⟨st2,Z2,h2,d1,R2,F2⟩
   | goto l=>exact ⟨st2,Z2,h2,d1,R2,F2⟩
   | ret=>exact ⟨st2,Z2,h2,d1,R2,F2⟩
   | panic ch=>exact ⟨st2,Z2,h2,d1,R2,F2⟩
   | outgrown=>exact ⟨st2,Z2,h2,d1,R2,F2⟩
 | cond c c1 c2 ih1 ih2 =>
  intro hL st R k y a w Z hd Rl F h
  simp only [code] at h
  obtain ⟨t,ht,h1⟩:=asBool?_eq h
  have hb:=eval_bool Rl ht
  have hst:∀ v,t=v->Rel Z (stCond st c v) a.tmps w:=by
   intro v e
   subst e
   cases c with
   | tmp n =>
    have h0:RelAV Z st.ob (.pv .bool t) (a.tmps.getD n undef):=rel_bool.2 hb
    exact Rl.slot h0
   | const _=>exact Rl
   | global _=>exact Rl
   | func _=>exact Rl
  rcases ifB_eq h1 with ⟨e,h2⟩ | ⟨e,h2⟩
  ·exact wp_cond_split hb (fun _=>ih1 hL.cond1 _ k y a w Z hd (hst true e) F h2) (fun q=>by rw [e] at q;cases q)
  ·exact wp_cond_split hb (fun q=>by rw [e] at q;cases q) (fun _=>ih2 hL.cond2 _ k y a w Z hd (hst false e) F h2)
 | block id c ih =>
  intro hL st R k y a w Z hd Rl F h
  refine wp_block (Code.wp_mono ?_ (ih hL st _ y a w Z hd Rl F h))
  rintro ex a1 w1 ⟨st1,Z1,h1,d1,R1,F1⟩
  cases ex with
  | exit id' =>
   simp only [Exit.inBlock]
   simp only at h1
   cases hb:Nat.beq id' id with
   | true =>
    rw [hb] at h1
    rw [if_pos (Nat.eq_of_beq_eq_true hb)]
    exact ⟨st1,Z1,h1,d1,R1,F1⟩
   | false =>
    rw [hb] at h1
    rw [if_neg (fun q=>by subst q;simp at hb)]
    exact ⟨st1,Z1,h1,d1,R1,F1⟩
  | normal=>exact ⟨st1,Z1,h1,d1,R1,F1⟩
  | goto l=>exact ⟨st1,Z1,h1,d1,R1,F1⟩
  | ret=>exact ⟨st1,Z1,h1,d1,R1,F1⟩
  | panic ch=>exact ⟨st1,Z1,h1,d1,R1,F1⟩
  | outgrown=>exact ⟨st1,Z1,h1,d1,R1,F1⟩
 | loop c ih =>
  intro hL st R k y a w Z hd Rl F h
  simp only [code] at h
  split at h
  ·rename_i id hid
   split at h
   ·rename_i L hLk
    obtain ⟨Z2,R2,F2⟩:=normAt_ok (g:=g) Rl F c
    exact hL c (by simp [loopsOf]) id L hid hLk C _ k y a w Z2 hd R2 F2 h
   ·cases h
  ·cases h
 | exit id=>intro hL st R k y a w Z hd Rl F h;exact wp_exit ⟨st,Z,h,hd,Rl,F⟩
 | scope c ih =>
  intro hL st R k y a w Z hd Rl F h
  refine wp_scope_straight (Code.wp_mono ?_ (ih hL st _ y a w Z hd Rl F h))
  rintro ex a1 w1 ⟨st1,Z1,h1,d1,R1,F1⟩
  cases ex with
  | goto l=>cases h1
  | normal=>exact ⟨st1,Z1,h1,d1,R1,F1⟩
  | exit id=>exact ⟨st1,Z1,h1,d1,R1,F1⟩
  | ret=>exact ⟨st1,Z1,h1,d1,R1,F1⟩
  | panic ch=>exact ⟨st1,Z1,h1,d1,R1,F1⟩
  | outgrown=>exact ⟨st1,Z1,h1,d1,R1,F1⟩
 | ret=>intro hL st R k y a w Z hd Rl F h;exact wp_ret ⟨st,Z,h,hd,Rl,F⟩
 | rangeFunc=>intro hL st R k y a w Z hd Rl F h;simp [code] at h
 | label=>intro hL st R k y a w Z hd Rl F h;simp [code] at h
 | goto=>intro hL st R k y a w Z hd Rl F h;simp [code] at h
 | refuse=>intro hL st R k y a w Z hd Rl F h;simp [code] at h
end
end Go.AE
namespace Go.AE
section
variable {P:Program} {tb:Hp} {C:Ctx tb} {Z:Sup} {st:St} {a:Act} {w w':World} {g:Cfg} {o:Oper} {R:Type} {y:R}
theorem loop_ok (hg:tableOk P g.ty=true) (hc:ConsOk P tb g.con) (hm:P.follows .mixedOrders=true) {N:Nat} {c:Code} {sk:Skel} {xs:List XS} {step:{R:Type}->sk.D->(sk.D->Option R)->(XD xs->Option R)->Option R}
  (hL:LoopsOk P tb g c) (hstep:∀ {R:Type} (d:sk.D) (kn:sk.D->Option R) (kx:XD xs->Option R),roundK g N c sk xs d kn kx=step d kn kx):LoopOk P tb c (loopCon N sk xs step):=by
 intro R C st k y a w Z hd Rl F h
 have h:fitK sk st (fun d=>loopP step N d fun e=>exK k xs e)=some y:=h
 obtain ⟨d,h1,R1⟩:=fitK_ok Rl h
 refine wp_loop_fuel (fun n a w=>∃ d Z,loopP (R:=R) step n d (fun e=>exK k xs e)=some y/\a.defers=[]/\Rel Z (sk.mk' d) a.tmps w/\Fr C Z w) (n:=N) ⟨d,Z,h1,hd,R1,F⟩ ?_
 rintro n a1 w1 ⟨d1,Z1,h1,d1',R1,F1⟩
 cases n with
 | zero=>cases h1
 | succ n =>
  refine ⟨n,rfl,?_⟩
  simp only [loopP] at h1
  rw [← hstep] at h1
  unfold roundK at h1
  refine Code.wp_mono ?_ (code_ok hg hc hm N c hL _ _ y a1 w1 Z1 d1' R1 F1 h1)
  rintro ex a2 w2 ⟨st2,Z3,h3,d3,R3,F3⟩
  cases ex with
  | normal =>
   obtain ⟨Z4,R4,F4⟩:=normAt_ok (g:=g) R3 F3 c
   obtain ⟨d',h5,R5⟩:=fitK_ok R4 h3
   exact ⟨d',Z4,h5,d3,R5,F4⟩
  | exit id=>obtain ⟨st4,Z4,h4,R4,F4⟩:=exOut_ok R3 F3 h3;exact ⟨st4,Z4,h4,d3,R4,F4⟩
  | goto l=>obtain ⟨st4,Z4,h4,R4,F4⟩:=exOut_ok R3 F3 h3;exact ⟨st4,Z4,h4,d3,R4,F4⟩
  | ret=>obtain ⟨st4,Z4,h4,R4,F4⟩:=exOut_ok R3 F3 h3;exact ⟨st4,Z4,h4,d3,R4,F4⟩
  | panic ch=>obtain ⟨st4,Z4,h4,R4,F4⟩:=exOut_ok R3 F3 h3;exact ⟨st4,Z4,h4,d3,R4,F4⟩
  | outgrown=>obtain ⟨st4,Z4,h4,R4,F4⟩:=exOut_ok R3 F3 h3;exact ⟨st4,Z4,h4,d3,R4,F4⟩
end
end Go.AE
namespace Go.AE
section
variable {P:Program} {tb:Hp} {C:Ctx tb} {Z:Sup} {st:St} {a:Act} {w w':World} {g:Cfg} {o:Oper} {R:Type} {y:R}
theorem rel_keepO {Z':Sup} {ob ob':Obs} (hm:Le Z.m Z'.m) (hk:∀ r o,ob r=some o->ob' r=some o/\Z'.hs r=Z.hs r/\Z'.tops r=Z.tops r/\Z'.pd r=Z.pd r/\Z'.rs r=Z.rs r) {x:AV} {v:Value} (hv:RelAV Z ob x v):RelAV Z' ob' x v:=by
 have ptr:∀ r p v,isPtr Z ob r p v->isPtr Z' ob' r p v:=by
  intro r p v ⟨o,s',b,off,e1,e2,e3⟩
  obtain ⟨h0,h1,h2,h3,h4⟩:=hk r o e1
  exact ⟨o,s',b,off,h0,by rw [h4,h2];exact e2,e3⟩
 have rp:∀ s (x:den s) v,isRp Z s x v->isRp Z' s x v:=by
  intro s x v ⟨b,off,c,e1,e2,e3⟩
  exact ⟨b,off,c,e1,e2.mono hm,Rep_mono hm _ _ _ _ _ e3⟩
 cases x with
 | pv s x=>obtain ⟨c,e,r⟩:=hv;exact ⟨c,e,Rep_mono hm _ _ _ _ _ r⟩
 | rp s x=>exact rp s x v hv
 | z s=>exact hv
 | dead=>trivial
 | ptr r p=>exact ptr r p v hv
 | ov r p =>
  obtain ⟨o,s',t,c,e1,e2,e3,e4⟩:=hv
  obtain ⟨h0,h1,h2,h3,h4⟩:=hk r o e1
  exact ⟨o,s',t,c,h0,by rw [h1,h2];exact e2,by rw [h1];exact e3,e4⟩
 | bx r p =>
  obtain ⟨o,s',t,c,b0,f0,e1,e2,e3,e4,e5,e6⟩:=hv
  obtain ⟨h0,h1,h2,h3,h4⟩:=hk r o e1
  exact ⟨o,s',t,c,b0,f0,h0,by rw [h1,h2];exact e2,by rw [h1];exact e3,e4,e5,e6.mono hm⟩
 | osub r p lo hi =>
  obtain ⟨o,e,s',t,ad,len,cap,e1,e2,e3,e4⟩:=hv
  obtain ⟨h0,h1,h2,h3,h4⟩:=hk r o e1
  exact ⟨o,e,s',t,ad,len,cap,h0,by rw [h1,h2];exact e2,by rw [h1];exact e3,e4⟩
 | app r p =>
  obtain ⟨o,b,off,e1,e2,e3⟩:=hv
  obtain ⟨h0,h1,h2,h3,h4⟩:=hk r o e1
  exact ⟨o,b,off,h0,e2,by rw [h3];exact e3⟩
 | fn f caps =>
  obtain ⟨vs,e,al⟩:=hv
  refine ⟨vs,e,al.imp fun c hc v hcv=>?_⟩
  cases c with
  | cp r p=>exact ptr r p v hcv
  | cr s x=>exact rp s x v hcv
def entSup (m:Hp) (hs:Nat->Hp) (tops:Nat->Top):Sup:={ m,hs,tops,pd:=fun _=>none,rs:=hs,ptop:=tops }
theorem RepT_top {m:Hp} {md:Mode} {v:Value} {d:Dy} {h:Hp} (r:OneRep m md v d h) (hmd:md=.io \/ md=.iov \/ md=.tk) :
  ∃ t,RepT m d.s d.o h t d.x/\((md=.io/\∃ b off,t=.mem b off/\v=.pointer (some ⟨b,off,none⟩)) \/ (md≠.io/\∃ c,t=.flt c/\v=mkVal d.s c)):=by
 rcases hmd with e | e | e <;> subst e
 ·obtain ⟨b,off,h1,h2⟩:=r;exact ⟨.mem b off,h2,.inl ⟨rfl,b,off,rfl,h1⟩⟩
 ·obtain ⟨c,h1,h2⟩:=r;exact ⟨.flt c,h2,.inr ⟨by simp,c,rfl,h1⟩⟩
 ·obtain ⟨c,h1,h2⟩:=r;exact ⟨.flt c,h2,.inr ⟨by simp,c,rfl,h1⟩⟩
def Ent (tops:Nat->Top):Nat->List Mode->List Dy->List Value->Prop
 | i,.io::ms,_::ds,v::vs=>(∃ b off,tops i=.mem b off/\v=.pointer (some ⟨b,off,none⟩))/\Ent tops (i+1) ms ds vs
 | i,.iov::ms,d::ds,v::vs=>(∃ c,tops i=.flt c/\v=mkVal d.s c)/\Ent tops (i+1) ms ds vs
 | i,_::ms,_::ds,_::vs=>Ent tops (i+1) ms ds vs
 | _,[],[],[]=>True
 | _,_,_,_=>False
theorem Ent_congr {tops tops':Nat->Top}:∀ {i:Nat} {ms:List Mode} {ds:List Dy} {vs:List Value},(∀ j,i<=j->tops' j=tops j)->Ent tops i ms ds vs->Ent tops' i ms ds vs
 | i,.io::ms,_::ds,v::vs,h,⟨⟨b,off,e1,e2⟩,r⟩=>⟨⟨b,off,(h i (Nat.le_refl _)).trans e1,e2⟩,Ent_congr (fun j hj=>h j (by omega)) r⟩
 | i,.iov::ms,d::ds,v::vs,h,⟨⟨c,e1,e2⟩,r⟩=>⟨⟨c,(h i (Nat.le_refl _)).trans e1,e2⟩,Ent_congr (fun j hj=>h j (by omega)) r⟩
 | i,.v::ms,_::ds,_::vs,h,r=>Ent_congr (i:=i+1) (ms:=ms) (ds:=ds) (vs:=vs) (fun j hj=>h j (by omega)) r
 | i,.rd::ms,_::ds,_::vs,h,r=>Ent_congr (i:=i+1) (ms:=ms) (ds:=ds) (vs:=vs) (fun j hj=>h j (by omega)) r
 | i,.nl::ms,_::ds,_::vs,h,r=>Ent_congr (i:=i+1) (ms:=ms) (ds:=ds) (vs:=vs) (fun j hj=>h j (by omega)) r
 | i,.tk::ms,_::ds,_::vs,h,r=>Ent_congr (i:=i+1) (ms:=ms) (ds:=ds) (vs:=vs) (fun j hj=>h j (by omega)) r
 | i,[],[],[],h,r=>trivial
theorem enter_ok {m:Hp}:∀ {ms:List Mode} {ds:List Dy} {vs:List Value} {H:Hp} (i:Nat),ArgsRep m ms ds vs H ->
    ∃ (hs:Nat->Hp) (tops:Nat->Top),(∀ j,j < i->hs j=Hp.e)/\(∀ j j',j≠j'->Dj (hs j) (hs j'))/\(∀ j,Le (hs j) H) /\
      (∀ r o,look (enterArgs i ms ds).2 r=some o->i<=r/\o.pend=none/\RelOb (entSup m hs tops) r o) /\
      All2 (RelAV (entSup m hs tops) (look (enterArgs i ms ds).2)) (enterArgs i ms ds).1 vs/\Ent tops i ms ds vs
  | [],[],[],H,i,r=>⟨fun _=>Hp.e,fun _=>.flt [],fun _ _=>rfl,fun _ _ _=>Dj.e _,fun _=>Le.e _,fun r o h=>(by cases h),trivial,trivial⟩
  | q::ms,d::ds,v::vs,H,i,⟨h1,h2,sp,r1,rr⟩=>by
    obtain ⟨hs,tops,g1,g2,g3,g4,g5,g6⟩:=enter_ok (i+1) rr
    by_cases hq:q=.io \/ q=.iov \/ q=.tk
    · obtain ⟨t,rt,ht⟩:=RepT_top r1 hq
      generalize hpq:enterArgs (i+1) ms ds=pq at g4 g5
      obtain ⟨as,os⟩:=pq
      simp only at g4 g5
      have hi:hs i=Hp.e:=g1 i (by omega)
      have ndj:∀ j,j≠i->Dj h1 (hs j):=fun j hj=>sp.dj.le (Le.refl _) (g3 j)
      have new:∀ (x:AV) (ob:Ob),ob.pend=none->RelOb (entSup m (fun j=>if j=i then h1 else hs j) (fun j=>if j=i then t else tops j)) i ob ->
          RelAV (entSup m (fun j=>if j=i then h1 else hs j) (fun j=>if j=i then t else tops j)) (look ((i,ob)::os)) x v->enterArgs i (q::ms) (d::ds)=(x::as,(i,ob)::os)->Ent (fun j=>if j=i then t else tops j) i (q::ms) (d::ds) (v::vs) ->
          ∃ (hs:Nat->Hp) (tops:Nat->Top),(∀ j,j < i->hs j=Hp.e)/\(∀ j j',j≠j'->Dj (hs j) (hs j'))/\(∀ j,Le (hs j) H) /\
            (∀ r o,look (enterArgs i (q::ms) (d::ds)).2 r=some o->i<=r/\o.pend=none/\RelOb (entSup m hs tops) r o) /\
            All2 (RelAV (entSup m hs tops) (look (enterArgs i (q::ms) (d::ds)).2)) (enterArgs i (q::ms) (d::ds)).1 (v::vs)/\Ent tops i (q::ms) (d::ds) (v::vs):=by
        intro x ob hp ho hx he hent
        refine ⟨fun j=>if j=i then h1 else hs j,fun j=>if j=i then t else tops j,?_,?_,?_,?_,?_,hent⟩
        · intro j hj
          show (if j=i then h1 else hs j)=_
          rw [if_neg (by omega)];exact g1 j (by omega)
        · intro j j' hne
          show Dj (if j=i then h1 else hs j) (if j'=i then h1 else hs j')
          by_cases c1:j=i
          · rw [if_pos c1,if_neg (fun e=>hne (c1.trans e.symm))];exact ndj j' (fun e=>hne (c1.trans e.symm))
          · rw [if_neg c1]
            by_cases c2:j'=i
            · rw [if_pos c2];exact (ndj j c1).symm
            · rw [if_neg c2];exact g2 j j' hne
        · intro j
          show Le (if j=i then h1 else hs j) H
          by_cases c1:j=i
          · rw [if_pos c1];exact sp.left
          · rw [if_neg c1];exact (g3 j).trans sp.right
        · rw [he]
          intro r o h
          simp only [look] at h
          cases hb:Nat.beq i r with
          | true =>
            rw [hb] at h
            simp only [cond_true,Option.some.injEq] at h
            have:=Nat.eq_of_beq_eq_true hb
            subst this h
            exact ⟨Nat.le_refl _,hp,ho⟩
          | false =>
            rw [hb] at h
            obtain ⟨k1,k2,k3⟩:=g4 r o h
            have hr:¬ r=i:=by omega
            exact ⟨by omega,k2,RelOb_move (Z:=entSup m hs tops) (r:=r) rfl (by simp [entSup,hr]) (by simp [entSup,hr]) rfl (by simp [entSup,hr]) k3⟩
        · rw [he]
          refine ⟨hx,?_⟩
          have keep:∀ r o,look os r=some o->look ((i,ob)::os) r=some o/\(entSup m (fun j=>if j=i then h1 else hs j) (fun j=>if j=i then t else tops j)).hs r=(entSup m hs tops).hs r/\(entSup m (fun j=>if j=i then h1 else hs j) (fun j=>if j=i then t else tops j)).tops r=(entSup m hs tops).tops r/\(entSup m (fun j=>if j=i then h1 else hs j) (fun j=>if j=i then t else tops j)).pd r=(entSup m hs tops).pd r/\(entSup m (fun j=>if j=i then h1 else hs j) (fun j=>if j=i then t else tops j)).rs r=(entSup m hs tops).rs r:=by
           intro r o h
           obtain ⟨k1,k2,k3⟩:=g4 r o h
           have hr:¬ r=i:=by omega
           have hb:Nat.beq i r=false:=by
             cases hb:Nat.beq i r with
             | false=>rfl
             | true=>exact absurd (Nat.eq_of_beq_eq_true hb).symm hr
           exact ⟨by simp only [look,hb];exact h,by simp [entSup,hr],by simp [entSup,hr],rfl,by simp [entSup,hr]⟩
          exact g5.imp fun x _ v hv=>rel_keepO (Z':=entSup m (fun j=>if j=i then h1 else hs j) (fun j=>if j=i then t else tops j)) (ob':=look ((i,ob)::os)) (Le.refl m) keep hv
      have g6':Ent (fun j=>if j=i then t else tops j) (i+1) ms ds vs:=Ent_congr (fun j hj=>if_neg (by omega)) g6
      have lk:∀ ob:Ob,look ((i,ob)::os) i=some ob:=fun ob=>by simp [look]
      rcases ht with ⟨e,b,off,et,ev⟩ | ⟨e,c,et,ev⟩
      · subst e et
        refine new (.ptr i []) { s:=d.s,o:=d.o,x:=d.x,mem:=true } rfl ⟨by simp [entSup],?_⟩ ⟨_,d.s,b,off,lk _,by simp [entSup,res_nil],ev⟩ (by simp only [enterArgs,hpq]) ⟨⟨b,off,if_pos rfl,ev⟩,g6'⟩
        show RepT m d.s d.o (if i=i then h1 else _) (if i=i then .mem b off else _) d.x
        rw [if_pos rfl,if_pos rfl];exact rt
      · subst et
        rcases hq with e2 | e2 | e2
        · exact absurd e2 e
        · subst e2
          refine new (.ov i []) { s:=d.s,o:=d.o,x:=d.x,fixed:=true } rfl ⟨by simp [entSup],?_⟩ ⟨_,d.s,.flt c,c,lk _,by simp [entSup,res_nil],rfl,ev⟩ (by simp only [enterArgs,hpq]) ⟨⟨c,if_pos rfl,ev⟩,g6'⟩
          show RepT m d.s d.o (if i=i then h1 else _) (if i=i then .flt c else _) d.x
          rw [if_pos rfl,if_pos rfl];exact rt
        · subst e2
          refine new (.ov i []) { s:=d.s,o:=d.o,x:=d.x } rfl ⟨by simp [entSup],?_⟩ ⟨_,d.s,.flt c,c,lk _,by simp [entSup,res_nil],rfl,ev⟩ (by simp only [enterArgs,hpq]) g6'
          show RepT m d.s d.o (if i=i then h1 else _) (if i=i then .flt c else _) d.x
          rw [if_pos rfl,if_pos rfl];exact rt
    · have hq2:q=.v \/ q=.rd \/ q=.nl:=by cases q <;> simp_all
      rcases hq2 with e | e | e <;> subst e
      · obtain ⟨e1,c,e2,e3⟩:=r1
        refine ⟨hs,tops,fun j hj=>g1 j (by omega),g2,fun j=>(g3 j).trans sp.right,fun r o h=>?_,⟨⟨c,e2,e3⟩,g5⟩,g6⟩
        obtain ⟨k1,k2,k3⟩:=g4 r o h
        exact ⟨by omega,k2,k3⟩
      · obtain ⟨e1,b,off,c,e2,e3,e4⟩:=r1
        refine ⟨hs,tops,fun j hj=>g1 j (by omega),g2,fun j=>(g3 j).trans sp.right,fun r o h=>?_,⟨⟨b,off,c,e2,e3,e4⟩,g5⟩,g6⟩
        obtain ⟨k1,k2,k3⟩:=g4 r o h
        exact ⟨by omega,k2,k3⟩
      · obtain ⟨e1,e2⟩:=r1
        refine ⟨hs,tops,fun j hj=>g1 j (by omega),g2,fun j=>(g3 j).trans sp.right,fun r o h=>?_,⟨e2,g5⟩,g6⟩
        obtain ⟨k1,k2,k3⟩:=g4 r o h
        exact ⟨by omega,k2,k3⟩
  | [],_::_,_,_,_,r=>by simp [ArgsRep] at r
  | [],[],_::_,_,_,r=>by simp [ArgsRep] at r
  | _::_,[],_,_,_,r=>by simp [ArgsRep] at r
  | _::_,_::_,[],_,_,r=>by simp [ArgsRep] at r
end
end Go.AE
namespace Go.AE
section
variable {P:Program} {tb:Hp} {C:Ctx tb} {Z:Sup} {st:St} {a:Act} {w w':World} {g:Cfg} {o:Oper} {R:Type} {y:R}
theorem takeCaps_ok {ob:Obs}:∀ {n:Nat} {l r:List AV} {c:List Cap} {fl:List Value},takeCaps n l=some (c,r)->All2 (RelAV Z ob) l fl ->
  ∃ cs fl',fl=cs ++ fl'/\cs.length=n/\All2 (RelCap Z ob) c cs/\All2 (RelAV Z ob) r fl'
 | 0,l,r,c,fl,h,hr=>by
  simp only [takeCaps,Option.some.injEq,Prod.mk.injEq] at h
  obtain ⟨e1,e2⟩:=h
  subst e1 e2
  exact ⟨[],fl,rfl,rfl,trivial,hr⟩
 | n+1,.ptr p q::l,r,c,v::fl,h,⟨h1,h2⟩=>by
  simp only [takeCaps] at h
  split at h
  ·rename_i c' r' he
   simp only [Option.some.injEq,Prod.mk.injEq] at h
   obtain ⟨e1,e2⟩:=h
   subst e1 e2
   obtain ⟨cs,fl',k1,k2,k3,k4⟩:=takeCaps_ok he h2
   exact ⟨v::cs,fl',by rw [k1];rfl,by simp [k2],⟨h1,k3⟩,k4⟩
  ·cases h
 | n+1,.rp s x::l,r,c,v::fl,h,⟨h1,h2⟩=>by
  simp only [takeCaps] at h
  split at h
  ·rename_i c' r' he
   simp only [Option.some.injEq,Prod.mk.injEq] at h
   obtain ⟨e1,e2⟩:=h
   subst e1 e2
   obtain ⟨cs,fl',k1,k2,k3,k4⟩:=takeCaps_ok he h2
   exact ⟨v::cs,fl',by rw [k1];rfl,by simp [k2],⟨h1,k3⟩,k4⟩
  ·cases h
 | n+1,[],r,c,fl,h,hr=>by simp [takeCaps] at h
 | n+1,.pv _ _::l,r,c,fl,h,hr=>by simp [takeCaps] at h
 | n+1,.z _::l,r,c,fl,h,hr=>by simp [takeCaps] at h
 | n+1,.ov _ _::l,r,c,fl,h,hr=>by simp [takeCaps] at h
 | n+1,.osub _ _ _ _::l,r,c,fl,h,hr=>by simp [takeCaps] at h
 | n+1,.app _ _::l,r,c,fl,h,hr=>by simp [takeCaps] at h
 | n+1,.fn _ _::l,r,c,fl,h,hr=>by simp [takeCaps] at h
 | n+1,.dead::l,r,c,fl,h,hr=>by simp [takeCaps] at h
theorem dropN_rel {ob:Obs}:∀ {n:Nat} {l:List AV} {fl:List Value},All2 (RelAV Z ob) l fl->All2 (RelAV Z ob) (dropN n l) (fl.drop n)
 | 0,l,fl,h=>h
 | n+1,[],[],h=>h
 | n+1,x::l,v::fl,⟨h1,h2⟩=>dropN_rel (n:=n) (l:=l) (fl:=fl) h2
theorem all2_one {ob:Obs}:∀ {l:List AV} {fl:List Value},All2 (RelAV Z ob) l fl->All2 (RelSV Z ob) (l.map .one) fl
 | [],[],h=>h
 | x::l,v::fl,⟨h1,h2⟩=>⟨h1,all2_one h2⟩
theorem pars_ok {ob:Obs}:∀ {ps:List Par} {vs fl:List Value} {as:List AV},ParsV ps vs fl->All2 (RelAV Z ob) as fl->All2 (RelSV Z ob) (pars ps as) vs
 | [],vs,fl,as,h,hr=>by rw [show fl=vs from h] at hr;exact all2_one hr
 | .one::ps,v::vs,fl,as,⟨fl',e,h⟩,hr=>by
  subst e
  match as,hr with
  | x::as,⟨h1,h2⟩=>exact ⟨h1,pars_ok h h2⟩
 | .fn f n::ps,v::vs,fl,as,⟨cs,fl',e1,e2,e3,h⟩,hr=>by
  subst e3
  simp only [pars]
  split
  ·rename_i c r he
   obtain ⟨cs',fl2,k1,k2,k3,k4⟩:=takeCaps_ok he hr
   have:cs=cs'/\fl'=fl2:=List.append_inj k1 (e2.trans k2.symm)
   obtain ⟨q1,q2⟩:=this
   subst q1 q2
   exact ⟨⟨cs,e1,k3⟩,pars_ok h k4⟩
  ·have:=dropN_rel (n:=n) hr
   rw [← e2,List.drop_left] at this
   rw [← e2]
   exact ⟨trivial,pars_ok h this⟩
 | .one::ps,[],fl,as,h,hr=>by simp [ParsV] at h
 | .fn f n::ps,[],fl,as,h,hr=>by simp [ParsV] at h
theorem getSlot_app:∀ (l m:List SV) (i:Nat),getSlot (l ++ m) i=if i < l.length then getSlot l i else getSlot m (i - l.length)
 | [],m,i=>by simp
 | a::l,m,0=>by simp [getSlot]
 | a::l,m,i+1=>by
  show getSlot (l ++ m) i=_
  rw [getSlot_app l m i]
  by_cases h:i < l.length
  ·rw [if_pos h,if_pos (by simpa using h)];rfl
  ·rw [if_neg h,if_neg (by simpa using h)];congr 1;simp
theorem getSlot_replic:∀ (n i:Nat),getSlot (replic (.one .dead) n) i=.one .dead
 | 0,i=>getSlot_nil i
 | n+1,0=>rfl
 | n+1,i+1=>getSlot_replic n i
theorem all2_get {ob:Obs}:∀ {l:List SV} {vs:List Value},All2 (RelSV Z ob) l vs->∀ i,i < l.length->RelSV Z ob (getSlot l i) (vs.getD i undef)
 | x::l,v::vs,⟨h1,h2⟩,0,_=>h1
 | x::l,v::vs,⟨h1,h2⟩,i+1,h=>all2_get h2 i (by simpa using h)
 | [],_,_,i,h=>by simp at h
theorem entry_env {ob:Obs} {l:List SV} {vs:List Value} (n:Nat) (h:All2 (RelSV Z ob) l vs) :
  (∀ i,RelSV Z ob (getSlot (padTo n l) i) ((vs.toArray ++ Array.replicate (n - vs.toArray.size) undef).getD i undef)) /\
  (vs.toArray ++ Array.replicate (n - vs.toArray.size) undef).size=(padTo n l).length:=by
 have hl:=h.len
 constructor
 ·intro i
  unfold padTo
  rw [getSlot_app]
  by_cases hi:i < l.length
  ·rw [if_pos hi]
   have:=all2_get h i hi
   have e:(vs.toArray ++ Array.replicate (n - vs.toArray.size) undef).getD i undef=vs.getD i undef:=by
    rw [Array.getD_eq_getD_getElem?,Array.getElem?_append_left (by simpa [← hl] using hi)]
    simp [List.getD_eq_getElem?_getD]
   rw [e];exact this
  ·rw [if_neg hi,getSlot_replic];trivial
 ·have hrl:∀ (n:Nat),(replic (SV.one .dead) n).length=n:=by intro n;rw [replic_eq];simp
  simp [padTo,hrl,hl]
end
end Go.AE
namespace Go.AE
section
variable {P:Program} {tb:Hp} {C:Ctx tb} {Z:Sup} {st:St} {a:Act} {w w':World} {g:Cfg} {o:Oper} {R:Type} {y:R}
def letGo (Z:Sup) (r:Nat) (hm:Hp):Sup :=
 { Z with m:=Un Z.m hm,hs:=fun x=>if x=r then Hp.e else Z.hs x,rs:=fun x=>if x=r then Hp.e else Z.rs x }
theorem rel_letGo (Rl:Rel Z st a.tmps w) {r:Nat} {hm:Hp} (hle:Le hm (Z.hs r)):Rel (letGo Z r hm) { st with objs:=dropOb st.objs r,env:=killEnv r .all st.env } a.tmps w:=by
 have dm:Dj Z.m hm:=(Rl.mdj r).le (Le.refl _) hle
 have hob:∀ x,({ st with objs:=dropOb st.objs r,env:=killEnv r .all st.env }:St).ob x=if x=r then none else st.ob x:=fun x=>look_drop st.objs r x
 refine ⟨?_,?_,?_,?_,?_,?_,?_,?_,?_⟩
 ·intro b o v e
  rcases (Un.sp dm).some e with z | z
  ·exact Rl.imm _ _ _ z
  ·exact (Rl.own r _ _ _ (hle _ _ _ z)).1
 ·intro x b o v e
  simp only [letGo] at e
  split at e
  ·cases e
  ·exact Rl.own x _ _ _ e
 ·intro x
  simp only [letGo]
  split
  ·exact Dj.e _
  ·rename_i hx
   intro b o
   cases e:Un Z.m hm b o with
   | none=>exact .inl rfl
   | some v =>
    right
    rcases (Un.sp dm).some e with z | z
    ·rcases Rl.mdj x b o with q | q
     ·rw [z] at q;cases q
     ·exact q
    ·rcases Rl.dj x r hx b o with q | q
     ·exact q
     ·rw [hle _ _ _ z] at q;cases q
 ·intro x x' hne
  simp only [letGo]
  split
  ·exact (Dj.e _).symm
  ·split
   ·exact Dj.e _
   ·exact Rl.dj x x' hne
 ·intro x ob hx
  rw [hob] at hx
  split at hx
  ·cases hx
  ·rename_i h1
   exact RelOb_keep (Z:=Z) (Un.le_left _ _) (by simp [letGo,h1]) rfl rfl (by simp [letGo,h1]) (Rl.obs x ob hx)
 ·intro i
  have base:=kills_env (Z:=Z) (Z':=letGo Z r hm) (ob:=st.ob) (ob':=({ st with objs:=dropOb st.objs r,env:=killEnv r .all st.env }:St).ob) (tmps:=a.tmps) [(r,.all)] st.env i (fun x v hun hx=>by
   refine rel_keep (Z:=Z) (Z':=letGo Z r hm) (bad:=fun z=>z=r) (Un.le_left _ _) ?_ ?_ ?_ ?_ ?_ ?_ hx
   ·intro z hz;rw [hob,if_neg hz]
   ·intro z hz;simp [letGo,hz]
   ·intro z hz;rfl
   ·intro z hz;rfl
   ·intro z hz;simp [letGo,hz]
   ·intro z hz;subst hz;exact hun (z,.all) (by simp)) (Rl.env i)
  rcases base with h | h
  ·exact h
  ·show RelSV _ _ (getSlot (killEnv r .all st.env) i) _
   rw [show killEnv r .all st.env=kills [(r,.all)] st.env from rfl,h];trivial
 ·show a.tmps.size=(killEnv r .all st.env).length
  rw [killEnv_len];exact Rl.len
 ·intro x ob hx hp
  rw [hob] at hx
  split at hx
  ·cases hx
  ·rename_i h1
   simp only [letGo,h1,if_false]
   exact Rl.rse x ob hx hp
 ·intro x ob hx hlt hmf
  rw [hob] at hx
  split at hx
  ·cases hx
  ·exact Rl.pin x ob hx hlt hmf
end
end Go.AE
namespace Go.AE
section
variable {P:Program} {tb:Hp} {C:Ctx tb} {Z:Sup} {st:St} {a:Act} {w w':World} {g:Cfg} {o:Oper} {R:Type} {y:R}
structure Taken (Z:Sup) (st:St) (a:Act) (w:World) (b:Bool) (v:Value) (d:Dy) (st':St) (Z2:Sup) (hr:Hp):Prop where
 rel:Rel Z2 st' a.tmps w
 m:Le Z.m Z2.m
 one:ResOne Z2.m b v d hr
 hs:∀ r,Le (Z2.hs r) (Z.hs r)
 dj:∀ r,Dj hr (Z2.hs r)
 djm:Dj Z2.m hr
 src:∀ b o u,hr b o=some u->∃ r,Z.hs r b o=some u
 md:∀ b o,Z2.m b o≠none->Z.m b o≠none \/ ∃ r,Z.hs r b o≠none
 ob:∀ r ob,st'.ob r=some ob->st.ob r=some ob/\Z2.tops r=Z.tops r/\Z2.hs r=Z.hs r
 ptop:Z2.ptop=Z.ptop
theorem taken_none (Rl:Rel Z st a.tmps w) {b:Bool} {v:Value} {d:Dy} (h:ResOne Z.m b v d Hp.e):Taken Z st a w b v d st Z Hp.e :=
 ⟨Rl,Le.refl _,h,fun _=>Le.refl _,fun _=>(Dj.e _).symm,Dj.e _,fun _ _ _ e=>(by cases e),fun _ _ h=>.inl h,fun r ob h=>⟨h,rfl,rfl⟩,rfl⟩
theorem taken_go (Rl:Rel Z st a.tmps w) {r:Nat} {hm hr hS:Hp} (sp:Sp hS hm hr) (hle:Le hS (Z.hs r)) {b:Bool} {v:Value} {d:Dy} (h:ResOne (Un Z.m hm) b v d hr) :
  Taken Z st a w b v d { st with objs:=dropOb st.objs r,env:=killEnv r .all st.env } (letGo Z r hm) hr:=by
 have h1:=sp.left.trans hle
 have h2:=sp.right.trans hle
 have dm:Dj Z.m hm:=(Rl.mdj r).le (Le.refl _) h1
 refine ⟨rel_letGo Rl h1,Un.le_left _ _,h,?_,?_,?_,fun b o u e=>⟨r,h2 _ _ _ e⟩,?_,?_,rfl⟩
 ·intro x
  simp only [letGo]
  split
  ·exact Le.e _
  ·exact Le.refl _
 ·intro x
  simp only [letGo]
  split
  ·exact Dj.e _
  ·rename_i hx;exact (Rl.dj r x (fun e=>hx e.symm)).le h2 (Le.refl _)
 ·intro b o
  cases e:Un Z.m hm b o with
  | none=>exact .inl e
  | some u =>
   right
   rcases (Un.sp dm).some e with z | z
   ·rcases (Rl.mdj r).le (Le.refl _) h2 b o with q | q
    ·rw [z] at q;cases q
    ·exact q
   ·rcases sp.dj b o with q | q
    ·rw [z] at q;cases q
    ·exact q
 ·intro b o hne
  cases e:(letGo Z r hm).m b o with
  | none=>exact absurd e hne
  | some u =>
   have e:Un Z.m hm b o=some u:=e
   rcases (Un.sp dm).some e with z | z
   ·left;rw [z];simp
   ·right;exact ⟨r,by rw [h1 _ _ _ z];simp⟩
 ·intro x ob hx
  have hx:look (dropOb st.objs r) x=some ob:=hx
  rw [look_drop] at hx
  split at hx
  ·cases hx
  ·rename_i h3;exact ⟨hx,rfl,by simp [letGo,h3]⟩
theorem resultK_ok (Rl:Rel Z st a.tmps w) {b:Bool} {m:O} {x:AV} {v:Value} {kk:Dy->St->Option R} (hv:RelAV Z st.ob x v) (h:resultK st b m x kk=some y) :
  ∃ d st' Z2 hr,kk d st'=some y/\Taken Z st a w b v d st' Z2 hr:=by
 unfold resultK at h
 split at h
 ·rename_i s x
  obtain ⟨hle,hk⟩:=cond_some h
  obtain ⟨c,e,r⟩:=hv
  obtain ⟨hm,h',sp,r2⟩:=Rep_weaken s m .imm Z.m Hp.e c x hle (Dj.e _) r
  have e1:hm=Hp.e:=funext fun b=>funext fun o=>by have:=(sp b o).2;cases q:hm b o with | none=>rfl | some u=>have:=sp.left _ _ _ q;cases this
  have e2:h'=Hp.e:=funext fun b=>funext fun o=>by cases q:h' b o with | none=>rfl | some u=>have:=sp.right _ _ _ q;cases this
  subst e1 e2
  rw [Un_e_right] at r2
  exact ⟨_,_,Z,Hp.e,hk,taken_none Rl ⟨c,e,r2⟩⟩
 ·rename_i s
  exact ⟨_,_,Z,Hp.e,h,taken_none Rl ⟨_,hv,Rep_zero _ _ _⟩⟩
 ·rename_i r p
  split at h
  ·rename_i ob hob
   split at h
   ·rename_i hf hp ho
    obtain ⟨s,x,t,c,h1,A⟩:=at_of_get Rl hob hp ho h
    obtain ⟨hc,hk⟩:=cond_some h1
    simp only [Bool.and_eq_true] at hc
    obtain ⟨⟨hle,_⟩,_⟩:=hc
    obtain ⟨hR,rep,hRle⟩:=A.rep
    obtain ⟨hm,h',sp,r2⟩:=Rep_weaken s m _ Z.m hR c x hle ((Rl.mdj r).le (Le.refl _) hRle) rep
    exact ⟨_,_,_,h',hk,taken_go Rl sp hRle ⟨c,A.ov hv,r2⟩⟩
   ·cases h
  ·cases h
 ·rename_i r
  split at h
  ·rename_i ob hob
   split at h
   ·rename_i hmem hp _
    obtain ⟨hle,hk⟩:=cond_some h
    have hro:=Rl.obs r ob hob
    obtain ⟨b,off,ht⟩:=hro.1.1 hmem
    have hr2:=hro.2
    rw [hp] at hr2
    have hr2:RepT Z.m ob.s ob.o (Z.hs r) (Z.tops r) ob.x:=hr2
    rw [ht] at hr2
    obtain ⟨c,h2,sp,rep⟩:=hr2
    obtain ⟨hm,h',sp2,r2⟩:=Rep_weaken ob.s m _ Z.m h2 c ob.x hle ((Rl.mdj r).le (Le.refl _) sp.right) rep
    obtain ⟨s1,s2⟩:=Sp.assoc sp.symm sp2
    obtain ⟨o',s',b',off',e1,e2,e3⟩:=hv
    rw [hob] at e1;injection e1 with e1;subst e1
    rw [res_nil,ht] at e2
    simp only [Option.some.injEq,Prod.mk.injEq,Top.mem.injEq] at e2
    obtain ⟨_,q1,q2⟩:=e2
    subst q1 q2
    exact ⟨_,_,_,_,hk,taken_go Rl s1 (Le.refl _) ⟨b,off,e3,c,h',s2.symm,r2⟩⟩
   ·cases h
  ·cases h
 ·cases h
theorem resultCellK_ok (hg:tableOk P g.ty=true) (Rl:Rel Z st a.tmps w) {m:O} {ad:Tmp} {t:TypeId} {kk:Dy->St->Option R} (h:resultCellK g st m ad t kk=some y) :
  ∃ d st' Z2 hr v,kk d st'=some y/\((do loadVar t (← asAddr (a.tmps.getD ad undef)):Sem Value).run P w=.ok v w)/\Taken Z st a w false v d st' Z2 hr:=by
 unfold resultCellK at h
 have hv:=eval_rel Rl none (.tmp ad)
 split at h
 ·rename_i r he
  rw [he] at hv
  split at h
  ·rename_i ob s hob hs
   split at h
   ·rename_i es _ hp hb
    simp only [Bool.and_eq_true] at hb
    obtain ⟨hmem,h50⟩:=hb
    obtain ⟨hle,hk⟩:=cond_some h
    have hro:=Rl.obs r ob hob
    obtain ⟨b,off,ht⟩:=hro.1.1 hmem
    have hr2:=hro.2
    rw [hp] at hr2
    have hr2:RepT Z.m ob.s ob.o (Z.hs r) (Z.tops r) ob.x:=hr2
    rw [ht] at hr2
    obtain ⟨c,h2,sp,rep⟩:=hr2
    obtain ⟨hm,h',sp2,r2⟩:=Rep_weaken ob.s m _ Z.m h2 c ob.x hle ((Rl.mdj r).le (Le.refl _) sp.right) rep
    obtain ⟨o',s',b',off',e1,e2,e3⟩:=hv
    rw [hob] at e1;injection e1 with e1;subst e1
    rw [res_nil,ht] at e2
    simp only [Option.some.injEq,Prod.mk.injEq,Top.mem.injEq] at e2
    obtain ⟨_,q1,q2⟩:=e2
    subst q1 q2
    have ety:=tableOk_at hg hs
    have hlen:=Rep_len _ _ _ _ _ _ rep
    have hld:(loadVar t ⟨b,off,none⟩).run P w=.ok (mkVal s c) w:=run_loadVar_ok ety (by rw [hlen,es]) (fun j v e=>(Rl.own r _ _ _ (sp.left _ _ _ (by rw [blk_at];exact e))).1)
    refine ⟨_,_,_,_,mkVal ob.s c,hk,?_,taken_go Rl sp2 sp.right ⟨c,rfl,r2⟩⟩
    have e3:a.tmps.getD ad undef=.pointer (some ⟨b,off,none⟩):=e3
    rw [e3,es,Sem.run_bind]
    exact hld
   ·cases h
  ·cases h
 ·cases h
end
end Go.AE
namespace Go.AE
section
variable {P:Program} {tb:Hp} {C:Ctx tb} {Z:Sup} {st:St} {a:Act} {w w':World} {g:Cfg} {o:Oper} {R:Type} {y:R}
def varRun (a:Act):ResultVar->Sem Value
 | .tmp t=>pure (a.tmps.getD t undef)
 | .cell b t=>do loadVar t (← asAddr (a.tmps.getD b undef))
def VarsOk (P:Program) (a:Act) (w:World):List ResultVar->List Value->Prop
 | [],[]=>True
 | x::xs,v::vs=>(varRun a x).run P w=.ok v w/\VarsOk P a w xs vs
 | _,_=>False
structure TakenL (Z:Sup) (st:St) (a:Act) (w:World) (bs:List Bool) (vals:List Value) (rs:List Dy) (st':St) (Z2:Sup) (HR:Hp):Prop where
 rel:Rel Z2 st' a.tmps w
 m:Le Z.m Z2.m
 res:ResRep Z2.m bs rs vals HR
 hs:∀ r,Le (Z2.hs r) (Z.hs r)
 dj:∀ r,Dj HR (Z2.hs r)
 djm:Dj Z2.m HR
 src:∀ b o u,HR b o=some u->∃ r,Z.hs r b o=some u
 md:∀ b o,Z2.m b o≠none->Z.m b o≠none \/ ∃ r,Z.hs r b o≠none
 ob:∀ r ob,st'.ob r=some ob->st.ob r=some ob/\Z2.tops r=Z.tops r/\Z2.hs r=Z.hs r
 ptop:Z2.ptop=Z.ptop
theorem ResOne_mono {m m':Hp} (hm:Le m m') {b:Bool} {v:Value} {d:Dy} {h:Hp} (r:ResOne m b v d h):ResOne m' b v d h:=by
 cases b with
 | true=>obtain ⟨b,off,e,c,h2,sp,q⟩:=r;exact ⟨b,off,e,c,h2,sp,Rep_mono hm _ _ _ _ _ q⟩
 | false=>obtain ⟨c,e,q⟩:=r;exact ⟨c,e,Rep_mono hm _ _ _ _ _ q⟩
theorem resultsK_ok (hg:tableOk P g.ty=true):∀ {bs:List (Bool×O)} {vars:List ResultVar} {st:St} {Z:Sup} {kk:List Dy->St->Option R} {y:R},Rel Z st a.tmps w->resultsK g bs vars st kk=some y ->
  ∃ rs st' Z2 HR vs,kk rs st'=some y/\VarsOk P a w vars vs/\TakenL Z st a w (bs.map (·.1)) vs rs st' Z2 HR:=by
 have join:∀ {st st1 st2:St} {Z Z1 Z2:Sup} {b:Bool} {bs:List Bool} {v:Value} {vs:List Value} {d:Dy} {rs:List Dy} {hr HR:Hp},Taken Z st a w b v d st1 Z1 hr->TakenL Z1 st1 a w bs vs rs st2 Z2 HR ->
   TakenL Z st a w (b::bs) (v::vs) (d::rs) st2 Z2 (Un hr HR):=by
  intro st st1 st2 Z Z1 Z2 b bs v vs d rs hr HR T L
  have d12:Dj hr HR:=fun b o=>by
   cases e:HR b o with
   | none=>exact .inr rfl
   | some u =>
    left
    obtain ⟨r,hr2⟩:=L.src _ _ _ e
    rcases T.dj r b o with z | z
    ·exact z
    ·rw [hr2] at z;cases z
  have dmh:Dj Z2.m hr:=fun b o=>by
   cases e:hr b o with
   | none=>exact .inr rfl
   | some u =>
    left
    cases e2:Z2.m b o with
    | none=>rfl
    | some u2 =>
     exfalso
     rcases L.md b o (by rw [e2];simp) with z | ⟨r,z⟩
     ·rcases T.djm b o with q | q
      ·exact z q
      ·rw [e] at q;cases q
     ·rcases T.dj r b o with q | q
      ·rw [e] at q;cases q
      ·exact z q
  refine ⟨L.rel,T.m.trans L.m,⟨hr,HR,Un.sp d12,ResOne_mono L.m T.one,L.res⟩,fun r=>(L.hs r).trans (T.hs r),?_,?_,?_,?_,?_,L.ptop.trans T.ptop⟩
  ·intro r b o
   cases e:Z2.hs r b o with
   | none=>exact .inr rfl
   | some u =>
    left
    have e1:hr b o=none:=by
     rcases T.dj r b o with z | z
     ·exact z
     ·rw [L.hs r _ _ _ e] at z;cases z
    have e2:HR b o=none:=by
     rcases L.dj r b o with z | z
     ·exact z
     ·rw [e] at z;cases z
    simp [Un,e1,e2]
  ·intro b o
   rcases dmh b o with z | z
   ·exact .inl z
   ·rcases L.djm b o with z2 | z2
    ·exact .inl z2
    ·right;simp [Un,z,z2]
  ·intro b o u e
   rcases (Un.sp d12).some e with z | z
   ·exact T.src _ _ _ z
   ·obtain ⟨r,z⟩:=L.src _ _ _ z
    exact ⟨r,T.hs r _ _ _ z⟩
  ·intro b o hne
   rcases L.md b o hne with z | ⟨r,z⟩
   ·exact T.md b o z
   ·right
    cases e:Z1.hs r b o with
    | none=>exact absurd e z
    | some u=>exact ⟨r,by rw [T.hs r _ _ _ e];simp⟩
  ·intro r ob hx
   obtain ⟨k1,k2,k3⟩:=L.ob r ob hx
   obtain ⟨j1,j2,j3⟩:=T.ob r ob k1
   exact ⟨j1,k2.trans j2,k3.trans j3⟩
 intro bs
 induction bs with
 | nil =>
  intro vars st Z kk y Rl h
  cases vars with
  | nil=>exact ⟨[],st,Z,Hp.e,[],h,trivial,Rl,Le.refl _,rfl,fun _=>Le.refl _,fun _=>(Dj.e _).symm,Dj.e _,fun _ _ _ e=>(by cases e),fun _ _ h=>.inl h,fun r ob h=>⟨h,rfl,rfl⟩,rfl⟩
  | cons v vars=>simp [resultsK] at h
 | cons bm bs ih =>
  intro vars st Z kk y Rl h
  obtain ⟨b,m⟩:=bm
  cases vars with
  | nil=>simp [resultsK] at h
  | cons v vars =>
   cases v with
   | tmp t =>
    simp only [resultsK] at h
    have hv:=eval_rel Rl none (.tmp t)
    obtain ⟨d,st1,Z1,hr,h1,T⟩:=resultK_ok (b:=b) (m:=m) Rl hv h
    obtain ⟨rs,st2,Z2,HR,vs,h2,ho,L⟩:=ih T.rel h1
    exact ⟨d::rs,st2,Z2,Un hr HR,_::vs,h2,⟨rfl,ho⟩,join T L⟩
   | cell ad t =>
    simp only [resultsK] at h
    cases b with
    | true=>cases h
    | false =>
     simp only [cond_false] at h
     obtain ⟨d,st1,Z1,hr,v,h1,hrun,T⟩:=resultCellK_ok hg Rl h
     obtain ⟨rs,st2,Z2,HR,vs,h2,ho,L⟩:=ih T.rel h1
     exact ⟨d::rs,st2,Z2,Un hr HR,v::vs,h2,⟨hrun,ho⟩,join T L⟩
end
end Go.AE
namespace Go.AE
section
variable {P:Program} {tb:Hp} {C:Ctx tb} {Z:Sup} {st:St} {a:Act} {w w':World} {g:Cfg} {o:Oper} {R:Type} {y:R}
theorem ioBack_ok (Rl:Rel Z st a.tmps w):∀ {ms:List Mode} {ds:List Dy} {fl:List Value} {i:Nat} {kk:List Dy->Option R},Ent Z.ptop i ms ds fl->ioBack st (ioNums i ms ds) kk=some y ->
  ∃ ios H',kk ios=some y/\IosRep Z.m ms fl ios H'/\∀ b o u,H' b o=some u->∃ r,i<=r/\Z.hs r b o=some u:=by
 have one:∀ {i:Nat} {s:S} {l:List (Nat×S)} {kk:List Dy->Option R},ioBack st ((i,s)::l) kk=some y ->
   ∃ ob:Ob,ioBack st l (fun ds=>kk (⟨ob.s,ob.o,ob.x⟩::ds))=some y/\ob.s=s/\Z.tops i=Z.ptop i/\RepT Z.m ob.s ob.o (Z.hs i) (Z.ptop i) ob.x:=by
  intro i s l kk h
  simp only [ioBack] at h
  split at h
  ·rename_i ob hob
   split at h
   ·rename_i hs hp _ hb
    simp only [Bool.and_eq_true,Bool.or_eq_true] at hb
    obtain ⟨hb1,hb2⟩:=hb
    have hlt:i < 50:=by have:=Nat.le_of_ble_eq_true hb2;omega
    have ht:=Rl.pin i ob hob hlt hb1
    have ho:=(Rl.obs i ob hob).2
    rw [hp] at ho
    rw [← ht]
    exact ⟨ob,h,hs,rfl,ho⟩
   ·cases h
  ·cases h
 have join:∀ {i:Nat} {H':Hp},(∀ b o u,H' b o=some u->∃ r,i+1<=r/\Z.hs r b o=some u)->Dj (Z.hs i) H':=by
  intro i H' h b o
  cases e:H' b o with
  | none=>exact .inr rfl
  | some u =>
   left
   obtain ⟨r,hr,e2⟩:=h b o u e
   rcases Rl.dj i r (by omega) b o with z | z
   ·exact z
   ·rw [e2] at z;cases z
 have src:∀ {i:Nat} {H':Hp},Dj (Z.hs i) H'->(∀ b o u,H' b o=some u->∃ r,i+1<=r/\Z.hs r b o=some u)->∀ b o u,Un (Z.hs i) H' b o=some u->∃ r,i<=r/\Z.hs r b o=some u:=by
  intro i H' dj h b o u e
  rcases (Un.sp dj).some e with z | z
  ·exact ⟨i,Nat.le_refl _,z⟩
  ·obtain ⟨r,hr,e2⟩:=h b o u z
   exact ⟨r,by omega,e2⟩
 intro ms
 induction ms with
 | nil =>
  intro ds fl i kk hE h
  match ds,fl,hE with
  | [],[],_=>exact ⟨[],Hp.e,h,rfl,fun _ _ _ e=>by cases e⟩
 | cons q ms ih =>
  intro ds fl i kk hE h
  match q,ds,fl,hE with
  | .io,d::ds,v::fl,⟨⟨b,off,e1,e2⟩,r⟩ =>
   obtain ⟨ob,h1,hs,ht,hr⟩:=one h
   obtain ⟨ios,H',k1,k2,k3⟩:=ih r h1
   rw [e1] at hr
   exact ⟨_,Un (Z.hs i) H',k1,⟨Z.hs i,H',Un.sp (join k3),⟨b,off,e2,hr⟩,k2⟩,src (join k3) k3⟩
  | .iov,d::ds,v::fl,⟨⟨c,e1,e2⟩,r⟩ =>
   obtain ⟨ob,h1,hs,ht,hr⟩:=one h
   obtain ⟨ios,H',k1,k2,k3⟩:=ih r h1
   rw [e1] at hr
   exact ⟨_,Un (Z.hs i) H',k1,⟨Z.hs i,H',Un.sp (join k3),⟨c,by rw [e2];show _=mkVal ob.s c;rw [hs],hr⟩,k2⟩,src (join k3) k3⟩
  | .v,d::ds,v::fl,r =>
   obtain ⟨ios,H',k1,k2,k3⟩:=ih (i:=i+1) (ds:=ds) (fl:=fl) r h
   exact ⟨ios,H',k1,k2,fun b o u e=>let ⟨x,hx,e2⟩:=k3 b o u e;⟨x,by omega,e2⟩⟩
  | .rd,d::ds,v::fl,r =>
   obtain ⟨ios,H',k1,k2,k3⟩:=ih (i:=i+1) (ds:=ds) (fl:=fl) r h
   exact ⟨ios,H',k1,k2,fun b o u e=>let ⟨x,hx,e2⟩:=k3 b o u e;⟨x,by omega,e2⟩⟩
  | .nl,d::ds,v::fl,r =>
   obtain ⟨ios,H',k1,k2,k3⟩:=ih (i:=i+1) (ds:=ds) (fl:=fl) r h
   exact ⟨ios,H',k1,k2,fun b o u e=>let ⟨x,hx,e2⟩:=k3 b o u e;⟨x,by omega,e2⟩⟩
  | .tk,d::ds,v::fl,r =>
   obtain ⟨ios,H',k1,k2,k3⟩:=ih (i:=i+1) (ds:=ds) (fl:=fl) r h
   exact ⟨ios,H',k1,k2,fun b o u e=>let ⟨x,hx,e2⟩:=k3 b o u e;⟨x,by omega,e2⟩⟩
theorem results_run (P:Program) (fn:Func) (a:Act) (w:World) {vs:List Value} (h:VarsOk P a w fn.results.toList vs) :
  (results fn a.tmps).run P w=.ok (packV vs) w:=by
 have key:∀ (l:List ResultVar) (vs:List Value),VarsOk P a w l vs->(l.mapM (m:=Sem) (varRun a)).run P w=.ok vs w:=by
  intro l
  induction l with
  | nil=>intro vs h;cases vs with
   | nil=>rfl
   | cons _ _=>exact h.elim
  | cons x l ih =>
   intro vs h
   cases vs with
   | nil=>exact h.elim
   | cons v vs =>
    obtain ⟨h1,h2⟩:=h
    rw [List.mapM_cons,Sem.run_bind,h1,Result.andThen_ok,Sem.run_bind,ih vs h2,Result.andThen_ok,Sem.run_pure]
 unfold results
 rw [Array.mapM_eq_mapM_toList,Sem.run_bind,Sem.run_map]
 have key':=key _ _ h
 have e:∀ F:ResultVar->Sem Value,F=varRun a->(fn.results.toList.mapM F).run P w=.ok vs w:=by rintro F rfl;exact key'
 refine Eq.trans (congrArg (fun r:Result (List Value)=>Result.andThen (Result.andThen r (fun (l:List Value) w'=>Result.ok l.toArray w')) (fun (l:Array Value) w'=>Sem.run P (pure (if h:l.size=1 then l[0] else Value.tuple l)) w')) (e _ (by funext x;cases x <;> rfl))) ?_
 show Result.ok (if h:vs.toArray.size=1 then vs.toArray[0] else .tuple vs.toArray) w=_
 congr 1
 match vs with
 | []=>rfl
 | [v]=>rfl
 | v::u::l=>simp [packV]
noncomputable def mkCon (g:Cfg) (N:Nat) (fn:Func) (ps:List Par) (modes:List Mode) (res:List (Bool×O)):Con :=
 { modes,ptrs:=res.map (·.1),fn:=fun ds k=>bindO (body g N fn ps modes res ds fun r i=>some (r,i)) fun p=>k p.1 p.2 }
theorem body_ok {f:FuncId} {fn:Func} {N:Nat} {ps:List Par} {modes:List Mode} {res:List (Bool×O)} (hg:tableOk P g.ty=true) (hc:ConsOk P tb g.con) (hm:P.follows .mixedOrders=true) (hf:P.funcs[f]?=some fn) (hL:∀ c,fn.body=some c->LoopsOk P tb g c) :
  ConOk P tb f ps (mkCon g N fn ps modes res):=by
 refine ⟨fun _=>?_,fun b h=>by cases h⟩
 intro w m H vs fl ds htab hps har himm hHeld hdj R k y h
 obtain ⟨⟨rs,ios⟩,h1,h2⟩:=bindO_eq h
 refine ⟨rs,ios,h2,?_⟩
 unfold body at h1
 split at h1
 ·cases h1
 ·rename_i c hb
  have har:ArgsRep m modes ds fl H:=har
  obtain ⟨hs,tops,g1,g2,g3,g4,g5,g6⟩:=enter_ok 0 har
  generalize hpq:enterArgs 0 modes ds=pq at h1 g4 g5
  obtain ⟨as,os⟩:=pq
  simp only at h1 g4 g5
  refine calls_of_wp hf hb ?_
  have e5:=entry_env fn.ntmps (pars_ok (Z:=entSup m hs tops) hps g5)
  have Rl:Rel (entSup m hs tops) { env:=padTo fn.ntmps (pars ps as),objs:=os } (vs.toArray ++ Array.replicate (fn.ntmps - vs.toArray.size) undef) w :=
   ⟨himm,fun r b o v e=>hHeld b o v (g3 r _ _ _ e),fun r=>hdj.le (Le.refl _) (g3 r),g2,fun r o e=>(g4 r o e).2.2,e5.1,e5.2,fun _ _ _ _=>rfl,fun _ _ _ _ _=>rfl⟩
  have F:Fr { w:=w,ptop:=tops,m:=m,h:=H,tab:=htab } (entSup m hs tops) w :=
   ⟨rfl,rfl,rfl,Nat.le_refl _,fun _ _ _=>rfl,fun _ _ _ _=>rfl,fun _ _ _=>rfl,Le.refl _,fun r b o e=>.inl (by
    cases q:(entSup m hs tops).hs r b o with
    | none=>exact absurd q e
    | some u=>show H b o≠none;rw [g3 r _ _ _ q];simp),fun b o e=>.inl e,rfl,fun _ _=>rfl,fun _ _ _ _ _ h _=>by cases h⟩
  refine Code.wp_mono ?_ (code_ok hg hc hm N c (hL c hb) _ _ (rs,ios) { tmps:=vs.toArray ++ Array.replicate (fn.ntmps - vs.toArray.size) undef,defers:=[] } w _ rfl Rl F h1)
  have fin:∀ (st':St) (a':Act) (w':World) (Z':Sup),a'.defers=[]->Rel Z' st' a'.tmps w'->Fr { w:=w,ptop:=tops,m:=m,h:=H,tab:=htab } Z' w' ->
    resultsK g res fn.results.toList st' (fun rs st'=>ioBack st' (ioNums 0 modes ds) fun ios=>some (rs,ios))=some (rs,ios) ->
    a'.defers=[]/\∃ v,(results fn a'.tmps).run P w'=.ok v w'/\CallPost m H w (mkCon g N fn ps modes res) fl rs ios (.returned v) w':=by
   intro st' a' w' Z' hd R' F' e
   obtain ⟨rs',st2,Z2,HR,vs2,k1,k2,T⟩:=resultsK_ok hg R' e
   have hpt:Z2.ptop=tops:=by rw [T.ptop];exact F'.ptop
   obtain ⟨ios',H',j1,j2,j3⟩:=ioBack_ok T.rel (ms:=modes) (ds:=ds) (fl:=fl) (i:=0) (by rw [hpt];exact g6) k1
   simp only [Option.some.injEq,Prod.mk.injEq] at j1
   obtain ⟨q1,q2⟩:=j1
   subst q1 q2
   have heldZ:∀ b o u r,Z2.hs r b o=some u->w'.cell? ⟨b,o,none⟩=some u/\NF w' b:=fun b o u r e=>T.rel.own r b o u e
   refine ⟨hd,_,results_run P fn a' w' k2,_,Z2.m,H',HR,rfl,⟨F'.os,F'.tape,F'.output,F'.size,F'.block,F'.cell,F'.frz,F'.shp⟩,F'.m.trans T.m,T.rel.imm,?_,?_,?_,T.djm,?_,?_,?_,?_,j2,T.res⟩
   ·intro b o u e
    obtain ⟨r,_,e2⟩:=j3 b o u e
    exact heldZ b o u r e2
   ·intro b o u e
    obtain ⟨r,e2⟩:=T.src b o u e
    exact R'.own r b o u e2
   ·intro b o
    cases e:H' b o with
    | none=>exact .inr rfl
    | some u =>
     left
     obtain ⟨r,_,e2⟩:=j3 b o u e
     rcases T.rel.mdj r b o with z | z
     ·exact z
     ·rw [e2] at z;cases z
   ·intro b o
    cases e:H' b o with
    | none=>exact .inl rfl
    | some u =>
     right
     obtain ⟨r,_,e2⟩:=j3 b o u e
     rcases T.dj r b o with z | z
     ·exact z
     ·rw [e2] at z;cases z
   ·intro b o e
    rcases T.md b o e with z | ⟨r,z⟩
    ·exact F'.mf b o z
    ·rcases F'.hs r b o z with q | q
     ·exact .inr (.inl q)
     ·exact .inr (.inr q)
   ·intro b o e
    cases q:H' b o with
    | none=>exact absurd q e
    | some u =>
     obtain ⟨r,_,e2⟩:=j3 b o u q
     exact F'.hs r b o (by rw [T.hs r _ _ _ e2];simp)
   ·intro b o e
    cases q:HR b o with
    | none=>exact absurd q e
    | some u =>
     obtain ⟨r,e2⟩:=T.src b o u q
     exact F'.hs r b o (by rw [e2];simp)
  rintro ex a' w' ⟨st',Z',k1,k2,k3,k4⟩
  cases ex with
  | normal=>exact fin st' a' w' Z' k2 k3 k4 k1
  | ret=>exact fin st' a' w' Z' k2 k3 k4 k1
  | exit id=>cases k1
  | goto l=>cases k1
  | panic ch=>cases k1
  | outgrown=>cases k1
theorem ConOk.weaken {f:FuncId} {ps:List Par} {c c':Con} (h:ConOk P tb f ps c) (hm:c'.modes=c.modes) (hp:c'.ptrs=c.ptrs)
  (hfn:∀ (ds:List Dy) {R:Type} (k:List Dy->List Dy->Option R) (y:R),c'.fn ds k=some y->c.fn ds k=some y) (h0:c.bl=none) (h0':c'.bl=none):ConOk P tb f ps c':=by
 refine ⟨fun _=>?_,fun b q=>by rw [h0'] at q;cases q⟩
 intro w m H vs fl ds ht h1 h2 h3 h4 h5 R k y h6
 rw [hm] at h2
 obtain ⟨res,ios,k1,k2⟩:=h.1 h0 w m H vs fl ds ht h1 h2 h3 h4 h5 k y (hfn ds k y h6)
 refine ⟨res,ios,k1,k2.mono fun e w' hP=>?_⟩
 unfold CallPost at hP ⊢
 rw [hm,hp]
 exact hP
end
end Go.AE
namespace Go.AE
theorem castDm_eq {R:Type} {s:S} {o:O} {d:Dy} {k:den s->Option R} {y:R} (h:castDm s o d k=some y):∃ x,d=⟨s,o,x⟩/\k x=some y:=by
 unfold castDm at h
 obtain ⟨hb,h9⟩:=cond_some h
 have e:=O.beq_eq hb
 clear h hb
 unfold castD at h9
 split at h9
 ·rename_i hs _
  obtain ⟨ds,do',dx⟩:=d
  simp only at hs e
  subst hs e
  exact ⟨dx,rfl,h9⟩
 ·cases h9
theorem O.beq_self:∀ o:O,o.beq o=true
 | .imm=>rfl
 | .own o=>O.beq_self o
 | .pr a b=>by simp only [O.beq,O.beq_self a,O.beq_self b];rfl
theorem castDm_self {R:Type} {s:S} {o:O} {x:den s} {k:den s->Option R}:castDm s o ⟨s,o,x⟩ k=k x:=by
 unfold castDm
 simp only [O.beq_self,cond_true]
 unfold castD
 split
 ·rfl
 ·rename_i h _;exact absurd rfl h
theorem none_some {R:Type} {y:R} {p:Prop} (h:(none:Option R)=some y):p:=by cases h
def bindF {A R:Type} (m:Option A) (f:A->Option R):Option R:=bindO m f
theorem bindF_ifB {A R:Type} {c:Bool} {a b:Option A} {f:A->Option R}:bindF (ifB c a b) f=ifB c (bindF a f) (bindF b f):=by
 unfold ifB bindF;split <;> rfl
theorem bindF_bindO {A B R:Type} {m:Option A} {f:A->Option B} {g:B->Option R}:bindF (bindO m f) g=bindO m fun x=>bindF (f x) g:=by
 cases m <;> rfl
theorem bindF_pure {A R:Type} {x:A} {f:A->Option R}:bindF (some x) f=f x:=rfl
theorem bindF_none {A R:Type} {f:A->Option R}:bindF none f=none:=rfl
theorem bindF_onSum {A B C R:Type} {f:A->Option C} {g:B->Option C} {x:A ⊕ B} {h:C->Option R}:bindF (onSum f g x) h=onSum (fun a=>bindF (f a) h) (fun b=>bindF (g b) h) x:=by
 cases x <;> rfl
theorem bindF_loopP {D E R R':Type} {s1:D->(D->Option R)->(E->Option R)->Option R} {s2:D->(D->Option R')->(E->Option R')->Option R'} {g:R->Option R'}
  (hs:∀ d kn kx,bindF (s1 d kn kx) g=s2 d (fun d'=>bindF (kn d') g) (fun e=>bindF (kx e) g)):∀ (n:Nat) (d:D) (k:E->Option R),bindF (loopP s1 n d k) g=loopP s2 n d fun e=>bindF (k e) g
 | 0,d,k=>rfl
 | n+1,d,k=>by
  show bindF (s1 d _ k) g=s2 d _ _
  rw [hs]
  congr 1
  funext d'
  exact bindF_loopP hs n d' k
theorem pars_eq:∀ {ps qs:List Par},parsBeq ps qs=true->ps=qs
 | [],[],_=>rfl
 | a::ps,b::qs,h=>by
  simp only [parsBeq,Bool.and_eq_true] at h
  obtain ⟨h1,h2⟩:=h
  rw [pars_eq h2]
  cases a <;> cases b <;> simp [Par.beq] at h1 <;> simp_all
 | [],_::_,h=>by cases h
 | _::_,[],h=>by cases h
section
variable {P:Program} {tb:Hp} {g:Cfg}
theorem consOk_nil:ConsOk P tb []:=fun f ps c h=>by cases h
theorem consOk_cons {f:FuncId} {ps:List Par} {c:Con} {l:List ((FuncId×List Par)×Con)} (hb:hasBody P f) (hc:ConOk P tb f ps c) (hd:ConDet c) (hl:ConsOk P tb l):ConsOk P tb (((f,ps),c)::l):=by
 intro f' ps' c' h
 simp only [lookCon] at h
 cases hh:Nat.beq f f' && parsBeq ps ps' with
 | true =>
  rw [hh] at h
  simp only [cond_true,Option.some.injEq] at h
  simp only [Bool.and_eq_true] at hh
  have e1:=Nat.eq_of_beq_eq_true hh.1
  have e2:=pars_eq hh.2
  subst e1 e2 h
  exact ⟨hb,hc,hd⟩
 | false =>
  rw [hh] at h
  exact hl f' ps' c' h
def fnBody (fn:Func):Code:=match fn.body with | some c=>c | none=>.skip
theorem conOk_mk {N:Nat} {fn:Func} {f:FuncId} {ps:List Par} {modes:List Mode} {res:List (Bool×O)} {c:Con} (hg:tableOk P g.ty=true) (hc:ConsOk P tb g.con) (hm:P.follows .mixedOrders=true)
  (hf:P.funcs[f]?=some fn) (hL:LoopsOk P tb g (fnBody fn)) (e1:c.modes=modes) (e0:c.bl=none) (e2:c.ptrs=res.map (·.1))
  (h:∀ (ds:List Dy) {R:Type} (k:List Dy->List Dy->Option R) (y:R),c.fn ds k=some y->(mkCon g N fn ps modes res).fn ds k=some y):ConOk P tb f ps c :=
 have hL':∀ b,fn.body=some b->LoopsOk P tb g b:=fun b hb=>by
  have e:fnBody fn=b:=by
   unfold fnBody
   rw [hb]
  rw [← e]
  exact hL
 (body_ok (N:=N) (modes:=modes) (res:=res) hg hc hm hf hL').weaken e1 e2 h rfl e0
theorem con_fin {T R:Type} {N:Nat} {fn:Func} {ps:List Par} {modes:List Mode} {res:List (Bool×O)} {ds:List Dy} {m:Option T} {A B:T->List Dy} {k:List Dy->List Dy->Option R} {y:R}
  (hb:body g N fn ps modes res ds (fun r i=>some (r,i))=bindO m fun r=>some (A r,B r)) (h:(bindO m fun r=>k (A r) (B r))=some y):(mkCon g N fn ps modes res).fn ds k=some y:=by
 show bindO (body g N fn ps modes res ds fun r i=>some (r,i)) (fun p=>k p.1 p.2)=some y
 rw [hb]
 obtain ⟨r,e,h⟩:=bindO_some h
 rw [e];exact h
def Psh {A R:Type} (a:Option A) (b:Option R) (f:A->Option R):Prop:=∀ y,bindO a f=some y->b=some y
theorem psh_pure {A R:Type} {x:A} {f:A->Option R}:Psh (some x) (f x) f:=fun _ h=>h
theorem psh_none {A R:Type} {b:Option R} {f:A->Option R}:Psh none b f:=fun _ h=>by cases h
theorem psh_ifB {A R:Type} {c:Bool} {a a':Option A} {b b':Option R} {f:A->Option R} (h1:Psh a b f) (h2:Psh a' b' f):Psh (ifB c a a') (ifB c b b') f:=by
 intro y h
 cases c with
 | true=>exact h1 y h
 | false=>exact h2 y h
theorem psh_same {A R:Type} {a a':Option A} {b b':Option R} {f:A->Option R} (h1:Psh a b f) (h2:Psh a' b' f):Psh (same a a') (same b b') f:=by
 intro y h
 obtain ⟨z,hz,h⟩:=bindO_some h
 obtain ⟨e1,e2⟩:=same_eq hz
 have q1:=h1 y (by rw [e1];exact h)
 have q2:=h2 y (by rw [e2];exact h)
 unfold same
 rw [q1,q2,if_pos rfl]
theorem psh_bindO {A B R:Type} {m:Option B} {a:B->Option A} {b:B->Option R} {f:A->Option R} (h:∀ x,Psh (a x) (b x) f):Psh (bindO m a) (bindO m b) f:=by
 intro y hy
 cases m with
 | none=>cases hy
 | some x=>exact h x y hy
theorem con_fin' {T R:Type} {N:Nat} {fn:Func} {ps:List Par} {modes:List Mode} {res:List (Bool×O)} {ds:List Dy} {m:Option T} {G:Option (List Dy×List Dy)} {A B:T->List Dy} {k:List Dy->List Dy->Option R} {y:R}
  (hb:body g N fn ps modes res ds (fun r i=>some (r,i))=G) (hp:Psh m G fun r=>some (A r,B r)) (h:(bindO m fun r=>k (A r) (B r))=some y):(mkCon g N fn ps modes res).fn ds k=some y:=by
 show bindO (body g N fn ps modes res ds fun r i=>some (r,i)) (fun p=>k p.1 p.2)=some y
 obtain ⟨r,e,h⟩:=bindO_some h
 rw [hb,hp (A r,B r) (by rw [e];rfl)]
 exact h
def nthLoop (c:Code) (i:Nat):Code:=match (loopsOf c)[i]? with | some b=>b | none=>.skip
def LoopsL (P:Program) (tb:Hp) (g:Cfg):List Code->Prop
 | []=>True
 | b::l=>(∀ id L,loopKey b=some id->lookLoop g.loops id=some L->LoopOk P tb b L)/\LoopsL P tb g l
theorem loopsL_mem:∀ {l:List Code},LoopsL P tb g l->∀ b∈l,∀ id L,loopKey b=some id->lookLoop g.loops id=some L->LoopOk P tb b L
 | x::l,h,b,hb=>by
  cases hb with
  | head=>exact h.1
  | tail _ hb=>exact loopsL_mem h.2 b hb
theorem loopsL {c:Code} {l:List Code} (e:loopsOf c=l) (h:LoopsL P tb g l):LoopsOk P tb g c:=fun b hb=>loopsL_mem h b (e ▸ hb)
theorem loopOne {b:Code} {id:Nat} {L0:LoopCon} (h1:loopKey b=some id) (h2:lookLoop g.loops id=some L0) (h:LoopOk P tb b L0):∀ id' L,loopKey b=some id'->lookLoop g.loops id'=some L->LoopOk P tb b L:=by
 intro id' L e1 e2
 rw [h1] at e1
 injection e1 with e1
 subst e1
 rw [h2] at e2
 injection e2 with e2
 subst e2
 exact h
end
end Go.AE
namespace Go.AE
def fn1 {T:Type} (S0:S) (O0:O) (f:den S0->Option T) (A B:T->List Dy) {R:Type} (ds:List Dy) (k:List Dy->List Dy->Option R):Option R:=match ds with | [d0]=>castDm S0 O0 d0 fun x0=>bindO (f x0) fun r=>k (A r) (B r) | _=>none
theorem fn1_inv {T:Type} {S0:S} {O0:O} {f:den S0->Option T} {A B:T->List Dy} {R:Type} {ds:List Dy} {k:List Dy->List Dy->Option R} {y:R} (h:fn1 S0 O0 f A B ds k=some y):∃ x0,ds=[⟨S0,O0,x0⟩]/\(bindO (f x0) fun r=>k (A r) (B r))=some y:=by
 unfold fn1 at h
 cases ds with
 | nil=>exact none_some h
 | cons d0 ds =>
 cases ds with
 | cons _ _=>exact none_some h
 | nil =>
 have h0:(castDm S0 O0 d0 fun x0=>bindO (f x0) fun r=>k (A r) (B r))=some y:=h
 clear h
 obtain ⟨x0,rfl,h1⟩:=castDm_eq h0
 exact ⟨x0,rfl,h1⟩
theorem det1 {T:Type} {ms:List Mode} {pt:List Bool} {S0:S} {O0:O} {f:den S0->Option T} {A B:T->List Dy}:ConDet { modes:=ms,ptrs:=pt,fn:=fn1 S0 O0 f A B }:=by
 intro ds R k y h
 obtain ⟨x0,rfl,h2⟩:=fn1_inv h
 obtain ⟨r,e,h⟩:=bindO_some h2
 refine ⟨_,_,h,fun k'=>?_⟩
 show (castDm S0 O0 (⟨S0,O0,x0⟩:Dy) fun x0=>bindO (f x0) fun r=>k' (A r) (B r))=_
 simp only [castDm_self]
 rw [e]
 rfl
theorem ok1 {P:Program} {tb:Hp} {g:Cfg} {N:Nat} {fn:Func} {fid:FuncId} {ps:List Par} {modes:List Mode} {pt:List Bool} {res:List (Bool×O)} {T:Type} {S0:S} {O0:O} {f:den S0->Option T} {A B:T->List Dy} (hg:tableOk P g.ty=true) (hc:ConsOk P tb g.con) (hm:P.follows .mixedOrders=true) (hf:P.funcs[fid]?=some fn) (hL:LoopsOk P tb g (fnBody fn)) (e2:pt=res.map (·.1))
  (hb:∀ x0,body g N fn ps modes res [⟨S0,O0,x0⟩] (fun r i=>some (r,i))=bindO (f x0) fun r=>some (A r,B r)):ConOk P tb fid ps { modes:=modes,ptrs:=pt,fn:=fn1 S0 O0 f A B }:=by
 refine conOk_mk (g:=g) (N:=N) (res:=res) hg hc hm hf hL rfl rfl e2 ?_
 intro ds R k y h
 obtain ⟨x0,rfl,h2⟩:=fn1_inv h
 exact con_fin (hb x0) h2
def fn2 {T:Type} (S0:S) (O0:O) (S1:S) (O1:O) (f:den S0->den S1->Option T) (A B:T->List Dy) {R:Type} (ds:List Dy) (k:List Dy->List Dy->Option R):Option R:=match ds with | [d0,d1]=>castDm S0 O0 d0 fun x0=>castDm S1 O1 d1 fun x1=>bindO (f x0 x1) fun r=>k (A r) (B r) | _=>none
theorem fn2_inv {T:Type} {S0:S} {O0:O} {S1:S} {O1:O} {f:den S0->den S1->Option T} {A B:T->List Dy} {R:Type} {ds:List Dy} {k:List Dy->List Dy->Option R} {y:R} (h:fn2 S0 O0 S1 O1 f A B ds k=some y):∃ x0 x1,ds=[⟨S0,O0,x0⟩,⟨S1,O1,x1⟩]/\(bindO (f x0 x1) fun r=>k (A r) (B r))=some y:=by
 unfold fn2 at h
 cases ds with
 | nil=>exact none_some h
 | cons d0 ds =>
 cases ds with
 | nil=>exact none_some h
 | cons d1 ds =>
 cases ds with
 | cons _ _=>exact none_some h
 | nil =>
 have h0:(castDm S0 O0 d0 fun x0=>castDm S1 O1 d1 fun x1=>bindO (f x0 x1) fun r=>k (A r) (B r))=some y:=h
 clear h
 obtain ⟨x0,rfl,h1⟩:=castDm_eq h0
 obtain ⟨x1,rfl,h2⟩:=castDm_eq h1
 exact ⟨x0,x1,rfl,h2⟩
theorem det2 {T:Type} {ms:List Mode} {pt:List Bool} {S0:S} {O0:O} {S1:S} {O1:O} {f:den S0->den S1->Option T} {A B:T->List Dy}:ConDet { modes:=ms,ptrs:=pt,fn:=fn2 S0 O0 S1 O1 f A B }:=by
 intro ds R k y h
 obtain ⟨x0,x1,rfl,h2⟩:=fn2_inv h
 obtain ⟨r,e,h⟩:=bindO_some h2
 refine ⟨_,_,h,fun k'=>?_⟩
 show (castDm S0 O0 (⟨S0,O0,x0⟩:Dy) fun x0=>castDm S1 O1 (⟨S1,O1,x1⟩:Dy) fun x1=>bindO (f x0 x1) fun r=>k' (A r) (B r))=_
 simp only [castDm_self]
 rw [e]
 rfl
theorem ok2 {P:Program} {tb:Hp} {g:Cfg} {N:Nat} {fn:Func} {fid:FuncId} {ps:List Par} {modes:List Mode} {pt:List Bool} {res:List (Bool×O)} {T:Type} {S0:S} {O0:O} {S1:S} {O1:O} {f:den S0->den S1->Option T} {A B:T->List Dy} (hg:tableOk P g.ty=true) (hc:ConsOk P tb g.con) (hm:P.follows .mixedOrders=true) (hf:P.funcs[fid]?=some fn) (hL:LoopsOk P tb g (fnBody fn)) (e2:pt=res.map (·.1))
  (hb:∀ x0 x1,body g N fn ps modes res [⟨S0,O0,x0⟩,⟨S1,O1,x1⟩] (fun r i=>some (r,i))=bindO (f x0 x1) fun r=>some (A r,B r)):ConOk P tb fid ps { modes:=modes,ptrs:=pt,fn:=fn2 S0 O0 S1 O1 f A B }:=by
 refine conOk_mk (g:=g) (N:=N) (res:=res) hg hc hm hf hL rfl rfl e2 ?_
 intro ds R k y h
 obtain ⟨x0,x1,rfl,h2⟩:=fn2_inv h
 exact con_fin (hb x0 x1) h2
def fn3 {T:Type} (S0:S) (O0:O) (S1:S) (O1:O) (S2:S) (O2:O) (f:den S0->den S1->den S2->Option T) (A B:T->List Dy) {R:Type} (ds:List Dy) (k:List Dy->List Dy->Option R):Option R:=match ds with | [d0,d1,d2]=>castDm S0 O0 d0 fun x0=>castDm S1 O1 d1 fun x1=>castDm S2 O2 d2 fun x2=>bindO (f x0 x1 x2) fun r=>k (A r) (B r) | _=>none
theorem fn3_inv {T:Type} {S0:S} {O0:O} {S1:S} {O1:O} {S2:S} {O2:O} {f:den S0->den S1->den S2->Option T} {A B:T->List Dy} {R:Type} {ds:List Dy} {k:List Dy->List Dy->Option R} {y:R} (h:fn3 S0 O0 S1 O1 S2 O2 f A B ds k=some y):∃ x0 x1 x2,ds=[⟨S0,O0,x0⟩,⟨S1,O1,x1⟩,⟨S2,O2,x2⟩]/\(bindO (f x0 x1 x2) fun r=>k (A r) (B r))=some y:=by
 unfold fn3 at h
 cases ds with
 | nil=>exact none_some h
 | cons d0 ds =>
 cases ds with
 | nil=>exact none_some h
 | cons d1 ds =>
 cases ds with
 | nil=>exact none_some h
 | cons d2 ds =>
 cases ds with
 | cons _ _=>exact none_some h
 | nil =>
 have h0:(castDm S0 O0 d0 fun x0=>castDm S1 O1 d1 fun x1=>castDm S2 O2 d2 fun x2=>bindO (f x0 x1 x2) fun r=>k (A r) (B r))=some y:=h
 clear h
 obtain ⟨x0,rfl,h1⟩:=castDm_eq h0
 obtain ⟨x1,rfl,h2⟩:=castDm_eq h1
 obtain ⟨x2,rfl,h3⟩:=castDm_eq h2
 exact ⟨x0,x1,x2,rfl,h3⟩
theorem det3 {T:Type} {ms:List Mode} {pt:List Bool} {S0:S} {O0:O} {S1:S} {O1:O} {S2:S} {O2:O} {f:den S0->den S1->den S2->Option T} {A B:T->List Dy}:ConDet { modes:=ms,ptrs:=pt,fn:=fn3 S0 O0 S1 O1 S2 O2 f A B }:=by
 intro ds R k y h
 obtain ⟨x0,x1,x2,rfl,h2⟩:=fn3_inv h
 obtain ⟨r,e,h⟩:=bindO_some h2
 refine ⟨_,_,h,fun k'=>?_⟩
 show (castDm S0 O0 (⟨S0,O0,x0⟩:Dy) fun x0=>castDm S1 O1 (⟨S1,O1,x1⟩:Dy) fun x1=>castDm S2 O2 (⟨S2,O2,x2⟩:Dy) fun x2=>bindO (f x0 x1 x2) fun r=>k' (A r) (B r))=_
 simp only [castDm_self]
 rw [e]
 rfl
theorem ok3 {P:Program} {tb:Hp} {g:Cfg} {N:Nat} {fn:Func} {fid:FuncId} {ps:List Par} {modes:List Mode} {pt:List Bool} {res:List (Bool×O)} {T:Type} {S0:S} {O0:O} {S1:S} {O1:O} {S2:S} {O2:O} {f:den S0->den S1->den S2->Option T} {A B:T->List Dy} (hg:tableOk P g.ty=true) (hc:ConsOk P tb g.con) (hm:P.follows .mixedOrders=true) (hf:P.funcs[fid]?=some fn) (hL:LoopsOk P tb g (fnBody fn)) (e2:pt=res.map (·.1))
  (hb:∀ x0 x1 x2,body g N fn ps modes res [⟨S0,O0,x0⟩,⟨S1,O1,x1⟩,⟨S2,O2,x2⟩] (fun r i=>some (r,i))=bindO (f x0 x1 x2) fun r=>some (A r,B r)):ConOk P tb fid ps { modes:=modes,ptrs:=pt,fn:=fn3 S0 O0 S1 O1 S2 O2 f A B }:=by
 refine conOk_mk (g:=g) (N:=N) (res:=res) hg hc hm hf hL rfl rfl e2 ?_
 intro ds R k y h
 obtain ⟨x0,x1,x2,rfl,h2⟩:=fn3_inv h
 exact con_fin (hb x0 x1 x2) h2
def fn4 {T:Type} (S0:S) (O0:O) (S1:S) (O1:O) (S2:S) (O2:O) (S3:S) (O3:O) (f:den S0->den S1->den S2->den S3->Option T) (A B:T->List Dy) {R:Type} (ds:List Dy) (k:List Dy->List Dy->Option R):Option R:=match ds with | [d0,d1,d2,d3]=>castDm S0 O0 d0 fun x0=>castDm S1 O1 d1 fun x1=>castDm S2 O2 d2 fun x2=>castDm S3 O3 d3 fun x3=>bindO (f x0 x1 x2 x3) fun r=>k (A r) (B r) | _=>none
theorem fn4_inv {T:Type} {S0:S} {O0:O} {S1:S} {O1:O} {S2:S} {O2:O} {S3:S} {O3:O} {f:den S0->den S1->den S2->den S3->Option T} {A B:T->List Dy} {R:Type} {ds:List Dy} {k:List Dy->List Dy->Option R} {y:R} (h:fn4 S0 O0 S1 O1 S2 O2 S3 O3 f A B ds k=some y):∃ x0 x1 x2 x3,ds=[⟨S0,O0,x0⟩,⟨S1,O1,x1⟩,⟨S2,O2,x2⟩,⟨S3,O3,x3⟩]/\(bindO (f x0 x1 x2 x3) fun r=>k (A r) (B r))=some y:=by
 unfold fn4 at h
 cases ds with
 | nil=>exact none_some h
 | cons d0 ds =>
 cases ds with
 | nil=>exact none_some h
 | cons d1 ds =>
 cases ds with
 | nil=>exact none_some h
 | cons d2 ds =>
 cases ds with
 | nil=>exact none_some h
 | cons d3 ds =>
 cases ds with
 | cons _ _=>exact none_some h
 | nil =>
 have h0:(castDm S0 O0 d0 fun x0=>castDm S1 O1 d1 fun x1=>castDm S2 O2 d2 fun x2=>castDm S3 O3 d3 fun x3=>bindO (f x0 x1 x2 x3) fun r=>k (A r) (B r))=some y:=h
 clear h
 obtain ⟨x0,rfl,h1⟩:=castDm_eq h0
 obtain ⟨x1,rfl,h2⟩:=castDm_eq h1
 obtain ⟨x2,rfl,h3⟩:=castDm_eq h2
 obtain ⟨x3,rfl,h4⟩:=castDm_eq h3
 exact ⟨x0,x1,x2,x3,rfl,h4⟩
theorem det4 {T:Type} {ms:List Mode} {pt:List Bool} {S0:S} {O0:O} {S1:S} {O1:O} {S2:S} {O2:O} {S3:S} {O3:O} {f:den S0->den S1->den S2->den S3->Option T} {A B:T->List Dy}:ConDet { modes:=ms,ptrs:=pt,fn:=fn4 S0 O0 S1 O1 S2 O2 S3 O3 f A B }:=by
 intro ds R k y h
 obtain ⟨x0,x1,x2,x3,rfl,h2⟩:=fn4_inv h
 obtain ⟨r,e,h⟩:=bindO_some h2
 refine ⟨_,_,h,fun k'=>?_⟩
 show (castDm S0 O0 (⟨S0,O0,x0⟩:Dy) fun x0=>castDm S1 O1 (⟨S1,O1,x1⟩:Dy) fun x1=>castDm S2 O2 (⟨S2,O2,x2⟩:Dy) fun x2=>castDm S3 O3 (⟨S3,O3,x3⟩:Dy) fun x3=>bindO (f x0 x1 x2 x3) fun r=>k' (A r) (B r))=_
 simp only [castDm_self]
 rw [e]
 rfl
theorem ok4 {P:Program} {tb:Hp} {g:Cfg} {N:Nat} {fn:Func} {fid:FuncId} {ps:List Par} {modes:List Mode} {pt:List Bool} {res:List (Bool×O)} {T:Type} {S0:S} {O0:O} {S1:S} {O1:O} {S2:S} {O2:O} {S3:S} {O3:O} {f:den S0->den S1->den S2->den S3->Option T} {A B:T->List Dy} (hg:tableOk P g.ty=true) (hc:ConsOk P tb g.con) (hm:P.follows .mixedOrders=true) (hf:P.funcs[fid]?=some fn) (hL:LoopsOk P tb g (fnBody fn)) (e2:pt=res.map (·.1))
  (hb:∀ x0 x1 x2 x3,body g N fn ps modes res [⟨S0,O0,x0⟩,⟨S1,O1,x1⟩,⟨S2,O2,x2⟩,⟨S3,O3,x3⟩] (fun r i=>some (r,i))=bindO (f x0 x1 x2 x3) fun r=>some (A r,B r)):ConOk P tb fid ps { modes:=modes,ptrs:=pt,fn:=fn4 S0 O0 S1 O1 S2 O2 S3 O3 f A B }:=by
 refine conOk_mk (g:=g) (N:=N) (res:=res) hg hc hm hf hL rfl rfl e2 ?_
 intro ds R k y h
 obtain ⟨x0,x1,x2,x3,rfl,h2⟩:=fn4_inv h
 exact con_fin (hb x0 x1 x2 x3) h2
def fn5 {T:Type} (S0:S) (O0:O) (S1:S) (O1:O) (S2:S) (O2:O) (S3:S) (O3:O) (S4:S) (O4:O) (f:den S0->den S1->den S2->den S3->den S4->Option T) (A B:T->List Dy) {R:Type} (ds:List Dy) (k:List Dy->List Dy->Option R):Option R:=match ds with | [d0,d1,d2,d3,d4]=>castDm S0 O0 d0 fun x0=>castDm S1 O1 d1 fun x1=>castDm S2 O2 d2 fun x2=>castDm S3 O3 d3 fun x3=>castDm S4 O4 d4 fun x4=>bindO (f x0 x1 x2 x3 x4) fun r=>k (A r) (B r) | _=>none
theorem fn5_inv {T:Type} {S0:S} {O0:O} {S1:S} {O1:O} {S2:S} {O2:O} {S3:S} {O3:O} {S4:S} {O4:O} {f:den S0->den S1->den S2->den S3->den S4->Option T} {A B:T->List Dy} {R:Type} {ds:List Dy} {k:List Dy->List Dy->Option R} {y:R} (h:fn5 S0 O0 S1 O1 S2 O2 S3 O3 S4 O4 f A B ds k=some y):∃ x0 x1 x2 x3 x4,ds=[⟨S0,O0,x0⟩,⟨S1,O1,x1⟩,⟨S2,O2,x2⟩,⟨S3,O3,x3⟩,⟨S4,O4,x4⟩]/\(bindO (f x0 x1 x2 x3 x4) fun r=>k (A r) (B r))=some y:=by
 unfold fn5 at h
 cases ds with
 | nil=>exact none_some h
 | cons d0 ds =>
 cases ds with
 | nil=>exact none_some h
 | cons d1 ds =>
 cases ds with
 | nil=>exact none_some h
 | cons d2 ds =>
 cases ds with
 | nil=>exact none_some h
 | cons d3 ds =>
 cases ds with
 | nil=>exact none_some h
 | cons d4 ds =>
 cases ds with
 | cons _ _=>exact none_some h
 | nil =>
 have h0:(castDm S0 O0 d0 fun x0=>castDm S1 O1 d1 fun x1=>castDm S2 O2 d2 fun x2=>castDm S3 O3 d3 fun x3=>castDm S4 O4 d4 fun x4=>bindO (f x0 x1 x2 x3 x4) fun r=>k (A r) (B r))=some y:=h
 clear h
 obtain ⟨x0,rfl,h1⟩:=castDm_eq h0
 obtain ⟨x1,rfl,h2⟩:=castDm_eq h1
 obtain ⟨x2,rfl,h3⟩:=castDm_eq h2
 obtain ⟨x3,rfl,h4⟩:=castDm_eq h3
 obtain ⟨x4,rfl,h5⟩:=castDm_eq h4
 exact ⟨x0,x1,x2,x3,x4,rfl,h5⟩
theorem det5 {T:Type} {ms:List Mode} {pt:List Bool} {S0:S} {O0:O} {S1:S} {O1:O} {S2:S} {O2:O} {S3:S} {O3:O} {S4:S} {O4:O} {f:den S0->den S1->den S2->den S3->den S4->Option T} {A B:T->List Dy}:ConDet { modes:=ms,ptrs:=pt,fn:=fn5 S0 O0 S1 O1 S2 O2 S3 O3 S4 O4 f A B }:=by
 intro ds R k y h
 obtain ⟨x0,x1,x2,x3,x4,rfl,h2⟩:=fn5_inv h
 obtain ⟨r,e,h⟩:=bindO_some h2
 refine ⟨_,_,h,fun k'=>?_⟩
 show (castDm S0 O0 (⟨S0,O0,x0⟩:Dy) fun x0=>castDm S1 O1 (⟨S1,O1,x1⟩:Dy) fun x1=>castDm S2 O2 (⟨S2,O2,x2⟩:Dy) fun x2=>castDm S3 O3 (⟨S3,O3,x3⟩:Dy) fun x3=>castDm S4 O4 (⟨S4,O4,x4⟩:Dy) fun x4=>bindO (f x0 x1 x2 x3 x4) fun r=>k' (A r) (B r))=_
 simp only [castDm_self]
 rw [e]
 rfl
theorem ok5 {P:Program} {tb:Hp} {g:Cfg} {N:Nat} {fn:Func} {fid:FuncId} {ps:List Par} {modes:List Mode} {pt:List Bool} {res:List (Bool×O)} {T:Type} {S0:S} {O0:O} {S1:S} {O1:O} {S2:S} {O2:O} {S3:S} {O3:O} {S4:S} {O4:O} {f:den S0->den S1->den S2->den S3->den S4->Option T} {A B:T->List Dy} (hg:tableOk P g.ty=true) (hc:ConsOk P tb g.con) (hm:P.follows .mixedOrders=true) (hf:P.funcs[fid]?=some fn) (hL:LoopsOk P tb g (fnBody fn)) (e2:pt=res.map (·.1))
  (hb:∀ x0 x1 x2 x3 x4,body g N fn ps modes res [⟨S0,O0,x0⟩,⟨S1,O1,x1⟩,⟨S2,O2,x2⟩,⟨S3,O3,x3⟩,⟨S4,O4,x4⟩] (fun r i=>some (r,i))=bindO (f x0 x1 x2 x3 x4) fun r=>some (A r,B r)):ConOk P tb fid ps { modes:=modes,ptrs:=pt,fn:=fn5 S0 O0 S1 O1 S2 O2 S3 O3 S4 O4 f A B }:=by
 refine conOk_mk (g:=g) (N:=N) (res:=res) hg hc hm hf hL rfl rfl e2 ?_
 intro ds R k y h
 obtain ⟨x0,x1,x2,x3,x4,rfl,h2⟩:=fn5_inv h
 exact con_fin (hb x0 x1 x2 x3 x4) h2
def dd:Nat->List Sk->List Sk
 | 0,l=>l
 | n+1,l=>.dead::dd n l
end Go.AE
namespace Go.AE
open Go.RowKit (Below)
def memOf (w:World):Hp:=fun b o=>w.cell? ⟨b,o,none⟩
theorem below_of {w w':World} (M:Mod Hp.e w w'):Below w.heap.size w w' :=
 ⟨M.os,M.tape,M.output,M.size,fun k hk=>M.block k hk fun _=>rfl⟩
theorem law_calls {P:Program} {tb:Hp} {f:FuncId} {ps:List Par} {c:Con} {W:World} {vs:List Value} {ds:List Dy} {o:O} (ok:ConOk P tb f ps c) (hp:ParsV ps vs vs) (ha:ArgsRep (memOf W) c.modes ds vs Hp.e)
  (hptr:c.ptrs=[false]) (hbl:c.bl=none) (htb:Le tb (memOf W)) (h:c.fn ds (fun r i=>some (r,i))=some ([⟨.bool,o,true⟩],[])) :
  Calls P f vs.toArray W fun e W'=>e=.returned (.bool true)/\Below W.heap.size W W':=by
 obtain ⟨res,ios,h1,h2⟩:=ok.1 hbl W (memOf W) Hp.e vs vs ds htb hp ha (fun b o v e=>e) (fun _ _ _ e=>by cases e) (Dj.e _) _ _ h
 simp only [Option.some.injEq,Prod.mk.injEq] at h1
 obtain ⟨e1,e2⟩:=h1
 subst e1 e2
 refine h2.mono fun e W' hP=>?_
 obtain ⟨rvs,m',H',HR,he,M,_,_,_,_,_,_,_,_,_,_,_,hres⟩:=hP
 refine ⟨?_,below_of M⟩
 rw [hptr] at hres
 cases rvs with
 | nil=>simp [ResRep] at hres
 | cons v rvs =>
  obtain ⟨a,b,_,hone,hnil⟩:=hres
  cases rvs with
  | cons _ _=>simp [ResRep] at hnil
  | nil =>
   obtain ⟨cc,hv,_,hc⟩:=hone
   rw [he,hv,hc]
   rfl
theorem argsRep_nil {m:Hp}:ArgsRep m [] [] [] Hp.e:=rfl
theorem argsRep_v {m:Hp} {ms:List Mode} {ds:List Dy} {vs:List Value} {s:S} {x:den s} {c:List Value} (hr:Rep m s .imm Hp.e c x) (h:ArgsRep m ms ds vs Hp.e) :
  ArgsRep m (.v::ms) (⟨s,.imm,x⟩::ds) (mkVal s c::vs) Hp.e:=⟨Hp.e,Hp.e,Sp.e_left _,⟨rfl,c,rfl,hr⟩,h⟩
end Go.AE
namespace Go.AE
def Wf:(s:S)->den s->Prop
 | .int k,n=>k.min<=n/\n<=k.max
 | .bool,_=>True
 | .unit,_=>True
 | .str,b=>b.size<=9223372036854775807
 | .sl _ s,xs=>xs.length<=9223372036854775807/\∀ x∈xs,Wf s x
 | .pair a b,x=>Wf a x.1/\Wf b x.2
def deep (P:Program):S->TypeId ⊕ List Field->Bool
 | .sl e s,.inl t=>typeOk P t (.sl e s) && Nat.ble 1 s.size && deep P s (.inl e)
 | .pair a b,.inl t=>typeOk P t (.pair a b) && (match P.underlying t with
  | some (.struct fs)=>(match fs.toList with
   | f::fs=>deep P a (.inl f.type) && deep P b (.inr fs)
   | []=>false)
  | _=>false)
 | .pair a b,.inr (f::fs)=>deep P a (.inl f.type) && deep P b (.inr fs)
 | .unit,.inr []=>true
 | .int k,.inl t=>typeOk P t (.int k)
 | .bool,.inl t=>typeOk P t .bool
 | .str,.inl t=>typeOk P t .str
 | _,_=>false
theorem cellsOf_info {P:Program} {t:TypeId} {s:S} (h:Info P t s):P.cellsOf t=s.size:=by
 obtain ⟨i,h1,h2,_,_⟩:=h.ex
 unfold Program.cellsOf
 rw [h1];exact h2
section
variable {H:Type} {enc:TypeId×Value->H} {P:Program} {w:World} {base:Nat} {spare:Nat->Bool} {held:Bool}
theorem rows_rep {s:S} {b off n:Nat} (cell:∀ i,i < n->∃ cs x,cs.length=s.size/\(∀ j,j < s.size->w.cell? ⟨b,off+i * s.size+j,none⟩=cs[j]?)/\Rep (memOf w) s .imm Hp.e cs x/\Wf s x) :
  ∃ r xs,r.length=n * s.size/\xs.length=n/\Cov (memOf w) b off r/\RepL (Rep (memOf w) s .imm) Hp.e r xs/\∀ x∈xs,Wf s x:=by
 induction n with
 | zero=>exact ⟨[],[],by simp,rfl,fun j v e=>by simp at e,⟨rfl,rfl⟩,fun x h=>by cases h⟩
 | succ n ih =>
  obtain ⟨r,xs,h1,h2,h3,h4,h5⟩:=ih fun i hi=>cell i (by omega)
  obtain ⟨cs,x,g1,g2,g3,g4⟩:=cell n (by omega)
  refine ⟨r ++ cs,xs ++ [x],by rw [List.length_append,h1,g1,Nat.succ_mul],by simp [h2],?_,RepL_snoc h4 g3,?_⟩
  ·intro j v e
   by_cases hj:j < r.length
   ·rw [List.getElem?_append_left hj] at e
    exact h3 j v e
   ·rw [List.getElem?_append_right (by omega)] at e
    have hlt:j - r.length < cs.length:=(List.getElem?_eq_some_iff.1 e).1
    have:=g2 (j - r.length) (by omega)
    rw [e] at this
    show w.cell? ⟨b,off+j,none⟩=some v
    rw [← this]
    congr 2
    omega
  ·intro z hz
   rcases List.mem_append.1 hz with hz | hz
   ·exact h5 z hz
   ·simp at hz;subst hz;exact g4
theorem trod_rep : ∀ (s : S), (∀ (t : TypeId) (fuel : Nat) (cs : List Value) (y : DataW H × List MemPlace), deep P s (.inl t) = true -> DataW.trod enc P w base spare held fuel t cs = some y ->
      ∃ x,Rep (memOf w) s .imm Hp.e cs x/\Wf s x) /\
    (∀ (fs:List Field) (off n:Nat) (cs:List Value),deep P s (.inr fs)=true->fieldsOk P s off fs=true->cs.length=off+s.size ->
      (∀ f∈fs,∃ y,DataW.trod enc P w base spare held n f.type ((cs.drop f.offset).take (P.cellsOf f.type))=some y)->∃ x,Rep (memOf w) s .imm Hp.e (cs.drop off) x/\Wf s x):=by
  intro s
  induction s with
  | int k =>
    refine ⟨fun t fuel cs y hd h=>?_,fun fs off n cs hd=>by simp [deep] at hd⟩
    obtain ⟨n,e,_,hw⟩:=DataW.trod_int (typeOk_int hd) h
    exact ⟨n,⟨rfl,e⟩,(Lit.wf_int_iff k n).1 hw⟩
  | bool =>
    refine ⟨fun t fuel cs y hd h=>?_,fun fs off n cs hd=>by simp [deep] at hd⟩
    obtain ⟨b,e,_⟩:=DataW.trod_bool (typeOk_bool hd) h
    exact ⟨b,⟨rfl,e⟩,trivial⟩
  | str =>
    refine ⟨fun t fuel cs y hd h=>?_,fun fs off n cs hd=>by simp [deep] at hd⟩
    obtain ⟨b,e,_,hw⟩:=DataW.trod_string (typeOk_str hd) h
    exact ⟨b,⟨rfl,e⟩,by unfold maxLen at hw;exact (by omega:b.size<=9223372036854775807)⟩
  | unit =>
    refine ⟨fun t fuel cs y hd=>by simp [deep] at hd,fun fs off n cs hd hf hl _=>⟨(),⟨rfl,?_⟩,trivial⟩⟩
    rw [List.drop_eq_nil_of_le (by rw [hl];simp [S.size])]
  | sl e s ih =>
    refine ⟨fun t fuel cs y hd h=>?_,fun fs off n cs hd=>by simp [deep] at hd⟩
    simp only [deep,Bool.and_eq_true] at hd
    obtain ⟨⟨h1,h2⟩,h3⟩:=hd
    have h2:1<=s.size:=Nat.le_of_ble_eq_true h2
    obtain ⟨hu,hi,_⟩:=typeOk_sl h1
    have hc:=cellsOf_info hi
    rcases DataW.trod_slice hu h with ⟨e1,_⟩ | ⟨a,len,cap,elems,rest,n,_,e1,_,hb,hl,hm,hlen,hel,_⟩
    · subst e1
      exact ⟨[],⟨rfl,none,0,rfl,Nat.le_refl _,fun h=>absurd rfl h⟩,by simp [Wf]⟩
    · subst e1
      have hm:cap<=9223372036854775807:=by unfold maxLen at hm;omega
      by_cases h0:len=0
      · subst h0
        exact ⟨[],⟨rfl,some a,cap,rfl,Nat.zero_le _,fun h=>absurd rfl h⟩,by simp [Wf]⟩
      · have each:∀ i,i < len->∃ cs y,w.cells? base (a.add (i * s.size)) s.size=some cs/\DataW.trod enc P w base spare held n e cs=some y:=by
          intro i hi
          have:=hel i hi
          rw [hc] at this
          have hs:∃ y,elems[i]?=some y:=⟨elems[i],by simp [hlen,hi]⟩
          obtain ⟨y,hy⟩:=hs
          rw [hy] at this
          obtain ⟨cs,k1,k2⟩:=Option.bind_eq_some_iff.1 this
          exact ⟨cs,y,k1,k2⟩
        have hspot:a.spot=none:=by
          obtain ⟨cs,y,k1,k2⟩:=each 0 (by omega)
          obtain ⟨_,k3,k4⟩:=World.cells?_some k1
          have:=k4 0 (by omega)
          have h5:cs[0]?≠none:=by
            intro q
            have:=List.getElem?_eq_none_iff.1 q
            omega
          have ea:(a.add (0 * s.size)).add 0=a:=by simp [Addr.add]
          rw [ea] at this
          rw [← this] at h5
          unfold World.cell? at h5
          cases hsp:a.spot with
          | none=>rfl
          | some q =>
            exfalso
            apply h5
            rw [hsp]
            split <;> simp
        obtain ⟨ab,aoff,asp⟩:=a
        simp only at hspot
        subst hspot
        obtain ⟨r,xs,g1,g2,g3,g4,g5⟩:=rows_rep (w:=w) (s:=s) (b:=ab) (off:=aoff) (n:=len) (fun i hi=>by
          obtain ⟨cs,y,k1,k2⟩:=each i hi
          obtain ⟨_,k3,k4⟩:=World.cells?_some k1
          obtain ⟨x,q1,q2⟩:=ih.1 e n cs y h3 k2
          refine ⟨cs,x,k3,fun j hj=>?_,q1,q2⟩
          rw [← k4 j hj]
          congr 1
          unfold Addr.add
          by_cases c1:i * s.size=0
          · by_cases c2:j=0
            · simp [c1,c2]
            · simp [c1,c2]
          · by_cases c2:j=0
            · simp [c1,c2]
            · simp [c1,c2])
        subst g2
        exact ⟨xs,⟨rfl,some ⟨ab,aoff,none⟩,cap,rfl,hl,fun _=>⟨ab,aoff,r,rfl,g3,g4⟩⟩,by omega,g5⟩
  | pair a b iha ihb =>
    have fields:∀ (fs:List Field) (off n:Nat) (cs:List Value),deep P (.pair a b) (.inr fs)=true->fieldsOk P (.pair a b) off fs=true->cs.length=off+(S.pair a b).size ->
        (∀ f∈fs,∃ y,DataW.trod enc P w base spare held n f.type ((cs.drop f.offset).take (P.cellsOf f.type))=some y)->∃ x,Rep (memOf w) (.pair a b) .imm Hp.e (cs.drop off) x/\Wf (.pair a b) x:=by
      intro fs off n cs hd hf hl ht
      cases fs with
      | nil=>simp [fieldsOk] at hf
      | cons f fs =>
        simp only [deep,Bool.and_eq_true] at hd
        simp only [fieldsOk,Bool.and_eq_true] at hf
        obtain ⟨⟨⟨⟨f1,f2⟩,f3⟩,f4⟩,f5⟩:=hf
        have f1:=Nat.eq_of_beq_eq_true f1
        have hc:=cellsOf_info (okInfo_ok f2)
        simp only [S.size] at hl
        obtain ⟨y,hy⟩:=ht f (by simp)
        rw [hc,f1] at hy
        obtain ⟨x1,r1,w1⟩:=iha.1 f.type n _ y hd.1 hy
        obtain ⟨x2,r2,w2⟩:=ihb.2 fs (off+a.size) n cs hd.2 f5 (by omega) fun g hg=>ht g (by simp [hg])
        refine ⟨(x1,x2),⟨Hp.e,Hp.e,_,_,Sp.e_left _,?_,r1,r2⟩,w1,w2⟩
        rw [← List.drop_drop,List.take_append_drop]
    refine ⟨fun t fuel cs y hd h=>?_,fields⟩
    have hd':=hd
    simp only [deep,Bool.and_eq_true] at hd
    obtain ⟨h1,h2⟩:=hd
    obtain ⟨fs,hu⟩:∃ fs,P.underlying t=some (.struct fs):=by
      split at h2
      · rename_i fs hu;exact ⟨fs,hu⟩
      · cases h2
    have hf:=typeOk_fields h1 rfl hu
    rw [hu] at h2
    simp only at h2
    obtain ⟨xs,n,_,_,hl,hxs,hel⟩:=DataW.trod_struct hu h
    have hc:=cellsOf_info (typeOk_info h1)
    have hdf:deep P (.pair a b) (.inr fs.toList)=true:=by
      cases hfs:fs.toList with
      | nil=>rw [hfs] at h2;cases h2
      | cons f l=>rw [hfs] at h2;exact h2
    obtain ⟨x,r,wf⟩:=fields fs.toList 0 n cs hdf hf (by rw [hl,hc];simp) fun f hfm=>by
      obtain ⟨i,hi,e⟩:=List.getElem_of_mem hfm
      have hi':i < fs.size:=by simpa using hi
      have:=hel i f (by rw [← e];simp [hi'])
      exact ⟨xs[i]'(by omega),by rw [this];simp [hxs,hi']⟩
    exact ⟨x,by simpa using r,wf⟩
theorem open_arg {t:TypeId} {v:Value} {d:DataW H} {ps:List MemPlace} {s:S} {b0:Nat} (hd:deep P s (.inl t)=true) (hval:Value.okWide P w .any b0 t v) (h:DataW.Trod enc P w base spare held t v d ps) :
  ∃ c x,v=mkVal s c/\Rep (memOf w) s .imm Hp.e c x/\Wf s x:=by
 obtain ⟨fuel,h⟩:=h
 obtain ⟨x,r,wf⟩:=(trod_rep (H:=H) (enc:=enc) (P:=P) (w:=w) (base:=base) (spare:=spare) (held:=held) s).1 t fuel _ _ hd h
 refine ⟨_,x,?_,r,wf⟩
 cases s with
 | int k=>obtain ⟨n,rfl⟩:=WideShapes.okWide_int (typeOk_int hd) hval;rfl
 | bool=>obtain ⟨n,rfl⟩:=WideShapes.okWide_bool (typeOk_bool hd) hval;rfl
 | str=>obtain ⟨n,rfl⟩:=WideShapes.okWide_string (typeOk_str hd) hval;rfl
 | unit=>simp [deep] at hd
 | sl e s =>
  simp only [deep,Bool.and_eq_true] at hd
  obtain ⟨a,len,cap,rfl⟩:=WideShapes.okWide_slice (typeOk_sl hd.1.1).1 hval
  rfl
 | pair a b =>
  simp only [deep,Bool.and_eq_true] at hd
  obtain ⟨fs,hu⟩:∃ fs,P.underlying t=some (.struct fs):=by
   have h2:=hd.2
   split at h2
   ·rename_i fs hu;exact ⟨fs,hu⟩
   ·cases h2
  unfold Value.okWide at hval
  rw [hu] at hval
  obtain ⟨cs,rfl,_⟩:=hval
  simp [mkVal,S.isAgg,Value.cells]
end
end Go.AE
