/- The abstract evaluator of the program's own code, and its soundness: part 3. -/
import Derived.Test.YtpenpjbobpalcaaA2
import Derived.Laws.Append
import Derived.Lib.ConvBytes
namespace Go.AE
section
variable {P : Program} {tb : Hp} {C : Ctx tb} {Z : Sup} {st : St} {a : Act} {w w' : World} {g : Cfg} {o : Oper} {R : Type} {k : Eff → Option R} {y : R}
theorem run_store_eq {t : TypeId} {s : S} (ht : typeOk P t s = true) {x z : Operand} {b off : Nat} {c : List Value} (ho : o.op = .store t x z) (hx : a.eval x = .pointer (some ⟨b, off, none⟩))
    (hv : (a.eval z).cells = c.toArray) (hl : c.length = s.size) (h1 : ∀ v ∈ c, v.oneCell' = true)
    (h2 : ∀ j, j < c.length → (w.cell? ⟨b, off + j, none⟩).isSome = true ∧ w.frozen? ⟨b, off + j, none⟩ = false) :
    (execOp a.eval o).run P w = .ok .skip (setCells w b off c) := by
  simp only [execOp, ho, hx, Instr.storeAt, Instr.sureAddr]
  simp only [Sem.run_bind, Sem.run_pure, Result.andThen_ok]
  rw [run_storeVar ht hv hl h1 h2]
  rfl
theorem op_store (hg : tableOk P g.ty = true) (hd : a.defers = []) (Rl : Rel Z st a.tmps w) (F : Fr C Z w) {t : TypeId} {x z : Operand} (ho : o.op = .store t x z)
    (h : opSem g st o k = some y) : Ok P C Z st o a w k y := by
  simp only [opSem, ho] at h
  split at h
  · cases h
  · rename_i s hs
    have ht := tableOk_at hg hs
    have hr := eval_rel Rl none x
    split at h
    · rename_i r p hx
      rw [hx] at hr
      split at h
      · rename_i s' hsh
        split at h
        · rename_i e _
          subst e
          obtain ⟨ob, s2, b, off, hob, hres, hv⟩ := hr
          have e2 : s2 = s' := by
            have := res_shape _ _ _ hres
            unfold St.shp at hsh
            rw [hob] at hsh
            have hsh : shapeAt ob.s p = some s' := hsh
            rw [this] at hsh; injection hsh
          subst e2
          obtain ⟨e, hk, c, h1, h2, h3, h4, h5⟩ := storeK_ok (P := P) (C := C) hd Rl F (d := o.dst) ⟨ob, hob, hres⟩ (eval_rel Rl (some s2) z) h
          exact ⟨e, hk, fun K Q hK => wp_skp (run_store_eq ht ho hv h1 h2 h3 h4) (hK _ _ h5)⟩
        · cases h
      · cases h
    · cases h
theorem inv_mod (hd : a.defers = []) (Rl : Rel Z st a.tmps w) (F : Fr C Z w) {d : Option Tmp} {e : Eff} {v : Value} {r : Nat} {ob' : Ob} {cons : List Nat} {Hw m' H : Hp} {t' : Top} {pv' : Option (Nat × Nat × Value)} {rs' : Hp}
    (M : Mod Hw w w') (hHw : ∀ b o, Hw b o ≠ none → Z.hs r b o ≠ none) (hr : r ∉ cons ∨ Hw = Hp.e)
    (hob : ∀ x, (st.apply d e).ob x = if x = r then some ob' else if x ∈ cons then none else st.ob x)
    (hm : Le Z.m m') (hm' : ∀ b o v, m' b o = some v → Z.m b o = some v ∨ uH Z.hs cons b o = some v)
    (hH : ∀ b o v, H b o = some v → hat w' b o = some v ∧ NF w' b)
    (hHd : ∀ b o, H b o ≠ none → Z.hs r b o ≠ none ∨ uH Z.hs cons b o ≠ none ∨ w.heap.size ≤ b) (hmH : Dj m' H)
    (hRel : RelOb (updSup Z r cons m' H t' pv' rs') r ob')
    (henv : ∀ x u, untouched e.kill x → RelAV Z st.ob x u → RelAV (updSup Z r cons m' H t' pv' rs') (st.apply d e).ob x u)
    (hv : RelSV (updSup Z r cons m' H t' pv' rs') (st.apply d e).ob e.av v) (hrs : ob'.pend = none → rs' = H) (hup : ∀ x, (∀ z ∈ e.upd, z.1 ≠ x) → x ≠ r ∧ x ∉ cons) (hpin : r < 50 → (ob'.mem = true ∨ ob'.fixed = true) → t' = Z.ptop r)
    (hpv : ∀ b off v z, pv' = some (b, off, v) → markOf v = some z → (∃ r', Z.pd r' = some (b, off, v)) ∨ MkAt C.w.heap.size w' b z) : InvK C Z st d e (a.put d v) w' := by
  have hW : ∀ b' o', Z.hs r b' o' = none → Hw b' o' = none := fun b' o' e => by
    cases e1 : Hw b' o' with
    | none => rfl
    | some v => exact absurd e (hHw b' o' (by rw [e1]; simp))
  have uHr : ∀ b' o' v, uH Z.hs cons b' o' = some v → Hw b' o' = none := by
    intro b' o' v e
    rcases hr with hr | hr
    rotate_left
    · rw [hr]; rfl
    refine hW _ _ ?_
    obtain ⟨r', hr', e⟩ := uH_some e
    rcases Rl.dj r' r (fun q => hr (q ▸ hr')) b' o' with z | z
    · rw [e] at z; cases z
    · exact z
  have mr : ∀ b' o' v, Z.m b' o' = some v → Z.hs r b' o' = none := by
    intro b' o' v e
    rcases Rl.mdj r b' o' with q | q
    · rw [e] at q; cases q
    · exact q
  have keep : ∀ b' o' v, hat w b' o' = some v → Hw b' o' = none → hat w' b' o' = some v := by
    intro b' o' v e1 e2
    rw [M.cell b' o' (cell_lt e1) e2]; exact e1
  have keepf : ∀ b' o' v, hat w b' o' = some v → NF w b' → NF w' b' := fun b' o' v e1 n => n.mod M (cell_lt e1)
  have uHcell : ∀ b' o' v, uH Z.hs cons b' o' = some v → hat w b' o' = some v ∧ NF w b' := by
    intro b' o' v e
    obtain ⟨r', _, e⟩ := uH_some e
    exact Rl.own r' _ _ _ e
  refine inv_obj (Z := Z) (d := d) (r := r) (ob' := ob') (gone := cons) (m' := m') (H := H) (t' := t') (pv' := pv') (rs' := rs') hd Rl hob hm ?_ hH ?_ hmH ?_ ?_ hRel henv hv ?_ hrs hup hpin
  · intro b' o' v e
    rcases hm' b' o' v e with z | z
    · exact keep b' o' v (Rl.imm _ _ _ z) (hW _ _ (mr _ _ _ z))
    · exact keep b' o' v (uHcell _ _ _ z).1 (uHr _ _ _ z)
  · intro x b' o' v hx hxc e
    obtain ⟨q1, q2⟩ := Rl.own x _ _ _ e
    have : Z.hs r b' o' = none := by
      rcases Rl.dj x r hx b' o' with z | z
      · rw [e] at z; cases z
      · exact z
    exact ⟨keep b' o' v q1 (hW _ _ this), keepf b' o' v q1 q2⟩
  · intro x hx hxc b' o'
    cases e : Z.hs x b' o' with
    | none => exact .inr rfl
    | some v =>
      left
      cases e1 : m' b' o' with
      | none => rfl
      | some u =>
        exfalso
        rcases hm' _ _ _ e1 with z | z
        · rcases Rl.mdj x b' o' with q | q
          · rw [z] at q; cases q
          · rw [e] at q; cases q
        · obtain ⟨r', hr', z⟩ := uH_some z
          rcases Rl.dj x r' (fun q => hxc (q ▸ hr')) b' o' with q | q
          · rw [e] at q; cases q
          · rw [z] at q; cases q
  · intro x hx hxc b' o'
    cases e : Z.hs x b' o' with
    | none => exact .inr rfl
    | some v =>
      left
      cases e1 : H b' o' with
      | none => rfl
      | some u =>
        exfalso
        rcases hHd b' o' (by rw [e1]; simp) with z | z | z
        · rcases Rl.dj x r hx b' o' with q | q
          · rw [e] at q; cases q
          · exact z q
        · cases e2 : uH Z.hs cons b' o' with
          | none => exact z e2
          | some u' =>
            obtain ⟨r', hr', e3⟩ := uH_some e2
            rcases Rl.dj x r' (fun q => hxc (q ▸ hr')) b' o' with q | q
            · rw [e] at q; cases q
            · rw [e3] at q; cases q
        · have := cell_lt (Rl.own x _ _ _ e).1
          omega
  · refine F.mod M ?_ hm rfl ?_ ?_ (upd_pd hpv)
    · intro b' o' e
      exact F.hs r _ _ (hHw _ _ e)
    · intro x b' o' e
      simp only [updSup] at e
      split at e
      · rcases hHd b' o' e with z | z | z
        · exact F.hs r _ _ z
        · cases e2 : uH Z.hs cons b' o' with
          | none => exact absurd e2 z
          | some u' =>
            obtain ⟨r', hr', e3⟩ := uH_some e2
            exact F.hs r' _ _ (by rw [e3]; simp)
        · right; exact Nat.le_trans F.size z
      · split at e
        · exact absurd rfl e
        · exact F.hs x b' o' e
    · intro b' o' e
      cases e1 : m' b' o' with
      | none => exact absurd e1 e
      | some u =>
        rcases hm' _ _ _ e1 with z | z
        · exact F.mf _ _ (by rw [z]; simp)
        · obtain ⟨r', hr', e3⟩ := uH_some z
          exact .inr (F.hs r' _ _ (by rw [e3]; simp))
theorem inv_head (hd : a.defers = []) (Rl : Rel Z st a.tmps w) (F : Fr C Z w) {d : Option Tmp} {r : Nat} {ob : Ob} {cons : List Nat} {Hw m' H : Hp} {c : List Value} {x' : den ob.s}
    (M : Mod Hw w w') (hHw : ∀ b o, Hw b o ≠ none → Z.hs r b o ≠ none) (hr : r ∉ cons) (hmem : ob.mem = false) (hfix : ob.fixed = false) (hp : ob.pend = none)
    (hm : Le Z.m m') (hm' : ∀ b o v, m' b o = some v → Z.m b o = some v ∨ uH Z.hs cons b o = some v)
    (hH : ∀ b o v, H b o = some v → hat w' b o = some v ∧ NF w' b)
    (hHd : ∀ b o, H b o ≠ none → Z.hs r b o ≠ none ∨ uH Z.hs cons b o ≠ none ∨ w.heap.size ≤ b) (hmH : Dj m' H)
    (rep : Rep m' ob.s ob.o H c x') :
    InvK C Z st d { av := .one (.ov r []), upd := goneU cons ++ [(r, some { ob with x := x' })], kill := goneK cons ++ [(r, .all)] } (a.put d (mkVal ob.s c)) w' := by
  have hob : ∀ x, (st.apply d { av := .one (.ov r []), upd := goneU cons ++ [(r, some { ob with x := x' })], kill := goneK cons ++ [(r, .all)] }).ob x = if x = r then some { ob with x := x' } else if x ∈ cons then none else st.ob x := fun x => stEff_ob x
  refine inv_mod (Z := Z) (cons := cons) (ob' := { ob with x := x' }) (m' := m') (H := H) (t' := .flt c) (pv' := none) (rs' := H) hd Rl F M hHw (.inl hr) hob hm hm' hH hHd hmH ?_ ?_ ?_ (fun _ => rfl) upd_ids (fun _ h2 => by rcases h2 with h2 | h2 <;> simp_all) (fun _ _ _ _ h _ => by cases h)
  · refine ⟨?_, ?_⟩
    · simp [updSup, hmem]
    · simp only [hp]
      show RepT m' ob.s ob.o (if r = r then H else _) (if r = r then .flt c else _) x'
      rw [if_pos rfl, if_pos rfl]; exact rep
  · intro z u hun hz
    refine rel_keep (Z := Z) (Z' := updSup Z r cons m' H (.flt c) none H) (bad := fun x => x = r ∨ x ∈ cons) hm ?_ ?_ ?_ ?_ ?_ ?_ hz
    · intro x hx; simp only [not_or] at hx; rw [hob]; simp [hx.1, hx.2]
    · intro x hx; simp only [not_or] at hx; simp [updSup, hx.1, hx.2]
    · intro x hx; simp only [not_or] at hx; simp [updSup, hx.1]
    · intro x hx; simp only [not_or] at hx; simp [updSup, hx.1]
    · intro x hx; simp only [not_or] at hx; simp [updSup, hx.1]
    · rintro x (hx | hx)
      · subst hx; exact hun (x, .all) (by simp)
      · exact hun (x, .all) (by simp [goneK_mem hx])
  · exact ⟨{ ob with x := x' }, ob.s, .flt c, c, by rw [hob, if_pos rfl], by simp [updSup, res_nil], rfl, rfl⟩
theorem op_assign (hg : tableOk P g.ty = true) (hd : a.defers = []) (Rl : Rel Z st a.tmps w) (F : Fr C Z w) {x : Operand} (ho : o.op = .assign x) (h : opSem g st o k = some y) : Ok P C Z st o a w k y := by
  simp only [opSem, ho] at h
  have hr := eval_rel Rl (look g.ty o.type) x
  have hrun : (execOp a.eval o).run P w = .ok (.value (a.eval x)) w := by simp [execOp, ho]
  unfold evalT at h
  split at h
  · rename_i hx
    rw [hx] at hr
    rcases Bool.eq_false_or_eq_true (isConstO x) with hb | hb
    · rw [hb] at h
      exact ok_value hd Rl F h hr hrun
    · rw [hb] at h
      cases h
  · rename_i e s hx
    rw [hx] at hr
    rcases Bool.eq_false_or_eq_true (memNat (o.dst.getD 0) g.flt) with hb | hb
    · rw [hb] at h
      refine ⟨_, h, fun K Q hK => wp_value hrun (hK _ _ ?_)⟩
      refine inv_new hd Rl F (Ext.refl w) (H := Hp.e) (Hn := Hp.e) (t := .flt (S.sl e s).zcells) (fun b o v e => by cases e) (Rep_zero _ _ _) (fun b o v e => by cases e) (.inr ⟨rfl, _, rfl, hr⟩)
    · rw [hb] at h
      exact ok_value hd Rl F h hr hrun
  · rename_i r p lo hi hx
    rw [hx] at hr
    split at h
    · rename_i ob hob
      split at h
      · rename_i o0 hmem hfix hp ho0
        have hat : atPlace st r [] (fun s _ x => (match (motive := (s : S) → den s → Option R) s, x with
            | .sl e s', xs => setK ob.s ob.x [] (.sl e s') (sub xs lo hi) fun x' => k { av := .one (.ov r []), upd := [(r, some { ob with x := x' })], kill := [(r, .all)] }
            | _, _ => none)) = some y := by
          unfold atPlace
          rw [hob]
          simp only []
          split
          · exact h
          · rename_i hh; exact (hh hp (by simp [ownP])).elim
        obtain ⟨ob2, s2, x2, t2, c2, h3, A⟩ := atPlace_eq Rl hat
        have eob := A.isOb
        rw [hob] at eob; injection eob with eob; subst eob
        split at h3
        · rename_i et s1 xs
          obtain ⟨ad, cap, ec, hcap, h4, h5, h6, h7⟩ := osub_at A hr
          obtain ⟨hR, rep, hle⟩ := A.rep
          have hsh := A.sh
          have hmk : maskAt ob.o [] = ob.o := by cases ob.o <;> rfl
          rw [hmk, ho0, ec] at rep
          obtain ⟨hR', hle', rep'⟩ := own_sub h4 h5 h6 hcap rep
          obtain ⟨s0, o1, x0, mem0, fix0, pend0⟩ := ob
          simp only [shapeAt, Option.some.injEq] at hsh hmem hp ho0
          subst hsh hmem hp ho0
          have hfix : fix0 = false := hfix
          subst hfix
          have h3 : k { av := .one (.ov r []), upd := [(r, some { s := .sl et s1, o := .own o0, x := sub xs lo hi, mem := false, fixed := false, pend := none })], kill := [(r, .all)] } = some y := by
            simp only [setK] at h3
            obtain ⟨e, h4⟩ := cast?_eq h3
            cases e
            exact h4
          refine ⟨_, h3, fun K Q hK => wp_value hrun (hK _ _ ?_)⟩
          have := inv_head (Z := Z) (d := o.dst) (r := r) (ob := { s := .sl et s1, o := .own o0, x := x0, mem := false, fixed := false, pend := none }) (cons := []) (Hw := Hp.e) (m' := Z.m) (H := hR') (x' := sub xs lo hi) hd Rl F (Mod.refl _ w) (fun b o e => absurd rfl e) (by simp) rfl rfl rfl (Le.refl _) (fun b o v e => .inl e) (fun b o v e => Rl.own r _ _ _ (hle _ _ _ (hle' _ _ _ e))) (fun b o e => by
            left
            cases e1 : hR' b o with
            | none => exact absurd e1 e
            | some v => rw [hle _ _ _ (hle' _ _ _ e1)]; simp) ((Rl.mdj r).le (Le.refl _) (hle'.trans hle)) rep'
          rw [h7]
          exact this
        · cases h3
      · cases h
    · cases h
  · rename_i hx1 hx2 hx3
    exact ok_value hd Rl F h hr hrun
end
end Go.AE
namespace Go.AE
theorem RepL_join {A : Type} {R : Hp → List Value → A → Prop} : ∀ {xs ys : List A} {h h1 h2 : Hp} {c1 c2 : List Value}, Sp h h1 h2 → RepL R h1 c1 xs → RepL R h2 c2 ys → RepL R h (c1 ++ c2) (xs ++ ys)
  | [], ys, h, h1, h2, c1, c2, sp, ⟨e1, e2⟩, r => by subst e1 e2; rw [sp.eq_right]; exact r
  | x :: xs, ys, h, h1, h2, c1, c2, sp, ⟨k1, k2, d1, d2, s, e, r, rl⟩, r2 => by
    obtain ⟨p1, p2⟩ := Sp.assoc (sp) s
    refine ⟨k1, Un k2 h2, d1, d2 ++ c2, p1, by rw [e, List.append_assoc], r, RepL_join p2 rl r2⟩
theorem RepL_clean {m : Hp} {s : S} {q : O} (hc : clean s q = true) : ∀ {xs : List (den s)} {h c}, RepL (Rep m s q) h c xs → h = Hp.e ∧ RepL (Rep m s .imm) Hp.e c xs
  | [], h, c, ⟨e1, e2⟩ => ⟨e1, rfl, e2⟩
  | x :: xs, h, c, ⟨k1, k2, d1, d2, s', e, r, rl⟩ => by
    obtain ⟨q1, q2⟩ := Rep_clean s q _ _ _ hc r
    obtain ⟨q3, q4⟩ := RepL_clean hc rl
    subst q1 q3
    exact ⟨by rw [s'.eq_left], Hp.e, Hp.e, d1, d2, Sp.e_left _, e, q2, q4⟩
section
variable {P : Program} {w : World}
theorem run_firstCells (sz n : Nat) (ad : Option Addr) (len cap : Nat) (c : List Value) (hl : c.length = n * sz)
    (h : c ≠ [] → ∃ b off, ad = some ⟨b, off, none⟩ ∧ ∀ (j : Nat) v, c[j]? = some v → w.cell? ⟨b, off + j, none⟩ = some v) (hn : ad = none → n = 0) :
    (Builtin.firstCells sz n (.slice ad len cap)).run P w = .ok c.toArray w := by
  cases ad with
  | none =>
    have : c = [] := List.eq_nil_of_length_eq_zero (by rw [hl, hn rfl]; simp)
    subst this
    exact run_firstCells_none w sz n len cap
  | some b =>
    refine run_firstCells_some w sz n b len cap c hl ?_
    intro j v e
    have hne : c ≠ [] := by intro q; subst q; cases e
    obtain ⟨b', off, q1, q2⟩ := h hne
    injection q1 with q1
    subst q1
    rw [addr_add]; exact q2 j v e
structure SrcRuns (P : Program) (w : World) (sz : Nat) (v : Value) (n : Nat) (c : List Value) : Prop where
  len : ∀ w', (Builtin.lenOf v).run P w' = .ok n w'
  cells : ∀ w' : World, (∀ b o u, w.cell? ⟨b, o, none⟩ = some u → w'.cell? ⟨b, o, none⟩ = some u) → (Builtin.firstCells sz n v).run P w' = .ok c.toArray w'
theorem zeroCells_eq {s : S} (n : Nat) : (Builtin.zeroCells (mkVal s s.zcells).cells n) = (zrow s.zcells n).toArray := by
  rw [mkVal_cells (Rep_zero Hp.e s .imm)]
  unfold Builtin.zeroCells
  rcases Nat.eq_zero_or_pos s.zcells.length with q | q
  · rw [zrow_zero_len q]; simp [q]
  · apply Array.ext'
    have := zrow_eq s.zcells q n
    simpa using this
theorem nextslicecap_bytes {need old bytes : Nat} (h : old < need) (h1 : need ≤ 68719476736) (h2 : bytes ≤ 2048) : ¬ (Builtin.nextslicecap need old * bytes > 2 ^ 48) := by
  have := growslice_fits (need := need) (old := old) (bytes := bytes) h (by
    calc need * bytes ≤ 68719476736 * 2048 := Nat.mul_le_mul h1 h2
      _ ≤ 140737488355328 := by decide)
  omega
theorem run_append_in {t u ty e : TypeId} {s : S} (ht : typeOk P t (.sl e s) = true) {U : TypeDesc} (hu : P.underlying u = some U) (hU : ∀ k, U ≠ .int k) {ad : Option Addr} {len cap n : Nat} {v : Value} {c : List Value}
    (hs : SrcRuns P w s.size v n c) (hf : len + n ≤ cap) :
    (Builtin.append_ #[t, u] ty #[.slice ad len cap, v]).run P w =
      (match ad with | some b => (storeCells (b.add (len * s.size)) c).run P w | none => .ok () w).andThen fun _ w' => .ok (.slice ad (len + n) cap) w' := by
  obtain ⟨hut, hi, _⟩ := typeOk_sl ht
  have hz : (match U with | .int _ => true | _ => false) = false := by
    cases U <;> first | rfl | exact absurd rfl (hU _)
  unfold Builtin.append_
  simp [run_underlying hut, run_underlying hu, hi.size, hs.len, hs.cells w (fun _ _ _ e => e), hf]
  cases ad <;> simp <;> first | rfl | (generalize (storeCells _ c).run P w = q; cases q <;> rfl)
theorem run_append_out {t u ty e : TypeId} {s : S} (ht : typeOk P t (.sl e s) = true) {U : TypeDesc} (hu : P.underlying u = some U) (hU : ∀ k, U ≠ .int k) {ad : Option Addr} {len cap n : Nat} {v : Value} {c olds : List Value}
    (hs : SrcRuns P w s.size v n c) (hf : ¬ len + n ≤ cap) (hfit : len + n ≤ 68719476736) (hold : (Builtin.firstCells s.size len (.slice ad len cap)).run P w.drew = .ok olds.toArray w.drew) :
    (Builtin.append_ #[t, u] ty #[.slice ad len cap, v]).run P w =
      .ok (.slice (some ⟨w.heap.size, 0, none⟩) (len + n) (grownCap w (len + n) cap e)) (w.drew.alloc (.cells (olds ++ c ++ zrow s.zcells (grownCap w (len + n) cap e - (len + n))).toArray e)) := by
  obtain ⟨hut, hi, _⟩ := typeOk_sl ht
  obtain ⟨i, hi1, hi2, hi3, hi4⟩ := hi.ex
  have hz : (match U with | .int _ => true | _ => false) = false := by
    cases U <;> first | rfl | exact absurd rfl (hU _)
  have h63' : ¬ (9223372036854775807 < ((len : Int) + (n : Int))) := by omega
  have h48' : ¬ (281474976710656 < Builtin.nextslicecap (len + n) cap * i.bytes) := by
    have := nextslicecap_bytes (need := len + n) (old := cap) (bytes := i.bytes) (by omega) hfit hi4
    omega
  have hnew := hs.cells w.drew (fun _ _ _ e => e)
  have hzc := zeroCells_eq (s := s) (grownCap w (len + n) cap e - (len + n))
  unfold Builtin.append_
  simp [run_underlying hut, run_underlying hu, hi.size, hs.len, hf, typeInfo, zeroValue, hi1, hi3, h63', h48', Question.forced, newRow, hold, hnew]
  refine ⟨rfl, ?_⟩
  have hzc' : Builtin.zeroCells (mkVal s s.zcells).cells ((Question.appendCap (len + n) cap e).cut (w.tape w.drawn (Question.appendCap (len + n) cap e)) - (len + n)) = (zrow s.zcells (grownCap w (len + n) cap e - (len + n))).toArray := hzc
  rw [hzc']
  simp
theorem grownCap_ge (w : World) (need old : Nat) (e : TypeId) : need ≤ grownCap w need old e := by
  unfold grownCap Question.cut
  exact Nat.le_add_right _ _
structure AppRuns (P : Program) (w : World) (t u e : TypeId) (s : S) (v : Value) (n : Nat) (c : List Value) : Prop where
  inn : ∀ {ty : TypeId} {ad : Option Addr} {len cap : Nat}, len + n ≤ cap → (Builtin.append_ #[t, u] ty #[.slice ad len cap, v]).run P w =
      (match ad with | some b => (storeCells (b.add (len * s.size)) c).run P w | none => .ok () w).andThen fun _ w' => .ok (.slice ad (len + n) cap) w'
  out : ∀ {ty : TypeId} {ad : Option Addr} {len cap : Nat} {olds : List Value}, ¬ len + n ≤ cap → len + n ≤ 68719476736 → (Builtin.firstCells s.size len (.slice ad len cap)).run P w.drew = .ok olds.toArray w.drew →
      (Builtin.append_ #[t, u] ty #[.slice ad len cap, v]).run P w =
      .ok (.slice (some ⟨w.heap.size, 0, none⟩) (len + n) (grownCap w (len + n) cap e)) (w.drew.alloc (.cells (olds ++ c ++ zrow s.zcells (grownCap w (len + n) cap e - (len + n))).toArray e))
theorem appRuns_src {t u e : TypeId} {s : S} (ht : typeOk P t (.sl e s) = true) {U : TypeDesc} (hu : P.underlying u = some U) (hU : ∀ k, U ≠ .int k) {n : Nat} {v : Value} {c : List Value}
    (hs : SrcRuns P w s.size v n c) : AppRuns P w t u e s v n c :=
  ⟨fun hf => run_append_in ht hu hU hs hf, fun hf hfit hold => run_append_out ht hu hU hs hf hfit hold⟩
theorem appRuns_zeros {t u e : TypeId} {s : S} (ht : typeOk P t (.sl e s) = true) {k q : IntKind} (hu : P.underlying u = some (.int k)) {n : Int} (h0 : 0 ≤ n) (h1 : n ≤ 68719476736) :
    AppRuns P w t u e s (.int q n) n.toNat (zrow s.zcells n.toNat) := by
  obtain ⟨hut, hi0, _⟩ := typeOk_sl ht
  obtain ⟨i, hi1, hi2, hi3, hi4⟩ := hi0.ex
  have hw : IntKind.i64.wrap n = n := wrap_small h0 h1
  have hneg : ¬ (n < 0) := by omega
  have hb : ¬ (281474976710656 < n * (i.bytes : Int)) := by
    have e : n * (i.bytes : Int) = ((n.toNat * i.bytes : Nat) : Int) := by rw [Int.natCast_mul]; congr 1; omega
    have : n.toNat * i.bytes ≤ 68719476736 * 2048 := Nat.mul_le_mul (by omega) hi4
    rw [e]; omega
  have e1 : (n < 0) = False := eq_false hneg
  have e2 : (281474976710656 < n * (i.bytes : Int)) = False := eq_false hb
  have z0 : n.toNat * s.size = 0 → zrow s.zcells n.toNat = [] := fun h => by
    have := zrow_len s.zcells n.toNat
    rw [zcells_len, h] at this
    exact List.eq_nil_of_length_eq_zero this
  have hzv : ∀ w' : World, (zeroValue e).run P w' = .ok (mkVal s s.zcells) w' := fun w' => hi0.zero
  have hze := zeroCells_eq (s := s) n.toNat
  constructor
  · intro ty ad len cap hf
    unfold Builtin.append_
    by_cases hn : n.toNat * s.size = 0
    · simp only [List.getElem?_toArray, List.getElem?_cons_zero, List.getElem?_cons_succ, Sem.run_bind, run_underlying hut, run_underlying hu, hi0.size, Result.andThen_ok, Sem.run_pure, asInt, asIntOf, hw, e1, if_false, typeInfo, hi1, z0 hn, if_true]
      simp [e2, hf, hn, hi1]
      cases ad <;> simp [storeCells]
    · simp only [List.getElem?_toArray, List.getElem?_cons_zero, List.getElem?_cons_succ, Sem.run_bind, run_underlying hut, run_underlying hu, hi0.size, Result.andThen_ok, Sem.run_pure, asInt, asIntOf, hw, e1, if_false, typeInfo, hi1, if_true]
      simp [e2, hf, hn, hi1, hzv, hze]
      cases ad <;> simp
      all_goals (generalize (storeCells _ _).run P w = q; cases q <;> rfl)
  · intro ty ad len cap olds hf hfit hold
    have h63' : ¬ (9223372036854775807 < ((len : Int) + (n.toNat : Int))) := by omega
    have h48' : ¬ (281474976710656 < Builtin.nextslicecap (len + n.toNat) cap * i.bytes) := by
      have := nextslicecap_bytes (need := len + n.toNat) (old := cap) (bytes := i.bytes) (by omega) hfit hi4
      omega
    have hzc := zeroCells_eq (s := s) (grownCap w (len + n.toNat) cap e - (len + n.toNat))
    have hzc' : Builtin.zeroCells (mkVal s s.zcells).cells ((Question.appendCap (len + n.toNat) cap e).cut (w.tape w.drawn (Question.appendCap (len + n.toNat) cap e)) - (len + n.toNat)) = (zrow s.zcells (grownCap w (len + n.toNat) cap e - (len + n.toNat))).toArray := hzc
    have e3 : (9223372036854775807 < ((len : Int) + (n.toNat : Int))) = False := eq_false h63'
    have e4 : (281474976710656 < Builtin.nextslicecap (len + n.toNat) cap * i.bytes) = False := eq_false h48'
    unfold Builtin.append_
    by_cases hn : n.toNat * s.size = 0
    · simp only [List.getElem?_toArray, List.getElem?_cons_zero, List.getElem?_cons_succ, Sem.run_bind, run_underlying hut, run_underlying hu, hi0.size, Result.andThen_ok, Sem.run_pure, asInt, asIntOf, hw, e1, if_false, typeInfo, hi1, z0 hn, if_true]
      simp [e2, hf, hn, hi1, e4, Question.forced, newRow, hold, hzv, hzc']
      rw [if_neg (by omega)]
      rfl
    · simp only [List.getElem?_toArray, List.getElem?_cons_zero, List.getElem?_cons_succ, Sem.run_bind, run_underlying hut, run_underlying hu, hi0.size, Result.andThen_ok, Sem.run_pure, asInt, asIntOf, hw, e1, if_false, typeInfo, hi1, if_true]
      simp [e2, hf, hn, hi1, e4, Question.forced, newRow, hold, hzv, hze, hzc']
      rw [if_neg (by omega)]
      rfl
end
end Go.AE
namespace Go.AE
section
variable {P : Program} {w : World}
def Held (w : World) (h : Hp) : Prop := ∀ b o u, h b o = some u → hat w b o = some u ∧ NF w b
theorem Held.ext {w w' : World} {h : Hp} (hh : Held w h) (E : Ext w w') : Held w' h := fun b o u e => by
  obtain ⟨q1, q2⟩ := hh b o u e
  have := cell_lt q1
  exact ⟨by rw [E.cell this]; exact q1, q2.ext E this⟩
def Appended (P : Program) (w : World) (t u ty : TypeId) (m : Hp) (e : TypeId) (s : S) (q : O) (ad : Option Addr) (len cap : Nat) (v : Value) (hR h1 : Hp) (zs : List (den s)) : Prop :=
  ∃ ad' cap' w' Hw hR', (Builtin.append_ #[t, u] ty #[.slice ad len cap, v]).run P w = .ok (.slice ad' zs.length cap') w' ∧ Mod Hw w w' ∧ (∀ b o, Hw b o ≠ none → hR b o ≠ none) ∧
    Rep m (.sl e s) (.own q) hR' [.slice ad' zs.length cap'] zs ∧ (∀ b o, hR' b o ≠ none → hR b o ≠ none ∨ h1 b o ≠ none ∨ w.heap.size ≤ b) ∧ Held w' hR' ∧
    ((ad' = ad ∧ cap' = cap) ∨ (cap' ≠ 0 ∧ ∃ g, ad' = some ⟨g, 0, none⟩ ∧ w'.shape? g = some (e, cap' * s.size) ∧ w.heap.size ≤ g))
theorem append_new {t u ty e : TypeId} {s : S} (ht : typeOk P t (.sl e s) = true) {m : Hp} {q : O} {ad : Option Addr} {cap : Nat} {v : Value} {hR h1 h2 : Hp} {xs ys : List (den s)} {r1 c : List Value}
    (rx : RepL (Rep m s q) h2 r1 xs) (rs : RepL (Rep m s q) h1 c ys) (dj : Dj h2 h1) (hle : Le h2 hR) (hc2 : Held w h2) (hc1 : Held w h1)
    (hs : AppRuns P w t u e s v ys.length c) (hfit : xs.length + ys.length ≤ 68719476736) (hold : (Builtin.firstCells s.size xs.length (.slice ad xs.length cap)).run P w.drew = .ok r1.toArray w.drew)
    (hf : ¬ xs.length + ys.length ≤ cap) : Appended P w t u ty m e s q ad xs.length cap v hR h1 (xs ++ ys) := by
  have hrun := hs.out (ty := ty) hf hfit hold
  have hG := grownCap_ge w (xs.length + ys.length) cap e
  generalize hGe : grownCap w (xs.length + ys.length) cap e = G at hrun hG
  have E : Ext w (w.drew.alloc (.cells (r1 ++ c ++ zrow s.zcells (G - (xs.length + ys.length))).toArray e)) := (Ext.drew w).trans (Ext.alloc _ _)
  have hl : (xs ++ ys).length = xs.length + ys.length := List.length_append
  have hblk : ∀ b o u, blk w.heap.size 0 (r1 ++ c ++ zrow s.zcells (G - (xs.length + ys.length))) b o = some u →
      hat (w.drew.alloc (.cells (r1 ++ c ++ zrow s.zcells (G - (xs.length + ys.length))).toArray e)) b o = some u ∧ NF (w.drew.alloc (.cells (r1 ++ c ++ zrow s.zcells (G - (xs.length + ys.length))).toArray e)) b ∧ w.heap.size ≤ b :=
    fun b o u e1 => alloc_cells w.drew _ e b o u e1
  have hbig : ∀ b o, blk w.heap.size 0 (r1 ++ c ++ zrow s.zcells (G - (xs.length + ys.length))) b o ≠ none → w.heap.size ≤ b := by
    intro b o h
    cases e1 : blk w.heap.size 0 (r1 ++ c ++ zrow s.zcells (G - (xs.length + ys.length))) b o with
    | none => exact absurd e1 h
    | some u => exact (hblk b o u e1).2.2
  have hun : ∀ b o u, Un h2 h1 b o = some u → hat w b o = some u ∧ NF w b := by
    intro b o u e1
    rcases (Un.sp dj).some e1 with z | z
    · exact hc2 _ _ _ z
    · exact hc1 _ _ _ z
  have dj2 : Dj (blk w.heap.size 0 (r1 ++ c ++ zrow s.zcells (G - (xs.length + ys.length)))) (Un h2 h1) := fun b o => by
    cases e1 : Un h2 h1 b o with
    | none => exact .inr rfl
    | some u =>
      left
      cases e2 : blk w.heap.size 0 (r1 ++ c ++ zrow s.zcells (G - (xs.length + ys.length))) b o with
      | none => rfl
      | some u' =>
        have := cell_lt (hun _ _ _ e1).1
        have := (hblk b o u' e2).2.2
        omega
  refine ⟨some ⟨w.heap.size, 0, none⟩, G, _, Hp.e, Un (blk w.heap.size 0 (r1 ++ c ++ zrow s.zcells (G - (xs.length + ys.length)))) (Un h2 h1), by rw [hl]; exact hrun, Mod.ext E, fun b o h => absurd rfl h, ?_, ?_, ?_, .inr ⟨by omega, w.heap.size, rfl, ?_, Nat.le_refl _⟩⟩
  rotate_right
  · have : (w.drew.alloc (.cells (r1 ++ c ++ zrow s.zcells (G - (xs.length + ys.length))).toArray e)).heap[w.heap.size]? = some (.cells (r1 ++ c ++ zrow s.zcells (G - (xs.length + ys.length))).toArray e (0, 0)) := by
      show (w.heap.push _)[w.heap.size]? = _
      simp
    unfold World.shape?
    rw [this]
    simp only [List.size_toArray]
    rw [List.length_append, List.length_append, zrow_len, zcells_len, RepL_len (Rep_len m s q) rx, RepL_len (Rep_len m s q) rs, ← Nat.add_mul, ← Nat.add_mul]
    congr 3; omega
  · refine .inr ⟨w.heap.size, 0, G, r1 ++ c, zrow s.zcells (G - (xs.length + ys.length)), Un h2 h1, rfl, by rw [hl]; exact hG, ?_, Un.sp dj2, RepL_join (Un.sp dj) rx rs⟩
    rw [List.length_append, List.length_append, zrow_len, zcells_len, RepL_len (Rep_len m s q) rx, RepL_len (Rep_len m s q) rs, ← Nat.add_mul, ← Nat.add_mul]
    congr 1; omega
  · intro b o h
    cases e1 : Un (blk w.heap.size 0 (r1 ++ c ++ zrow s.zcells (G - (xs.length + ys.length)))) (Un h2 h1) b o with
    | none => exact absurd e1 h
    | some u =>
      rcases (Un.sp dj2).some e1 with z | z
      · exact .inr (.inr (hbig b o (by rw [z]; simp)))
      · rcases (Un.sp dj).some z with z | z
        · exact .inl (by rw [hle _ _ _ z]; simp)
        · exact .inr (.inl (by rw [z]; simp))
  · intro b o u e1
    rcases (Un.sp dj2).some e1 with z | z
    · exact ⟨(hblk _ _ _ z).1, (hblk _ _ _ z).2.1⟩
    · obtain ⟨q1, q2⟩ := hun _ _ _ z
      have := cell_lt q1
      exact ⟨by rw [E.cell this]; exact q1, q2.ext E this⟩
theorem append_core {t u ty e : TypeId} {s : S} (ht : typeOk P t (.sl e s) = true) {m : Hp} {q : O} {ad : Option Addr} {cap : Nat} {v : Value} {hR h1 : Hp} {xs ys : List (den s)} {c : List Value}
    (rb : Rep m (.sl e s) (.own q) hR [.slice ad xs.length cap] xs) (rs : RepL (Rep m s q) h1 c ys) (dj : Dj hR h1) (hcR : Held w hR) (hc1 : Held w h1)
    (hs : AppRuns P w t u e s v ys.length c) (hfit : xs.length + ys.length ≤ 68719476736) : Appended P w t u ty m e s q ad xs.length cap v hR h1 (xs ++ ys) := by
  have hl : (xs ++ ys).length = xs.length + ys.length := List.length_append
  rcases rb with ⟨e1, e2, e3⟩ | ⟨b, off, cap', r1, r2, h2, e2, hcap, hlen, sp, rl⟩
  · subst e1
    simp only [List.length_nil, List.cons.injEq, Value.slice.injEq, and_true, true_and] at e2
    obtain ⟨q1, q2⟩ := e2
    subst q1 q2 e3
    by_cases hy : ys = []
    · subst hy
      obtain ⟨k1, k2⟩ := rs
      subst k1 k2
      have := hs.inn (ty := ty) (ad := none) (len := 0) (cap := 0) (by simp)
      exact ⟨none, 0, w, Hp.e, Hp.e, by simpa using this, Mod.refl _ _, fun b o h => absurd rfl h, .inl ⟨rfl, rfl, rfl⟩, fun b o h => absurd rfl h, (fun b o u h => by cases h), .inl ⟨rfl, rfl⟩⟩
    · refine append_new (h2 := Hp.e) (r1 := []) ht ⟨rfl, rfl⟩ rs (Dj.e _).symm (Le.refl _) hcR hc1 hs hfit (run_firstCells_none w.drew _ _ _ _) ?_
      have := List.length_pos_iff.2 hy
      simp only [List.length_nil]; omega
  · simp only [List.cons.injEq, Value.slice.injEq, and_true, true_and] at e2
    obtain ⟨q1, q2⟩ := e2
    subst q1 q2
    have hl1 := RepL_len (Rep_len m s q) rl
    have hlc := RepL_len (Rep_len m s q) rs
    have hrow : ∀ (j : Nat) u, (r1 ++ r2)[j]? = some u → w.cell? ⟨b, off + j, none⟩ = some u ∧ NF w b := by
      intro j u ej
      have hh := hcR _ _ _ (sp.left _ _ _ (blk_v ej))
      exact ⟨hat_v.1 hh.1, hh.2⟩
    by_cases hf : xs.length + ys.length ≤ cap
    · have hcl : xs.length * s.size + c.length ≤ (r1 ++ r2).length := by
        rw [hlen, hlc, ← Nat.add_mul]; exact Nat.mul_le_mul_right _ hf
      have hcell : ∀ j, j < c.length → (w.cell? ⟨b, off + xs.length * s.size + j, none⟩).isSome = true ∧ w.frozen? ⟨b, off + xs.length * s.size + j, none⟩ = false := by
        intro j hj
        have h3 : xs.length * s.size + j < (r1 ++ r2).length := by omega
        obtain ⟨z1, z2⟩ := hrow (xs.length * s.size + j) _ (List.getElem?_eq_getElem h3)
        rw [← Nat.add_assoc] at z1
        exact ⟨by rw [z1]; rfl, z2.at z1⟩
      have hone : ∀ v ∈ c, v.oneCell' = true := RepL_one (Rep_one m s q) rs
      have hrun := hs.inn (ty := ty) (ad := some ⟨b, off, none⟩) (len := xs.length) (cap := cap) hf
      simp only [addr_add] at hrun
      rw [run_storeCells c 0 w b (off + xs.length * s.size) hone (by simpa using hcell)] at hrun
      simp only [Result.andThen_ok, Nat.add_zero] at hrun
      have M : Mod (blk b (off + xs.length * s.size) c) w (setCells w b (off + xs.length * s.size) c) := Mod.setCells c w b _ fun j hj => by rw [blk_at, List.getElem?_eq_getElem hj]; simp
      -- the new row
      have hr2 : c.length ≤ r2.length := by rw [List.length_append, hl1] at hcl; omega
      have hnl : (r1 ++ c ++ r2.drop c.length).length = (r1 ++ r2).length := by simp only [List.length_append, List.length_drop]; omega
      have hdom : ∀ b' o', blk b off (r1 ++ c ++ r2.drop c.length) b' o' ≠ none → blk b off (r1 ++ r2) b' o' ≠ none := fun b' o' h => blk_dom hnl h
      have dj2 : Dj h2 h1 := dj.le sp.right (Le.refl _)
      have djb : Dj (blk b off (r1 ++ c ++ r2.drop c.length)) (Un h2 h1) := fun b' o' => by
        cases e1 : blk b off (r1 ++ c ++ r2.drop c.length) b' o' with
        | none => exact .inl rfl
        | some z =>
          right
          have hz := hdom b' o' (by rw [e1]; simp)
          cases e2 : blk b off (r1 ++ r2) b' o' with
          | none => exact absurd e2 hz
          | some z2 =>
            have k1 : h2 b' o' = none := by
              rcases sp.dj b' o' with q | q
              · rw [e2] at q; cases q
              · exact q
            have k2 : h1 b' o' = none := by
              rcases dj b' o' with q | q
              · rw [sp.left _ _ _ e2] at q; cases q
              · exact q
            simp [Un, k1, k2]
      have hW : ∀ b' o', blk b (off + xs.length * s.size) c b' o' ≠ none → blk b off (r1 ++ r2) b' o' ≠ none := by
        intro b' o' h
        cases e1 : blk b (off + xs.length * s.size) c b' o' with
        | none => exact absurd e1 h
        | some z =>
          obtain ⟨z1, z2, u, _, z3⟩ := blk_some e1
          subst z1
          have hj : o' - (off + xs.length * s.size) < c.length := by
            rcases Nat.lt_or_ge (o' - (off + xs.length * s.size)) c.length with q | q
            · exact q
            · rw [List.getElem?_eq_none q] at z3; cases z3
          have : o' = off + (o' - off) := by omega
          rw [this, blk_at, List.getElem?_eq_getElem (by omega)]; simp
      have keep : ∀ b' o' z, hat w b' o' = some z ∧ NF w b' → blk b (off + xs.length * s.size) c b' o' = none →
          hat (setCells w b (off + xs.length * s.size) c) b' o' = some z ∧ NF (setCells w b (off + xs.length * s.size) c) b' := by
        rintro b' o' z ⟨z1, z2⟩ h
        have := cell_lt z1
        exact ⟨by rw [M.cell _ _ this h]; exact z1, z2.mod M this⟩
      refine ⟨some ⟨b, off, none⟩, cap, _, blk b (off + xs.length * s.size) c, Un (blk b off (r1 ++ c ++ r2.drop c.length)) (Un h2 h1), by rw [hl]; exact hrun, M, ?_, ?_, ?_, ?_, .inl ⟨rfl, rfl⟩⟩
      · intro b' o' h
        have := hW b' o' h
        cases e1 : blk b off (r1 ++ r2) b' o' with
        | none => exact absurd e1 this
        | some z => rw [sp.left _ _ _ e1]; simp
      · refine .inr ⟨b, off, cap, r1 ++ c, r2.drop c.length, Un h2 h1, rfl, by rw [hl]; exact hf, ?_, Un.sp djb, RepL_join (Un.sp dj2) rl rs⟩
        rw [hnl]; exact hlen
      · intro b' o' h
        cases e1 : Un (blk b off (r1 ++ c ++ r2.drop c.length)) (Un h2 h1) b' o' with
        | none => exact absurd e1 h
        | some z =>
          rcases (Un.sp djb).some e1 with z1 | z1
          · left
            have := hdom b' o' (by rw [z1]; simp)
            cases e2 : blk b off (r1 ++ r2) b' o' with
            | none => exact absurd e2 this
            | some z2 => rw [sp.left _ _ _ e2]; simp
          · rcases (Un.sp dj2).some z1 with z1 | z1
            · exact .inl (by rw [sp.right _ _ _ z1]; simp)
            · exact .inr (.inl (by rw [z1]; simp))
      · intro b' o' z e1
        rcases (Un.sp djb).some e1 with z1 | z1
        · obtain ⟨y1, y2, z, hzv, y3⟩ := blk_some z1
          subst y1 hzv
          have eo : o' = off + (o' - off) := by omega
          have hj : o' - off < (r1 ++ c ++ r2.drop c.length).length := by
            rcases Nat.lt_or_ge (o' - off) (r1 ++ c ++ r2.drop c.length).length with q | q
            · exact q
            · rw [List.getElem?_eq_none q] at y3; cases y3
          generalize hjj : o' - off = j at *
          subst eo
          rcases Nat.lt_or_ge j r1.length with q1 | q1
          · rw [List.append_assoc, List.getElem?_append_left q1] at y3
            refine keep _ _ _ ((fun h => ⟨hat_v.2 h.1, h.2⟩) (hrow j z (by rw [List.getElem?_append_left q1]; exact y3))) ?_
            cases e3 : blk b' (off + xs.length * s.size) c b' (off + j) with
            | none => rfl
            | some z3 => obtain ⟨_, y4, _⟩ := blk_some e3; omega
          · rcases Nat.lt_or_ge j (r1.length + c.length) with q2 | q2
            · rw [List.append_assoc, List.getElem?_append_right q1, List.getElem?_append_left (by omega)] at y3
              have := setCells_cell c w b' (off + xs.length * s.size) (fun j hj => (hcell j hj).1) (j - r1.length) z y3
              have eq1 : off + xs.length * s.size + (j - r1.length) = off + j := by omega
              rw [eq1] at this
              refine ⟨hat_v.2 this, ?_⟩
              obtain ⟨z5, z6⟩ := hcR _ _ _ (sp.left _ _ _ (blk_v (b := b') (off := off) (List.getElem?_eq_getElem (l := r1 ++ r2) (i := j) (by rw [← hnl]; omega))))
              exact z6.mod M (cell_lt z5)
            · rw [List.getElem?_append_right (by simpa using q2), List.getElem?_drop] at y3
              refine keep _ _ _ ((fun h => ⟨hat_v.2 h.1, h.2⟩) (hrow j z ?_)) ?_
              · rw [List.getElem?_append_right q1, ← y3]; congr 1; simp only [List.length_append]; omega
              · cases e3 : blk b' (off + xs.length * s.size) c b' (off + j) with
                | none => rfl
                | some z3 =>
                  obtain ⟨_, y4, _, _, y5⟩ := blk_some e3
                  rw [List.getElem?_eq_none (by omega)] at y5; cases y5
        · have hz : hat w b' o' = some z ∧ NF w b' := by
            rcases (Un.sp dj2).some z1 with z1 | z1
            · exact hcR _ _ _ (sp.right _ _ _ z1)
            · exact hc1 _ _ _ z1
          refine keep _ _ _ hz ?_
          cases e3 : blk b (off + xs.length * s.size) c b' o' with
          | none => rfl
          | some z3 =>
            exfalso
            have := hW b' o' (by rw [e3]; simp)
            cases e4 : blk b off (r1 ++ r2) b' o' with
            | none => exact this e4
            | some z4 =>
              rcases (Un.sp dj2).some z1 with z1 | z1
              · rcases sp.dj b' o' with q | q
                · rw [e4] at q; cases q
                · rw [z1] at q; cases q
              · rcases dj b' o' with q | q
                · rw [sp.left _ _ _ e4] at q; cases q
                · rw [z1] at q; cases q
    · refine append_new (h2 := h2) (r1 := r1) ht rl rs (dj.le sp.right (Le.refl _)) sp.right (fun b o u e => hcR _ _ _ (sp.right _ _ _ e)) hc1 hs hfit ?_ hf
      refine run_firstCells _ _ _ _ _ _ hl1 (fun hne => ⟨b, off, rfl, fun j z ej => ?_⟩) (fun h => by cases h)
      have hj : j < r1.length := by
        rcases Nat.lt_or_ge j r1.length with q | q
        · exact q
        · rw [List.getElem?_eq_none q] at ej; cases ej
      exact (hrow j z (by rw [List.getElem?_append_left hj]; exact ej)).1
end
end Go.AE
namespace Go.AE
section
variable {P : Program} {tb : Hp} {C : Ctx tb} {Z : Sup} {st : St} {a : Act} {w w' : World} {g : Cfg} {o : Oper} {R : Type} {k : Eff → Option R} {y : R}
theorem RepL_strInts {m : Hp} {q : O} : ∀ (l : List UInt8), RepL (Rep m (.int .u8) q) Hp.e (l.map fun b => Value.int .u8 b.toNat) (l.map fun c => (c.toNat : Int))
  | [] => ⟨rfl, rfl⟩
  | x :: l => ⟨Hp.e, Hp.e, [.int .u8 x.toNat], _, Sp.e_left _, rfl, ⟨rfl, rfl⟩, RepL_strInts l⟩
theorem srcRuns_str (b : ByteArray) : SrcRuns P w (S.int .u8).size (.string b) (strInts b).length (b.data.toList.map fun b => Value.int .u8 b.toNat) := by
  have hl : (strInts b).length = b.size := by unfold strInts; rw [List.length_map]; rfl
  refine ⟨fun w' => by rw [hl]; simp [Builtin.lenOf], fun w' _ => ?_⟩
  rw [hl]
  have hx : b.data.extract 0 b.size = b.data := by
    have : b.size = b.data.size := rfl
    rw [this, Array.extract_size]
  simp [Builtin.firstCells, hx]
  apply Array.ext'
  rw [Array.toList_map]
theorem srcRuns_sl {Z : Sup} {s : S} {q : O} {ad : Option Addr} {xs : List (den s)} {cap : Nat} (hr : Reads Z w s q ad xs) :
    ∃ c hR, RepL (Rep Z.m s q) hR c xs ∧ SrcRuns P w s.size (.slice ad xs.length cap) xs.length c := by
  by_cases hne : xs = []
  · subst hne
    refine ⟨[], Hp.e, ⟨rfl, rfl⟩, fun w' => by simp [Builtin.lenOf], fun w' _ => ?_⟩
    exact run_firstCells _ _ _ _ _ _ (by simp) (fun h => absurd rfl h) (fun _ => rfl)
  · obtain ⟨b, off, r, hR, e, hc, rl⟩ := hr hne
    refine ⟨r, hR, rl, fun w' => by simp [Builtin.lenOf], fun w' hw => ?_⟩
    subst e
    exact run_firstCells _ _ _ _ _ _ (RepL_len (Rep_len _ _ _) rl) (fun _ => ⟨b, off, rfl, fun j v e => hw _ _ _ (hc j v e)⟩) (fun h => by cases h)
theorem srcK_eq (Rl : Rel Z st a.tmps w) {x : AV} {kk : (s : S) → O → List (den s) → List Nat → Option R} (h : srcK st x kk = some y) {v : Value} (hv : RelAV Z st.ob x v) :
    ∃ s q xs cons, kk s q xs cons = some y ∧ ∃ c hR, RepL (Rep Z.m s q) hR c xs ∧ Le hR (uH Z.hs cons) ∧ SrcRuns P w s.size v xs.length c := by
  have cl : ∀ {s : S} {q : O} {ad : Option Addr} {xs : List (den s)} {cap : Nat}, clean s q = true → Reads Z w s q ad xs → v = .slice ad xs.length cap → kk s .imm xs [] = some y →
      ∃ s q xs cons, kk s q xs cons = some y ∧ ∃ c hR, RepL (Rep Z.m s q) hR c xs ∧ Le hR (uH Z.hs cons) ∧ SrcRuns P w s.size v xs.length c := by
    intro s q ad xs cap hc hr hv hk
    obtain ⟨c, hR, rl, sr⟩ := srcRuns_sl (P := P) (cap := cap) hr
    obtain ⟨_, rl2⟩ := RepL_clean hc rl
    exact ⟨s, .imm, xs, [], hk, c, Hp.e, rl2, Le.e _, by rw [hv]; exact sr⟩
  unfold srcK at h
  split at h
  · rename_i e s xs
    obtain ⟨ad, cap, hv, hc, hr⟩ := pv_sl hv
    refine cl (clean_imm s) (fun hne => let ⟨b, off, r, e, cv, rl⟩ := hr hne; ⟨b, off, r, Hp.e, e, fun j v ej => hat_v.1 (Rl.imm _ _ _ (cv j v ej)), rl⟩) hv h
  · rename_i e s
    exact cl (clean_imm s) (fun h => absurd rfl h) hv h
  · rename_i b
    have hv := rel_str.1 hv
    subst hv
    exact ⟨_, _, _, _, h, _, Hp.e, RepL_strInts _, Le.e _, srcRuns_str b⟩
  · rename_i r p
    obtain ⟨ob, s', x', t', c, h2, A⟩ := atPlace_eq Rl h
    split at h2
    · rename_i e s xs
      obtain ⟨ad, cap, ec, hc, hr⟩ := A.reads Rl
      have hv := A.ov hv
      rw [ec] at hv
      have hv : v = .slice ad xs.length cap := hv
      rcases Bool.eq_false_or_eq_true (clean s (maskAt ob.o p).e) with hcl | hcl
      · rw [hcl] at h2
        exact cl hcl hr hv h2
      · rw [hcl] at h2
        simp only [cond_false] at h2
        split at h2
        · rename_i ob2 hob2
          split at h2
          · rename_i hmem hfix
            -- the whole object goes in
            have eob := A.isOb
            rw [hob2] at eob; injection eob with eob; subst eob
            obtain ⟨hR, rr, hle⟩ := A.rep
            cases hm : maskAt ob2.o [] with
            | own m =>
              rw [hm] at rr h2
              rcases rr with ⟨e1, e2, e3⟩ | ⟨b, off, cap', r1, r2, h2', e2, hcap, hl, sp, rl⟩
              · subst e1
                rw [ec] at e2
                simp only [List.length_nil, List.cons.injEq, Value.slice.injEq, and_true, true_and] at e2
                rw [hv, e2.1]
                exact ⟨s, _, [], [r], h2, [], Hp.e, ⟨rfl, rfl⟩, Le.e _, fun w' => by simp [Builtin.lenOf], fun w' _ => run_firstCells _ _ _ _ _ _ (by simp) (fun h => absurd rfl h) (fun _ => rfl)⟩
              · rw [ec] at e2
                simp only [List.cons.injEq, Value.slice.injEq, and_true, true_and] at e2
                obtain ⟨q1, q2⟩ := e2
                subst q1 q2
                have l2 : Le h2' (uH Z.hs [r]) := by
                  have : uH Z.hs [r] = Un (Z.hs r) Hp.e := rfl
                  rw [this]
                  exact (sp.right.trans hle).trans (Un.le_left _ _)
                refine ⟨s, _, xs, [r], h2, r1, h2', rl, l2, fun w' => by rw [hv]; simp [Builtin.lenOf], fun w' hw => ?_⟩
                rw [hv]
                refine run_firstCells _ _ _ _ _ _ (RepL_len (Rep_len _ _ _) rl) (fun _ => ⟨b, off, rfl, fun j z ej => hw _ _ _ ?_⟩) (fun h => by cases h)
                have hj : j < r1.length := by
                  rcases Nat.lt_or_ge j r1.length with q | q
                  · exact q
                  · rw [List.getElem?_eq_none q] at ej; cases ej
                exact hat_v.1 (Rl.own r _ _ _ (hle _ _ _ (sp.left _ _ _ (blk_v (by rw [List.getElem?_append_left hj]; exact ej))))).1
            | imm =>
              rw [hm] at hcl; rw [show (O.imm).e = O.imm from rfl, clean_imm] at hcl; cases hcl
            | pr q1 q2 =>
              rw [hm] at hcl; rw [show (O.pr q1 q2).e = O.imm from rfl, clean_imm] at hcl; cases hcl
          · cases h2
        · cases h2
    · cases h2
  · rename_i r p lo hi
    obtain ⟨ob, s', x', t', c, h2, A⟩ := atPlace_eq Rl h
    split at h2
    · rename_i e s xs
      obtain ⟨ad, cap, ec, hc, h4, h5, h6, h7⟩ := osub_at A hv
      obtain ⟨ad', cap', ec', hc', hr⟩ := A.reads Rl
      rw [ec] at ec'
      simp only [List.cons.injEq, Value.slice.injEq, and_true, true_and] at ec'
      obtain ⟨e1, e2⟩ := ec'
      subst e1 e2
      obtain ⟨hcl, h3⟩ := cond_some h2
      exact cl hcl (hr.part h4 h5 h6 hc) (by rw [sub_len h4 h5 h6]; exact h7) h3
    · cases h2
  · cases h
end
end Go.AE
namespace Go.AE
theorem O.meet_le : ∀ (a b : O), (a.meet b).le b = true
  | .own a, .own b => by simpa [O.meet, O.le] using O.meet_le a b
  | .pr a b, .pr c d => by simp [O.meet, O.le, O.meet_le a c, O.meet_le b d]
  | .imm, _ => by simp [O.meet, O.le]
  | .own _, .imm => by simp [O.meet, O.le]
  | .own _, .pr _ _ => by simp [O.meet, O.le]
  | .pr _ _, .imm => by simp [O.meet, O.le]
  | .pr _ _, .own _ => by simp [O.meet, O.le]
theorem res_mem : ∀ (p : Path) (h : Hp) (s : S) (t : Top) {s' t'}, (∃ b off, t = .mem b off) ∨ hasIx p = true → res h s t p = some (s', t') → ∃ b off, t' = .mem b off
  | [], h, s, t, s', t', hc, e => by
    rw [res_nil] at e; injection e with e; injection e with _ e
    rcases hc with hc | hc
    · rw [← e]; exact hc
    · simp [hasIx] at hc
  | .L :: p, h, s, t, s', t', hc, e => by
    cases s <;> simp only [res] at e <;> first | (cases e; done) | skip
    refine res_mem p h _ _ ?_ e
    rcases hc with ⟨b, off, hc⟩ | hc
    · subst hc; exact .inl ⟨b, off, rfl⟩
    · right; simpa [hasIx] using hc
  | .R :: p, h, s, t, s', t', hc, e => by
    cases s <;> simp only [res] at e <;> first | (cases e; done) | skip
    refine res_mem p h _ _ ?_ e
    rcases hc with ⟨b, off, hc⟩ | hc
    · subst hc; exact .inl ⟨b, _, rfl⟩
    · right; simpa [hasIx] using hc
  | .ix i :: p, h, s, t, s', t', hc, e => by
    cases s <;> simp only [res] at e <;> first | (cases e; done) | skip
    split at e
    · split at e
      · exact res_mem p h _ _ (.inl ⟨_, _, rfl⟩) e
      · cases e
    · cases e
section
variable {P : Program} {tb : Hp} {C : Ctx tb} {Z : Sup} {st : St} {a : Act} {w w' : World} {g : Cfg} {o : Oper} {R : Type} {k : Eff → Option R} {y : R}
theorem rel_pd {Z' : Sup} {ob ob' : Obs} {r : Nat} {bad : Nat → Prop} (hm : Le Z.m Z'.m) (hob : ∀ x, ¬ bad x → x ≠ r → ob' x = ob x) (hhs : ∀ x, ¬ bad x → x ≠ r → Z'.hs x = Z.hs x)
    (htop : ∀ x, ¬ bad x → Z'.tops x = Z.tops x) (hpd : ∀ x, ¬ bad x → x ≠ r → Z'.pd x = Z.pd x) (hrs : ∀ x, ¬ bad x → Z'.rs x = Z.rs x)
    {o o' : Ob} (ho : ob r = some o) (ho' : ob' r = some o') (hs : o'.s = o.s)
    {x : AV} {v : Value} (hbad : ∀ y, bad y → hit y .all x = false) (hr : hit r .pd x = false) (hv : RelAV Z ob x v) : RelAV Z' ob' x v := by
  have ptr : ∀ y p v, ¬ bad y → isPtr Z ob y p v → isPtr Z' ob' y p v := by
    intro y p v h1 ⟨q, s', b', off, e1, e2, e3⟩
    by_cases hy : y = r
    · subst hy
      rw [ho] at e1; injection e1 with e1; subst e1
      exact ⟨o', s', b', off, ho', by rw [hs, htop _ h1, hrs _ h1]; exact e2, e3⟩
    · exact ⟨q, s', b', off, by rw [hob y h1 hy]; exact e1, by rw [hrs y h1, htop y h1]; exact e2, e3⟩
  have rp : ∀ s (x : den s) v, isRp Z s x v → isRp Z' s x v := by
    intro s x v ⟨b, off, c, e1, e2, e3⟩
    exact ⟨b, off, c, e1, e2.mono hm, Rep_mono hm _ _ _ _ _ e3⟩
  cases x with
  | pv s x => obtain ⟨c, e, r⟩ := hv; exact ⟨c, e, Rep_mono hm _ _ _ _ _ r⟩
  | rp s x => exact rp s x v hv
  | z s => exact hv
  | dead => trivial
  | ptr y p =>
    have h1 : ¬ bad y := fun hb => (hit_all_false (hbad y hb) y).1 p rfl rfl
    exact ptr y p v h1 hv
  | ov y p =>
    have h1 : ¬ bad y := fun hb => (hit_all_false (hbad y hb) y).2.1 p rfl rfl
    have hy : y ≠ r := fun e => by subst e; simp [hit, hitOv] at hr
    obtain ⟨q, s', t, c, e1, e2, e3, e4⟩ := hv
    exact ⟨q, s', t, c, by rw [hob y h1 hy]; exact e1, by rw [hhs y h1 hy, htop y h1]; exact e2, by rw [hhs y h1 hy]; exact e3, e4⟩
  | bx y p =>
    have h1 : ¬ bad y := fun hb => (hit_all_false (hbad y hb) y).2.2.2.2 p rfl rfl
    have hy : y ≠ r := fun e => by subst e; simp [hit, hitOv] at hr
    obtain ⟨q, s', t, c, b0, f0, e1, e2, e3, e4, e5, e6⟩ := hv
    exact ⟨q, s', t, c, b0, f0, by rw [hob y h1 hy]; exact e1, by rw [hhs y h1 hy, htop y h1]; exact e2, by rw [hhs y h1 hy]; exact e3, e4, e5, e6.mono hm⟩
  | osub y p lo hi =>
    have h1 : ¬ bad y := fun hb => (hit_all_false (hbad y hb) y).2.2.1 p lo hi rfl rfl
    have hy : y ≠ r := fun e => by subst e; simp [hit] at hr
    obtain ⟨q, e, s', t, ad, len, cap, e1, e2, e3, e4⟩ := hv
    exact ⟨q, e, s', t, ad, len, cap, by rw [hob y h1 hy]; exact e1, by rw [hhs y h1 hy, htop y h1]; exact e2, by rw [hhs y h1 hy]; exact e3, e4⟩
  | app y p =>
    have h1 : ¬ bad y := fun hb => (hit_all_false (hbad y hb) y).2.2.2.1 p rfl rfl
    have hy : y ≠ r := fun e => by subst e; simp [hit] at hr
    obtain ⟨q, b', off, e1, e2, e3⟩ := hv
    exact ⟨q, b', off, by rw [hob y h1 hy]; exact e1, e2, by rw [hpd y h1 hy]; exact e3⟩
  | fn f caps =>
    obtain ⟨vs, e, al⟩ := hv
    refine ⟨vs, e, al.imp fun c hc v hcv => ?_⟩
    cases c with
    | cp y p =>
      have h1 : ¬ bad y := fun hb => by have := anyCap_false (hbad y hb) _ hc; simp [hitCap, hitPtr] at this
      exact ptr y p v h1 hcv
    | cr s x => exact rp s x v hcv
theorem app_dj (Rl : Rel Z st a.tmps w) {cons : List Nat} {hS hm h1 hR hR' : Hp} (sp : Sp hS hm h1) (hS' : Le hS (uH Z.hs cons)) (drc : Dj hR (uH Z.hs cons)) (dmR : Dj Z.m hR)
    (dom : ∀ b o, hR' b o ≠ none → hR b o ≠ none ∨ h1 b o ≠ none ∨ w.heap.size ≤ b) : Dj (Un Z.m hm) hR' := by
  have dmc : Dj Z.m (uH Z.hs cons) := (uH_dj fun r' _ => (Rl.mdj r').symm).symm
  have dmm : Dj Z.m hm := dmc.le (Le.refl _) (sp.left.trans hS')
  intro b o
  cases e : Un Z.m hm b o with
  | none => exact .inl rfl
  | some v =>
    right
    cases e2 : hR' b o with
    | none => rfl
    | some u =>
      exfalso
      rcases dom b o (by rw [e2]; simp) with q | q | q
      · cases e3 : hR b o with
        | none => exact q e3
        | some z =>
          rcases (Un.sp dmm).some e with z1 | z1
          · rcases dmR b o with z2 | z2
            · rw [z1] at z2; cases z2
            · rw [e3] at z2; cases z2
          · rcases drc b o with z2 | z2
            · rw [e3] at z2; cases z2
            · rw [hS' _ _ _ (sp.left _ _ _ z1)] at z2; cases z2
      · cases e3 : h1 b o with
        | none => exact q e3
        | some z =>
          rcases (Un.sp dmm).some e with z1 | z1
          · rcases dmc b o with z2 | z2
            · rw [z1] at z2; cases z2
            · rw [hS' _ _ _ (sp.right _ _ _ e3)] at z2; cases z2
          · rcases sp.dj b o with z2 | z2
            · rw [z1] at z2; cases z2
            · rw [e3] at z2; cases z2
      · have : b < w.heap.size := by
          rcases (Un.sp dmm).some e with z1 | z1
          · exact cell_lt (Rl.imm _ _ _ z1)
          · obtain ⟨r', _, z1⟩ := uH_some (hS' _ _ _ (sp.left _ _ _ z1))
            exact cell_lt (Rl.own r' _ _ _ z1).1
        omega
def pdEff (cons : List Nat) (r : Nat) (p : Path) (ob' : Ob) : Eff :=
  { av := .one (.app r p), upd := goneU cons ++ [(r, some ob')], kill := goneK cons ++ [(r, .pd)] }
theorem inv_pend (hd : a.defers = []) (Rl : Rel Z st a.tmps w) (F : Fr C Z w) {d : Option Tmp} {r : Nat} {p : Path} {ob : Ob} {e : TypeId} {s : S} {xs zs : List (den s)} {b off : Nat} {c0 : List Value} {hdr v' : Value}
    (A : At Z st r p ob (.sl e s) xs (.mem b off) c0) {hs0 hc h0 : Hp} (sp : Sp (Z.hs r) hs0 hc) (sp0 : Sp hs0 (blk b off [hdr]) h0) (back : Back Z.m ob.s ob.o hc (Z.tops r) ob.x p (.sl e s) (.mem b off))
    {cons : List Nat} {Hw hm hS h1 hR' : Hp} {mo o2 : O} (hr : r ∉ cons) (M : Mod Hw w w') (hHw : ∀ b o, Hw b o ≠ none → h0 b o ≠ none)
    (spS : Sp hS hm h1) (hS' : Le hS (uH Z.hs cons)) (held : Held w' hR') (dom : ∀ b o, hR' b o ≠ none → h0 b o ≠ none ∨ h1 b o ≠ none ∨ w.heap.size ≤ b)
    (rep : Rep (Un Z.m hm) (.sl e s) mo hR' [v'] zs) (hv' : (∃ ad len cap, v' = .slice ad len cap) ∧ markOf v' = none) (hnb : bltOf ob.s = none) (hset : setMask ob.o p mo = some o2)
    {kk : den ob.s → Option R} (hk : setK ob.s ob.x p (.sl e s) zs kk = some y) :
    ∃ x', kk x' = some y ∧ InvK C Z st d (pdEff cons r p { ob with x := x', o := o2, pend := some p }) (a.put d v') w' := by
  have h0r : Le h0 (Z.hs r) := sp0.right.trans sp.left
  have hhdr : Z.hs r b off = some (.v hdr) := sp.left _ _ _ (sp0.left _ _ _ (by have := blk_v (b := b) (off := off) (cs := [hdr]) (j := 0) rfl; rw [Nat.add_zero] at this; exact this))
  have drc : Dj (Z.hs r) (uH Z.hs cons) := (uH_dj fun r' hr' => Rl.dj r' r (fun q => hr (q ▸ hr'))).symm
  have h1c : Le h1 (uH Z.hs cons) := spS.right.trans hS'
  have mdj := app_dj Rl spS hS' (drc.le h0r (Le.refl _)) ((Rl.mdj r).le (Le.refl _) h0r) dom
  have dmm : Dj Z.m hm := (Dj.symm (uH_dj fun r' _ => (Rl.mdj r').symm)).le (Le.refl _) (spS.left.trans hS')
  have blkv : ∀ (z : Value) b' o' u, blk b off [z] b' o' = some u → b' = b ∧ o' = off ∧ u = .v z := by
    intro z b' o' u e1
    obtain ⟨q1, q2, u, hu, q3⟩ := blk_some e1
    subst hu
    have : o' - off = 0 := by
      rcases Nat.eq_zero_or_pos (o' - off) with q | q
      · exact q
      · rw [List.getElem?_eq_none (by simp; omega)] at q3; cases q3
    rw [this] at q3
    exact ⟨q1, by omega, by congr 1; simpa using q3.symm⟩
  -- outside h0, what is the object's is not in the new row
  have rnot : ∀ b' o', Z.hs r b' o' ≠ none → h0 b' o' = none → hR' b' o' = none := by
    intro b' o' e1 e2
    cases e3 : hR' b' o' with
    | none => rfl
    | some u =>
      exfalso
      rcases dom b' o' (by rw [e3]; simp) with q | q | q
      · exact q e2
      · cases e4 : h1 b' o' with
        | none => exact q e4
        | some z =>
          rcases drc b' o' with q2 | q2
          · exact e1 q2
          · rw [h1c _ _ _ e4] at q2; cases q2
      · cases e4 : Z.hs r b' o' with
        | none => exact e1 e4
        | some z => have := cell_lt (Rl.own r _ _ _ e4).1; omega
  have d1 : ∀ z, Dj (blk b off [z]) hR' := fun z b' o' => by
    cases e1 : blk b off [z] b' o' with
    | none => exact .inl rfl
    | some u =>
      right
      obtain ⟨q1, q2, q3⟩ := blkv z b' o' u e1
      subst q1 q2
      refine rnot _ _ (by rw [hhdr]; simp) ?_
      rcases sp0.dj b' o' with q | q
      · have := blk_at (b := b') (off := o') (cs := [hdr]) (j := 0); rw [Nat.add_zero] at this; rw [this] at q; cases q
      · exact q
  have d2 : ∀ z, Dj (Un (blk b off [z]) hR') hc := fun z b' o' => by
    cases e1 : hc b' o' with
    | none => exact .inr rfl
    | some u =>
      left
      have hrr := sp.right _ _ _ e1
      have e2 : hs0 b' o' = none := by
        rcases sp.dj b' o' with q | q
        · exact q
        · rw [e1] at q; cases q
      obtain ⟨e3, e4⟩ := sp0.none e2
      have e5 := rnot b' o' (by rw [hrr]; simp) e4
      have e6 : blk b off [z] b' o' = none := by
        cases e7 : blk b off [z] b' o' with
        | none => rfl
        | some u' =>
          obtain ⟨q1, q2, _⟩ := blkv z b' o' u' e7
          subst q1 q2
          have := blk_at (b := b') (off := o') (cs := [hdr]) (j := 0); rw [Nat.add_zero] at this; rw [this] at e3; cases e3
      simp [Un, e5, e6]
  obtain ⟨x', hk', rt'⟩ := back b off rfl (Un Z.m hm) (Un (blk b off [v']) hR') (Un (Un (blk b off [v']) hR') hc) mo o2 zs (Un.le_left _ _) hset (Un.sp (d2 v')) ⟨[v'], hR', Un.sp (d1 v'), rep⟩ kk y hk
  refine ⟨x', hk', ?_⟩
  generalize hH : Un (Un (blk b off [hdr]) hR') hc = H
  have hHs : ∀ b' o' u, H b' o' = some u → hR' b' o' = some u ∨ (Z.hs r b' o' = some u ∧ h0 b' o' = none) := by
    intro b' o' u e1
    rw [← hH] at e1
    rcases (Un.sp (d2 hdr)).some e1 with q | q
    · rcases (Un.sp (d1 hdr)).some q with q | q
      · obtain ⟨q1, q2, q3⟩ := blkv _ _ _ _ q
        subst q1 q2 q3
        refine .inr ⟨hhdr, ?_⟩
        rcases sp0.dj b' o' with q4 | q4
        · rw [q] at q4; cases q4
        · exact q4
      · exact .inl q
    · refine .inr ⟨sp.right _ _ _ q, ?_⟩
      have e2 : hs0 b' o' = none := by
        rcases sp.dj b' o' with q4 | q4
        · exact q4
        · rw [q] at q4; cases q4
      exact (sp0.none e2).2
  have hupd : updH H b off v' = Un (Un (blk b off [v']) hR') hc := by
    funext b' o'
    unfold updH
    split
    · rename_i q; obtain ⟨q1, q2⟩ := q; subst q1 q2
      have := blk_at (b := b') (off := o') (cs := [v']) (j := 0); rw [Nat.add_zero] at this
      simp [Un, this]
    · rename_i q
      rw [← hH]
      have : ∀ z, blk b off [z] b' o' = none := by
        intro z
        cases e7 : blk b off [z] b' o' with
        | none => rfl
        | some u' => obtain ⟨q1, q2, _⟩ := blkv z b' o' u' e7; exact absurd ⟨q1, q2⟩ q
      simp [Un, this]
  have hcell : ∀ b' o' u, Z.hs r b' o' = some u → h0 b' o' = none → hat w' b' o' = some u ∧ NF w' b' := by
    intro b' o' u e1 e2
    obtain ⟨q1, q2⟩ := Rl.own r _ _ _ e1
    have hl := cell_lt q1
    have hn : Hw b' o' = none := by
      cases e3 : Hw b' o' with
      | none => rfl
      | some z => exact absurd e2 (hHw b' o' (by rw [e3]; simp))
    exact ⟨by rw [M.cell _ _ hl hn]; exact q1, q2.mod M hl⟩
  have hob : ∀ x, (st.apply d (pdEff cons r p { ob with x := x', o := o2, pend := some p })).ob x = if x = r then some { ob with x := x', o := o2, pend := some p } else if x ∈ cons then none else st.ob x := fun x => stEff_ob x
  refine inv_mod (Z := Z) (cons := cons) (ob' := { ob with x := x', o := o2, pend := some p }) (m' := Un Z.m hm) (H := H) (t' := Z.tops r) (pv' := some (b, off, v')) (rs' := Z.rs r) hd Rl F M
    (fun b' o' h => by
      have := hHw b' o' h
      cases e1 : h0 b' o' with
      | none => exact absurd e1 this
      | some z => rw [h0r _ _ _ e1]; simp) (.inl hr) hob (Un.le_left _ _) ?_ ?_ ?_ ?_ ?_ ?_ ?_ (fun h => by cases h) upd_ids (fun h1 h2 => Rl.pin r ob A.isOb h1 h2) (fun b1 off1 v1 z h1 h2 => by
        simp only [Option.some.injEq, Prod.mk.injEq] at h1
        obtain ⟨_, _, q⟩ := h1
        subst q
        rw [hv'.2] at h2; cases h2)
  · intro b' o' u e1
    rcases (Un.sp dmm).some e1 with q | q
    · exact .inl q
    · exact .inr (hS' _ _ _ (spS.left _ _ _ q))
  · intro b' o' u e1
    rcases hHs b' o' u e1 with q | ⟨q1, q2⟩
    · exact held _ _ _ q
    · exact hcell _ _ _ q1 q2
  · intro b' o' e1
    cases e2 : H b' o' with
    | none => exact absurd e2 e1
    | some u =>
      rcases hHs b' o' u e2 with q | ⟨q1, q2⟩
      · rcases dom b' o' (by rw [q]; simp) with z | z | z
        · left
          cases e3 : h0 b' o' with
          | none => exact absurd e3 z
          | some u' => rw [h0r _ _ _ e3]; simp
        · right; left
          cases e3 : h1 b' o' with
          | none => exact absurd e3 z
          | some u' => rw [h1c _ _ _ e3]; simp
        · exact .inr (.inr z)
      · exact .inl (by rw [q1]; simp)
  · intro b' o'
    cases e2 : H b' o' with
    | none => exact .inr rfl
    | some u =>
      left
      rcases hHs b' o' u e2 with q | ⟨q1, q2⟩
      · rcases mdj b' o' with z | z
        · exact z
        · rw [q] at z; cases z
      · have z1 : Z.m b' o' = none := by
          rcases Rl.mdj r b' o' with z | z
          · exact z
          · rw [q1] at z; cases z
        have z2 : hm b' o' = none := by
          cases e3 : hm b' o' with
          | none => rfl
          | some u' =>
            rcases drc b' o' with z | z
            · rw [q1] at z; cases z
            · rw [hS' _ _ _ (spS.left _ _ _ e3)] at z; cases z
        simp [Un, z1, z2]
  · have hro := Rl.obs r ob A.isOb
    refine ⟨?_, ?_⟩
    · show ob.mem = true ↔ ∃ b off, (if r = r then Z.tops r else _) = _
      rw [if_pos rfl]; exact hro.1
    · refine ⟨b, off, v', e, s, by simp [updSup], ?_, ?_, ?_, hv'.1.imp fun _ h => h.imp fun _ h => h.imp fun _ h => ⟨h, fun t e2 q => by rw [hnb] at q; cases q⟩⟩
      · refine ⟨hdr, ?_⟩
        show (if r = r then H else _) b off = _
        rw [if_pos rfl, ← hH]
        have := blk_v (b := b) (off := off) (cs := [hdr]) (j := 0) rfl; rw [Nat.add_zero] at this
        simp [Un, this]
      · show RepT (Un Z.m hm) ob.s o2 (updH (if r = r then H else _) b off v') (if r = r then Z.tops r else _) x'
        rw [if_pos rfl, if_pos rfl, hupd]; exact rt'
      · show res (if r = r then Z.rs r else _) ob.s (if r = r then Z.tops r else _) p = _
        rw [if_pos rfl, if_pos rfl, A.rse]; exact A.res
  · intro z u hun hz
    refine rel_pd (Z := Z) (Z' := updSup Z r cons (Un Z.m hm) H (Z.tops r) (some (b, off, v')) (Z.rs r)) (r := r) (bad := fun x => x ∈ cons) (o := ob) (o' := { ob with x := x', o := o2, pend := some p }) (Un.le_left _ _) ?_ ?_ ?_ ?_ ?_ A.isOb ?_ rfl ?_ ?_ hz
    · intro x hx hxr; rw [hob]; simp [hx, hxr]
    · intro x hx hxr; simp [updSup, hx, hxr]
    · intro x hx; by_cases q : x = r
      · subst q; simp [updSup]
      · simp [updSup, q]
    · intro x hx hxr; simp [updSup, hxr]
    · intro x hx; by_cases q : x = r
      · subst q; simp [updSup]
      · simp [updSup, q]
    · rw [hob]; simp
    · intro x hx; exact hun (x, .all) (by simp [pdEff, goneK_mem hx])
    · exact hun (r, .pd) (by simp [pdEff])
  · exact ⟨{ ob with x := x', o := o2, pend := some p }, b, off, by rw [hob, if_pos rfl], rfl, by simp [updSup]⟩
end
end Go.AE
namespace Go.AE
section
variable {P : Program} {tb : Hp} {C : Ctx tb} {Z : Sup} {st : St} {a : Act} {w w' : World} {g : Cfg} {o : Oper} {R : Type} {k : Eff → Option R} {y : R}
theorem inv_made (hd : a.defers = []) (Rl : Rel Z st a.tmps w) (F : Fr C Z w) {d : Option Tmp} {s : S} {q : O} {x : den s} {cons : List Nat} {m' H : Hp} {c : List Value}
    (M : Mod Hp.e w w') (hm : Le Z.m m') (hm' : ∀ b o v, m' b o = some v → Z.m b o = some v ∨ uH Z.hs cons b o = some v) (held : Held w' H)
    (dom : ∀ b o, H b o ≠ none → uH Z.hs cons b o ≠ none ∨ w.heap.size ≤ b) (mdj : Dj m' H) (rep : Rep m' s q H c x) :
    InvK C Z st d (effNew d false s q x cons) (a.put d (mkVal s c)) w' := by
  have hob : ∀ z, (st.apply d (effNew d false s q x cons)).ob z = if z = newId (d.getD 0) then some { s, o := q, x, mem := false } else if z ∈ cons then none else st.ob z := fun z => stEff_ob z
  generalize hid : newId (d.getD 0) = id at hob
  have hav : (effNew d false s q x cons).av = .one (.ov id []) := by unfold effNew; rw [hid]; rfl
  have hkl : (effNew d false s q x cons).kill = goneK cons ++ [(id, .all)] := by unfold effNew; rw [hid]
  refine inv_mod (Z := Z) (cons := cons) (ob' := { s, o := q, x, mem := false }) (r := id) (m' := m') (H := H) (t' := .flt c) (pv' := none) (rs' := H) hd Rl F M (fun b o e => absurd rfl e) (.inr rfl) hob hm hm' held
    (fun b o e => .inr (dom b o e)) mdj ?_ ?_ ?_ (fun _ => rfl) (by rw [← hid]; exact upd_ids) (fun h1 => by rw [← hid] at h1; unfold newId at h1; omega) (fun _ _ _ _ h _ => by cases h)
  · refine ⟨?_, ?_⟩
    · simp [updSup]
    · show RepT m' s q (if id = id then H else _) (if id = id then .flt c else _) x
      rw [if_pos rfl, if_pos rfl]; exact rep
  · intro z u hun hz
    rw [hkl] at hun
    refine rel_keep (Z := Z) (Z' := updSup Z id cons m' H (.flt c) none H) (bad := fun x => x = id ∨ x ∈ cons) hm ?_ ?_ ?_ ?_ ?_ ?_ hz
    · intro x hx; simp only [not_or] at hx; rw [hob]; simp [hx.1, hx.2]
    · intro x hx; simp only [not_or] at hx; simp [updSup, hx.1, hx.2]
    · intro x hx; simp only [not_or] at hx; simp [updSup, hx.1]
    · intro x hx; simp only [not_or] at hx; simp [updSup, hx.1]
    · intro x hx; simp only [not_or] at hx; simp [updSup, hx.1]
    · rintro x (hx | hx)
      · subst hx; exact hun (x, .all) (by simp)
      · exact hun (x, .all) (by simp [goneK_mem hx])
  · rw [hav]
    exact ⟨_, s, .flt c, c, by rw [hob, if_pos rfl], by simp [updSup, res_nil], rfl, rfl⟩
def Yields (P : Program) {tb : Hp} (C : Ctx tb) (Z : Sup) (st : St) (a : Act) (w : World) (d : Option Tmp) (run : Sem Value) (k : Eff → Option R) (y : R) : Prop :=
  ∃ e, k e = some y ∧ ∃ v w', run.run P w = .ok v w' ∧ InvK C Z st d e (a.put d v) w'
theorem weakL {s : S} {q q' : O} {m hS : Hp} {c : List Value} {ys : List (den s)} (hle : q'.le q = true) (dj : Dj m hS) (rl : RepL (Rep m s q) hS c ys) :
    ∃ hm h1, Sp hS hm h1 ∧ RepL (Rep (Un m hm) s q') h1 c ys :=
  RepL_weaken (R := fun m => Rep m s q) (R' := fun m => Rep m s q') (fun _ _ _ _ _ hm => Rep_mono hm _ _ _ _ _) (fun m h c x d r => Rep_weaken s q' q m h c x hle d r) dj rl
theorem Held.own (Rl : Rel Z st a.tmps w) {r : Nat} {h : Hp} (hle : Le h (Z.hs r)) : Held w h := fun b o u e => Rl.own r _ _ _ (hle _ _ _ e)
theorem Held.uH (Rl : Rel Z st a.tmps w) {l : List Nat} {h : Hp} (hle : Le h (uH Z.hs l)) : Held w h := fun b o u e => by
  obtain ⟨r', _, e⟩ := uH_some (hle _ _ _ e)
  exact Rl.own r' _ _ _ e
theorem um_sub (Rl : Rel Z st a.tmps w) {cons : List Nat} {hS hm h1 : Hp} (sp : Sp hS hm h1) (hS' : Le hS (uH Z.hs cons)) : ∀ b o v, Un Z.m hm b o = some v → Z.m b o = some v ∨ AE.uH Z.hs cons b o = some v := by
  intro b o v e
  unfold Un at e
  cases e1 : Z.m b o with
  | some z => rw [e1] at e; exact .inl e
  | none => rw [e1] at e; exact .inr (hS' _ _ _ (sp.left _ _ _ e))
theorem notBlt_eq {s : S} (h : notBlt s = true) : bltOf s = none := by
  unfold notBlt at h
  split at h
  · cases h
  · assumption
theorem mark_own {m : Hp} {e : TypeId} {s : S} {q : O} {h : Hp} {v : Value} {xs : List (den s)} (r : Rep m (.sl e s) (.own q) h [v] xs) : markOf v = none := by
  rcases r with ⟨_, e2, _⟩ | ⟨b, off, cap, _, _, _, e2, _⟩
  · simp only [List.cons.injEq, and_true] at e2; subst e2; rfl
  · simp only [List.cons.injEq, and_true] at e2; subst e2; rfl
theorem appOn_ok (hd : a.defers = []) (Rl : Rel Z st a.tmps w) (F : Fr C Z w) {d : Option Tmp} {t u ty e e1 : TypeId} {s : S} (ht : typeOk P t (.sl e s) = true) 
    {r : Nat} {p : Path} {ob : Ob} {xs0 : List (den s)} {t0 : Top} {c0 : List Value} (A : At Z st r p ob (.sl e1 s) xs0 t0 c0) {mo q : O} (hmask : maskAt ob.o p = .own mo) {xs : List (den s)} {ad : Option Addr} {cap : Nat}
    (hview : ∀ hR, Rep Z.m (.sl e1 s) (.own mo) hR c0 xs0 → ∃ hB, Le hB hR ∧ Rep Z.m (.sl e1 s) (.own mo) hB [.slice ad xs.length cap] xs)
    {cons : List Nat} (hr : r ∉ cons) (hle : mo.le q = true) {ys : List (den s)} {c : List Value} {hS : Hp} {v2 : Value} (rl : RepL (Rep Z.m s q) hS c ys) (hS' : Le hS (uH Z.hs cons)) (sr : AppRuns P w t u e s v2 ys.length c)
    (hfit : xs.length + ys.length ≤ 68719476736) (h : appOn r p ob e1 s (pApp xs ys) cons k = some y) :
    Yields P C Z st a w d (Builtin.append_ #[t, u] ty #[.slice ad xs.length cap, v2]) k y := by
  have dmS : Dj Z.m hS := (Dj.symm (uH_dj fun r' _ => (Rl.mdj r').symm)).le (Le.refl _) hS'
  have drc : Dj (Z.hs r) (uH Z.hs cons) := (uH_dj fun r' hr' => Rl.dj r' r (fun q => hr (q ▸ hr'))).symm
  obtain ⟨hm, h1, spS, rl1⟩ := weakL hle dmS rl
  have h1c : Le h1 (uH Z.hs cons) := spS.right.trans hS'
  unfold appOn at h
  rcases Bool.eq_false_or_eq_true (ob.mem || hasIx p) with hb | hb
  · rw [hb] at h
    simp only [cond_true] at h
    obtain ⟨hnb, h⟩ := cond_some h
    split at h
    · rename_i o2 hset
      have htop : ∃ b off, t0 = .mem b off := by
        refine res_mem p (Z.hs r) _ _ ?_ A.res
        rcases Bool.or_eq_true_iff.1 hb with q | q
        · exact .inl ((Rl.obs r ob A.isOb).1.1 q)
        · exact .inr q
      obtain ⟨b, off, et⟩ := htop
      subst et
      obtain ⟨hs0, hc, sp, rt, back, stay, _⟩ := A.rept
      obtain ⟨c1, h0, sp0, rep0⟩ := id rt
      have ec1 : c1 = c0 := by
        refine cellsAt_uniq (h := Z.hs r) (t := .mem b off) (n := (S.sl e1 s).size) ⟨Rep_len _ _ _ _ _ _ rep0, fun j v e => sp.left _ _ _ (sp0.left _ _ _ ?_)⟩ A.cells
        exact blk_v e
      subst ec1
      have hl1 := Rep_len _ _ _ _ _ _ rep0
      have hc1 : ∃ hdr, c1 = [hdr] := by
        match c1, hl1 with
        | [v], _ => exact ⟨v, rfl⟩
      obtain ⟨hdr, ehdr⟩ := hc1
      subst ehdr
      rw [hmask] at rep0
      obtain ⟨hB, hBle, rb⟩ := hview h0 rep0
      have h0r : Le h0 (Z.hs r) := sp0.right.trans sp.left
      have rb2 : Rep (Un Z.m hm) (.sl e s) (.own mo) hB [.slice ad xs.length cap] xs := Rep_mono (Un.le_left _ _) (.sl e1 s) _ _ _ _ rb
      obtain ⟨ad', cap', w', Hw, hR', hrun, M, hHw, rep', dom, held, _⟩ := append_core (ty := ty) (v := v2) ht rb2 rl1 (drc.le (hBle.trans h0r) h1c) (Held.own Rl (hBle.trans h0r)) (Held.uH Rl h1c) sr hfit
      obtain ⟨x', hk, I⟩ := inv_pend (d := d) (v' := .slice ad' (xs ++ ys).length cap') (mo := .own mo) hd Rl F A sp sp0 back (cons := cons) (o2 := o2) hr M (fun b' o' h => by
          have := hHw b' o' h
          cases e1 : hB b' o' with
          | none => exact absurd e1 this
          | some z => rw [hBle _ _ _ e1]; simp) spS hS' held (fun b' o' h => by
          rcases dom b' o' h with z | z | z
          · left
            cases e1 : hB b' o' with
            | none => exact absurd e1 z
            | some z => rw [hBle _ _ _ e1]; simp
          · exact .inr (.inl z)
          · exact .inr (.inr z)) (zs := xs ++ ys) rep' ⟨⟨_, _, _, rfl⟩, mark_own rep'⟩ (notBlt_eq hnb) (by rw [← hmask]; exact hset) h
      exact ⟨_, hk, _, _, hrun, I⟩
    · cases h
  · rw [hb] at h
    simp only [cond_false] at h
    obtain ⟨hfix, h⟩ := cond_some' h
    split at h
    · have hmem : ob.mem = false := by
        cases hq : ob.mem with
        | false => rfl
        | true => rw [hq] at hb; cases hb
      obtain ⟨hR, rep, hle2⟩ := A.rep
      rw [hmask] at rep
      obtain ⟨hB, hBle, rb⟩ := hview hR rep
      have rb2 : Rep (Un Z.m hm) (.sl e s) (.own mo) hB [.slice ad xs.length cap] xs := Rep_mono (Un.le_left _ _) (.sl e1 s) _ _ _ _ rb
      have hBr := hBle.trans hle2
      obtain ⟨ad', cap', w', Hw, hR', hrun, M, hHw, rep', dom, held, _⟩ := append_core (ty := ty) (v := v2) ht rb2 rl1 (drc.le hBr h1c) (Held.own Rl hBr) (Held.uH Rl h1c) sr hfit
      have mdj := app_dj Rl spS hS' (drc.le hBr (Le.refl _)) ((Rl.mdj r).le (Le.refl _) hBr) dom
      have hsh := A.sh
      have hp := A.pend
      have hmk : maskAt ob.o [] = ob.o := by cases ob.o <;> rfl
      rw [hmk] at hmask
      clear hview A rep rb
      obtain ⟨s0, o1, x0, mem0, fix0, pend0⟩ := ob
      simp only [shapeAt, Option.some.injEq] at hsh hmem hp hmask
      subst hsh hmem hp hmask
      have hfix : fix0 = false := hfix
      subst hfix
      simp only [setK] at h
      obtain ⟨ee, h4⟩ := cast?_eq h
      cases ee
      refine ⟨_, h4, _, _, hrun, ?_⟩
      have := inv_head (Z := Z) (d := d) (r := r) (w' := w') (ob := { s := .sl e1 s, o := .own mo, x := x0, mem := false, fixed := false, pend := none }) (cons := cons) (Hw := Hw) (m' := Un Z.m hm) (H := hR') (x' := xs ++ ys) (c := [.slice ad' (xs ++ ys).length cap']) hd Rl F M (fun b' o' h => by
          have := hHw b' o' h
          cases e1 : hB b' o' with
          | none => exact absurd e1 this
          | some z => rw [hBr _ _ _ e1]; simp) hr rfl rfl rfl (Un.le_left _ _) (um_sub Rl spS hS') held (fun b' o' h => by
          rcases dom b' o' h with z | z | z
          · left
            cases e1 : hB b' o' with
            | none => exact absurd e1 z
            | some z => rw [hBr _ _ _ e1]; simp
          · right; left
            cases e1 : h1 b' o' with
            | none => exact absurd e1 z
            | some z => rw [h1c _ _ _ e1]; simp
          · exact .inr (.inr z)) mdj rep'
      exact this
    · cases h
end
end Go.AE
namespace Go.AE
section
variable {P : Program} {tb : Hp} {C : Ctx tb} {Z : Sup} {st : St} {a : Act} {w w' : World} {g : Cfg} {o : Oper} {R : Type} {k : Eff → Option R} {y : R}
theorem at_of_get (Rl : Rel Z st a.tmps w) {r : Nat} {p : Path} {ob : Ob} (hob : st.ob r = some ob) (hp : ob.pend = none) (ho : ownP ob.o p = true) {kk : (s : S) → den s → Option R} (h : getK ob.s ob.x p kk = some y) :
    ∃ s x t c, kk s x = some y ∧ At Z st r p ob s x t c := by
  have hat : atPlace st r p (fun s _ x => kk s x) = some y := by
    unfold atPlace
    rw [hob]
    simp only [hp, ho]
    exact h
  obtain ⟨ob2, s2, x2, t2, c2, h3, A⟩ := atPlace_eq Rl hat
  have eob := A.isOb
  rw [hob] at eob; injection eob with eob; subst eob
  exact ⟨s2, x2, t2, c2, h3, A⟩
theorem appendK_ok (hd : a.defers = []) (Rl : Rel Z st a.tmps w) (F : Fr C Z w) {d : Option Tmp} {t u ty e : TypeId} {s0 : S} (ht : typeOk P t (.sl e s0) = true) {U : TypeDesc} (hu : P.underlying u = some U) (hU : ∀ k, U ≠ .int k)
    {base src : AV} {v1 v2 : Value} (h1 : RelAV Z st.ob base v1) (h2 : RelAV Z st.ob src v2) (h : appendK g st d e s0 base src k = some y) : Yields P C Z st a w d (Builtin.append_ #[t, u] ty #[v1, v2]) k y := by
  unfold appendK at h
  obtain ⟨s, q, ys, cons, h3, c, hS, rl, hS', sr⟩ := srcK_eq (P := P) Rl h h2
  obtain ⟨es, h4⟩ := castL?_eq h3
  subst es
  clear h h3
  have ar := appRuns_src (u := u) ht hu hU sr
  simp only [] at h4
  split at h4
  · -- a nil slice
    obtain ⟨hf, h5⟩ := ifB_true h4
    have hf : ([] : List (den s)).length + ys.length ≤ 68719476736 := of_decide_eq_true hf
    have dmS : Dj Z.m hS := (Dj.symm (uH_dj fun r' _ => (Rl.mdj r').symm)).le (Le.refl _) hS'
    obtain ⟨hm, hh1, spS, rl1⟩ := weakL (O.meet_le (g.elmOf e) q) dmS rl
    have h1c : Le hh1 (uH Z.hs cons) := spS.right.trans hS'
    obtain ⟨ad', cap', w', Hw, hR', hrun, M, hHw, rep', dom, held, _⟩ := append_core (ty := ty) (v := v2) (w := w) (hR := Hp.e) (xs := []) (ad := none) (cap := 0) ht (.inl ⟨rfl, rfl, rfl⟩) rl1 (Dj.e _).symm (fun b o u e => by cases e) (Held.uH Rl h1c) ar hf
    have hw : Hw = Hp.e := funext fun b => funext fun o => by
      cases e1 : Hw b o with
      | none => rfl
      | some z => exact absurd rfl (hHw b o (by rw [e1]; simp))
    subst hw
    have hv : v1 = .slice none 0 0 := h1
    subst hv
    refine ⟨_, h5, _, _, hrun, ?_⟩
    have mdj := app_dj Rl spS hS' (Dj.e _).symm (Dj.e _) dom
    exact inv_made (s := .sl e s) (q := .own ((g.elmOf e).meet q)) (x := ys) (c := [.slice ad' ys.length cap']) hd Rl F M (Un.le_left _ _) (um_sub Rl spS hS') held (fun b o h => by
      rcases dom b o h with z | z | z
      · exact absurd rfl z
      · left
        cases e1 : hh1 b o with
        | none => exact absurd e1 z
        | some z => rw [h1c _ _ _ e1]; simp
      · exact .inr z) mdj rep'
  · rename_i r p
    split at h4
    · cases h4
    · rename_i ob hob
      split at h4
      · rename_i mo hp ho hmask
        obtain ⟨hc, h5⟩ := cond_some h4
        simp only [Bool.and_eq_true, Bool.not_eq_true'] at hc
        obtain ⟨hr, hle⟩ := hc
        have hr := memNat_false.1 hr
        obtain ⟨s1, x1, t1, c1, h6, A⟩ := at_of_get Rl hob hp ho h5
        split at h6
        · rename_i e1 s1 xs
          obtain ⟨ec, h7⟩ := castL?_eq h6
          subst ec
          obtain ⟨hf, h8⟩ := ifB_true h7
          have hf : xs.length + ys.length ≤ 68719476736 := of_decide_eq_true hf
          obtain ⟨ad, cap, ec, hcap, _⟩ := A.slice
          have hv := A.ov h1
          rw [ec] at hv
          have hv : v1 = .slice ad xs.length cap := hv
          subst hv ec
          exact appOn_ok hd Rl F ht A hmask (fun hR r => ⟨hR, Le.refl _, r⟩) hr hle rl hS' ar hf h8
        · cases h6
      · cases h4
  · rename_i r p lo hi
    split at h4
    · cases h4
    · rename_i ob hob
      split at h4
      · rename_i mo hp ho hmask
        obtain ⟨hc, h5⟩ := cond_some h4
        simp only [Bool.and_eq_true, Bool.not_eq_true'] at hc
        obtain ⟨hr, hle⟩ := hc
        have hr := memNat_false.1 hr
        obtain ⟨s1, x1, t1, c1, h6, A⟩ := at_of_get Rl hob hp ho h5
        split at h6
        · rename_i e1 s1 xs
          obtain ⟨ec, h7⟩ := castL?_eq h6
          subst ec
          obtain ⟨hf, h8⟩ := ifB_true h7
          have hf : (sub xs lo hi).length + ys.length ≤ 68719476736 := of_decide_eq_true hf
          obtain ⟨ad, cap, ec, hcap, g4, g5, g6, g7⟩ := osub_at A h1
          rw [← sub_len g4 g5 g6] at g7
          subst g7 ec
          exact appOn_ok hd Rl F ht A hmask (fun hR r => by
            obtain ⟨hB, h1, h2⟩ := own_sub g4 g5 g6 hcap r
            rw [← sub_len g4 g5 g6] at h2
            exact ⟨hB, h1, h2⟩) hr hle rl hS' ar hf h8
        · cases h6
      · cases h4
  · cases h4
theorem O.le_rfl : ∀ a : O, a.le a = true
  | .imm => rfl
  | .own a => O.le_rfl a
  | .pr a b => by simp only [O.le, O.le_rfl a, O.le_rfl b]; rfl
theorem appendZ_ok (hd : a.defers = []) (Rl : Rel Z st a.tmps w) (F : Fr C Z w) {d : Option Tmp} {t u ty e : TypeId} {s0 : S} (ht : typeOk P t (.sl e s0) = true) {kk q : IntKind} (hu : P.underlying u = some (.int kk))
    {base : AV} {n : Int} {v1 : Value} (h1 : RelAV Z st.ob base v1) (h : appendZ g st d e s0 base n k = some y) : Yields P C Z st a w d (Builtin.append_ #[t, u] ty #[v1, .int q n]) k y := by
  unfold appendZ at h
  obtain ⟨c1, h⟩ := ifB_true h
  obtain ⟨c2, h4⟩ := ifB_true h
  clear h
  have c1 : 0 ≤ n := of_decide_eq_true c1
  have c2 : n ≤ 68719476736 := of_decide_eq_true c2
  have zl : ∀ (s : S), (pRepl n s.zero).length = n.toNat := fun s => by simp [pRepl]
  have zr : ∀ (s : S) (o : O), RepL (Rep Z.m s o) Hp.e (zrow s.zcells n.toNat) (pRepl n s.zero) := fun s o => by
    rw [pRepl_eq]; exact RepL_zrow Z.m s _ (Rep_zero _ _ _) _
  have ar : AppRuns P w t u e s0 (.int q n) (pRepl n s0.zero).length (zrow s0.zcells n.toNat) := by
    rw [zl]; exact appRuns_zeros ht hu c1 c2
  split at h4
  · have hv : v1 = .slice none 0 0 := h1
    subst hv
    obtain ⟨ad', cap', w', Hw, hR', hrun, M, hHw, rep', dom, held, _⟩ := append_core (ty := ty) (w := w) (m := Z.m) (q := g.elmOf e) (hR := Hp.e) (h1 := Hp.e) (xs := []) (ad := none) (cap := 0) ht (.inl ⟨rfl, rfl, rfl⟩) (zr s0 _) (Dj.e _).symm (fun b o u e => by cases e) (fun b o u e => by cases e) ar (by rw [zl]; simp only [List.length_nil]; omega)
    have hw : Hw = Hp.e := funext fun b => funext fun o => by
      cases e1 : Hw b o with
      | none => rfl
      | some z => exact absurd rfl (hHw b o (by rw [e1]; simp))
    subst hw
    refine ⟨_, h4, _, _, hrun, ?_⟩
    have hb : ∀ b o, hR' b o ≠ none → w.heap.size ≤ b := fun b o h => by
      rcases dom b o h with z | z | z
      · exact absurd rfl z
      · exact absurd rfl z
      · exact z
    refine inv_made (s := .sl e s0) (q := .own (g.elmOf e)) (x := pRepl n s0.zero) (cons := []) (m' := Z.m) (c := [.slice ad' (pRepl n s0.zero).length cap']) hd Rl F M (Le.refl _) (fun b o v e => .inl e) held (fun b o h => .inr (hb b o h)) (fun b o => ?_) rep'
    cases hz : hR' b o with
    | none => exact .inr rfl
    | some z =>
      left
      have h3 := hb b o (by rw [hz]; simp)
      cases hm : Z.m b o with
      | none => rfl
      | some z2 => have := cell_lt (Rl.imm _ _ _ hm); omega
  · rename_i r p
    split at h4
    · cases h4
    · rename_i ob hob
      split at h4
      · rename_i mo hp ho hmask
        obtain ⟨s1, x1, t1, c1', h6, A⟩ := at_of_get Rl hob hp ho h4
        split at h6
        · rename_i e1 s1 xs
          split at h6
          · rename_i ec _
            subst ec
            obtain ⟨hf, h8⟩ := ifB_true h6
            have hf : xs.length + (pRepl n s0.zero).length ≤ 68719476736 := of_decide_eq_true hf
            obtain ⟨ad, cap, ec, hcap, _⟩ := A.slice
            have hv := A.ov h1
            rw [ec] at hv
            have hv : v1 = .slice ad xs.length cap := hv
            subst hv ec
            exact appOn_ok (cons := []) hd Rl F ht A hmask (fun hR r => ⟨hR, Le.refl _, r⟩) (by simp) (O.le_rfl _) (zr s0 _) (Le.e _) ar hf h8
          · cases h6
        · cases h6
      · cases h4
  · rename_i r p lo hi
    split at h4
    · cases h4
    · rename_i ob hob
      split at h4
      · rename_i mo hp ho hmask
        obtain ⟨s1, x1, t1, c1', h6, A⟩ := at_of_get Rl hob hp ho h4
        split at h6
        · rename_i e1 s1 xs
          split at h6
          · rename_i ec _
            subst ec
            obtain ⟨hf, h8⟩ := ifB_true h6
            have hf : (sub xs lo hi).length + (pRepl n s0.zero).length ≤ 68719476736 := of_decide_eq_true hf
            obtain ⟨ad, cap, ec, hcap, g4, g5, g6, g7⟩ := osub_at A h1
            rw [← sub_len g4 g5 g6] at g7
            subst g7 ec
            exact appOn_ok (cons := []) hd Rl F ht A hmask (fun hR r => by
              obtain ⟨hB, h1, h2⟩ := own_sub g4 g5 g6 hcap r
              rw [← sub_len g4 g5 g6] at h2
              exact ⟨hB, h1, h2⟩) (by simp) (O.le_rfl _) (zr s0 _) (Le.e _) ar hf h8
          · cases h6
        · cases h6
      · cases h4
  · cases h4
theorem evalArgs_rel (Rl : Rel Z st a.tmps w) : ∀ (ts : List TypeId) (xs : List Operand), All2 (RelAV Z st.ob) (evalArgs g st ts xs) (xs.map a.eval)
  | t :: ts, x :: xs => ⟨eval_rel Rl _ x, evalArgs_rel Rl ts xs⟩
  | [], x :: xs => ⟨eval_rel Rl _ x, evalArgs_rel Rl [] xs⟩
  | [], [] => trivial
  | _ :: _, [] => trivial
theorem yields_op {o : Oper} {run : Sem Value} (hrun : ∀ v w', run.run P w = .ok v w' → (execOp a.eval o).run P w = .ok (.value v) w') (h : Yields P C Z st a w o.dst run k y) : Ok P C Z st o a w k y := by
  obtain ⟨e, hk, v, w', h1, I⟩ := h
  exact ⟨e, hk, fun K Q hK => wp_value (hrun v w' h1) (hK _ _ I)⟩
theorem run_call_builtin {c : Call} {b : Builtin} (ho : o.op = .call c) (hc : c.callee = .builtin b) {run : Sem Value}
    (hb : ∀ cs, Go.builtin b c.argTypes o.type cs (c.args.map a.eval) = (do pure (.value (← run)))) {v : Value} {w' : World} (h : run.run P w = .ok v w') : (execOp a.eval o).run P w = .ok (.value v) w' := by
  simp only [execOp, ho, resolve, hc, invoke, Sem.run_bind, Sem.run_pure, Result.andThen_ok, hb, h]
theorem op_builtin (hg : tableOk P g.ty = true) (hd : a.defers = []) (Rl : Rel Z st a.tmps w) (F : Fr C Z w) {c : Call} {b : Builtin} (hnc : b ≠ .copy) (ho : o.op = .call c) (hc : c.callee = .builtin b)
    (h : builtinK g st o.dst b c.argTypes.toList (evalArgs g st c.argTypes.toList c.args.toList) k = some y) : Ok P C Z st o a w k y := by
  have hargs := evalArgs_rel (g := g) Rl c.argTypes.toList c.args.toList
  generalize hts : c.argTypes.toList = ts at *
  have hta : c.argTypes = ts.toArray := by rw [← hts]
  have hma : ∀ vs, c.args.toList.map a.eval = vs → c.args.map a.eval = vs.toArray := by
    intro vs e; apply Array.ext'; rw [Array.toList_map, e]
  generalize hev : evalArgs g st ts c.args.toList = as at *
  generalize hvs : c.args.toList.map a.eval = vs at *
  have hva := hma vs rfl
  unfold builtinK at h
  split at h
  · -- the length of a string
    rename_i s hh
    match vs, hargs with
    | [v], ⟨r1, _⟩ =>
      have r1 := rel_str.1 r1
      subst r1
      unfold headTy at hh
      split at hh
      · rename_i t ts'
        have ht := tableOk_at hg hh
        refine ok_value hd Rl F h (rel_int.2 rfl) (run_call_builtin (run := Builtin.len_ c.argTypes o.type (c.args.map a.eval)) ho hc (fun cs => rfl) ?_)
        rw [hta, hva]
        simp [Builtin.len_, run_underlying (typeOk_str ht), goInt, pSize]
      · cases hh
  · -- the capacity of nil
    rename_i e s e2 s2 hh
    match vs, hargs with
    | [v], ⟨r1, _⟩ =>
      have hv : v = .slice none 0 0 := r1
      subst hv
      unfold headTy at hh
      split at hh
      · rename_i t ts'
        have ht := tableOk_at hg hh
        refine ok_value hd Rl F h (rel_int.2 rfl) (run_call_builtin (run := Builtin.cap_ c.argTypes o.type (c.args.map a.eval)) ho hc (fun cs => rfl) ?_)
        rw [hta, hva]
        simp [Builtin.cap_, run_underlying (typeOk_sl ht).1, goInt]
      · cases hh
  · -- the length of a slice
    rename_i e s x hh
    match vs, hargs with
    | [v], ⟨r1, _⟩ =>
      obtain ⟨e2, s2, q, xs, hk, ad, cap, hv, _⟩ := slOf_eq Rl h r1
      subst hv
      unfold headTy at hh
      split at hh
      · rename_i t ts'
        have ht := tableOk_at hg hh
        refine ok_value hd Rl F hk (rel_int.2 rfl) (run_call_builtin (run := Builtin.len_ c.argTypes o.type (c.args.map a.eval)) ho hc (fun cs => rfl) ?_)
        rw [hta, hva]
        simp [Builtin.len_, run_underlying (typeOk_sl ht).1, goInt, pLen]
      · cases hh
  · -- append
    rename_i e s0 base src hh
    match vs, hargs with
    | [v1, v2], ⟨r1, r2, _⟩ =>
      have gen : ∀ t u, ts = [t, u] → look g.ty t = some (.sl e s0) → (∃ U, P.underlying u = some U ∧ ∀ k, U ≠ .int k) → appendK g st o.dst e s0 base src k = some y → Ok P C Z st o a w k y := by
        intro t u e1 e2 ⟨U, e3, e4⟩ e5
        refine yields_op (run := Builtin.append_ c.argTypes o.type (c.args.map a.eval)) (fun v w' hr => run_call_builtin ho hc (fun cs => rfl) hr) ?_
        rw [hta, hva, e1]
        exact appendK_ok hd Rl F (tableOk_at hg e2) e3 e4 r1 r2 e5
      unfold headTy at hh
      split at hh
      · rename_i t ts'
        split at h
        · rename_i e3 s3 hs
          unfold sndTy at hs
          split at hs
          · rename_i t2 u2 het
            cases het
            exact gen _ _ rfl hh ⟨_, (typeOk_sl (tableOk_at hg hs)).1, fun k => by simp⟩ h
          · cases hs
        · rename_i hs
          unfold sndTy at hs
          split at hs
          · rename_i t2 u2 het
            cases het
            exact gen _ _ rfl hh ⟨_, typeOk_str (tableOk_at hg hs), fun k => by simp⟩ h
          · cases hs
        · rename_i kq hs
          split at h
          · rename_i q2 n2
            unfold sndTy at hs
            split at hs
            · rename_i t2 u2 het
              cases het
              have r2 := rel_int.1 r2
              subst r2
              refine yields_op (run := Builtin.append_ c.argTypes o.type (c.args.map a.eval)) (fun v w' hr => run_call_builtin ho hc (fun cs => rfl) hr) ?_
              rw [hta, hva]
              exact appendZ_ok hd Rl F (tableOk_at hg hh) (typeOk_int (tableOk_at hg hs)) r1 h
            · cases hs
          · cases h
        · cases h
      · cases hh
  · exact absurd rfl hnc
  · rename_i q x q2 z
    match vs, hargs with
    | [v1, v2], ⟨r1, r2, _⟩ =>
      have r1 := rel_int.1 r1
      have r2 := rel_int.1 r2
      subst r1 r2
      refine ok_value hd Rl F h (rel_int.2 rfl) (run_call_builtin (run := Builtin.min_ c.argTypes o.type (c.args.map a.eval)) ho hc (fun cs => rfl) ?_)
      rw [hva]
      simp [Builtin.min_, Builtin.min2, pMin]
  · rename_i q x q2 z
    match vs, hargs with
    | [v1, v2], ⟨r1, r2, _⟩ =>
      have r1 := rel_int.1 r1
      have r2 := rel_int.1 r2
      subst r1 r2
      refine ok_value hd Rl F h (rel_int.2 rfl) (run_call_builtin (run := Builtin.max_ c.argTypes o.type (c.args.map a.eval)) ho hc (fun cs => rfl) ?_)
      rw [hva]
      simp [Builtin.max_, Builtin.max2, pMax]
  · cases h
end
end Go.AE
namespace Go.AE
structure BltIn (m : Hp) (w : World) (t e : TypeId) (bk : Nat) (p : Value) (ad : Option Addr) (cap : Nat) (xs : List Int) (hR : Hp) : Prop where
  lim : xs.length ≤ 68719476736
  c0 : w.cell? ⟨bk, 0, none⟩ = some p
  p : p = .pointer none ∨ p = .pointer (some ⟨bk, 0, none⟩)
  c1 : w.cell? ⟨bk, 1, none⟩ = some (.slice ad xs.length cap)
  shp : w.shape? bk = some (t, 2)
  nf : NF w bk
  rep : Rep m (.sl e (.int .u8)) (.own .imm) hR [.slice ad xs.length cap] xs
  held : Held w hR
  apart : ∀ o, hR bk o = none
  whole : (cap = 0 ∧ ad = none) ∨ (cap ≠ 0 ∧ ∃ g, ad = some ⟨g, 0, none⟩ ∧ w.shape? g = some (e, cap))
structure StrMod (w w' : World) (ad : Option Addr) : Prop where
  os : w'.os = w.os
  tape : w'.tape = w.tape
  output : w'.output = w.output
  size : w.heap.size ≤ w'.heap.size
  cell : ∀ b o, b < w.heap.size → hat w' b o = hat w b o
  shp : ∀ b, b < w.heap.size → w'.shape? b = w.shape? b
  block : ∀ b, b < w.heap.size → (∀ a, ad = some a → a.block ≠ b) → w'.heap[b]? = w.heap[b]?
def self (bk : Nat) : Value := .pointer (some ⟨bk, 0, none⟩)
def BltRun (P : Program) (f : FuncId) (t e : TypeId) : Nat → Prop
  | 0 => ∀ (m : Hp) (w : World) (bk : Nat) (p : Value) (ad : Option Addr) (cap : Nat) (xs : List Int) (hR : Hp) (s : ByteArray), BltIn m w t e bk p ad cap xs hR → xs.length + (strInts s).length ≤ 68719476736 →
      Calls P f #[self bk, .string s] w fun en w' => ∃ v ad' cap' hR', en = .returned v ∧ Mod (Un (blk bk 0 [undef, undef]) hR) w w' ∧ BltIn m w' t e bk (self bk) ad' cap' (xs ++ strInts s) hR' ∧
        (∀ b o, hR' b o ≠ none → hR b o ≠ none ∨ w.heap.size ≤ b) ∧ ((ad' = ad ∧ cap' = cap) ∨ (cap' ≠ 0 ∧ ∃ g, ad' = some ⟨g, 0, none⟩ ∧ w.heap.size ≤ g))
  | 1 => ∀ (m : Hp) (w : World) (bk : Nat) (p : Value) (ad : Option Addr) (cap : Nat) (xs : List Int) (hR : Hp), BltIn m w t e bk p ad cap xs hR →
      Calls P f #[self bk] w fun en w' => en = .returned (.int .i64 xs.length) ∧ w' = w
  | 2 => ∀ (m : Hp) (w : World) (bk : Nat) (p : Value) (ad : Option Addr) (cap : Nat) (xs : List Int) (hR : Hp), BltIn m w t e bk p ad cap xs hR →
      Calls P f #[self bk] w fun en w' => en = .returned (.string (bytesOf xs)) ∧ StrMod w w' ad
  | _ => False
def BltSpec (P : Program) (f : FuncId) (b : TypeId × TypeId × Nat) : Prop :=
  (∀ w, (zeroValue b.1).run P w = .ok (.agg #[.pointer none, .slice none 0 0]) w) ∧ BltRun P f b.1 b.2.1 b.2.2
theorem bltX_eq {ob : Ob} {t e : TypeId} {xs : List Int} (h : bltX ob = some (t, e, xs)) :
    ∃ x : den (bltS t e), ob = { s := bltS t e, o := bltO, x := x, mem := true, fixed := false, pend := some [.L] } ∧ x.2.1 = xs := by
  unfold bltX at h
  split at h
  · rename_i t' e' x
    simp only [Option.some.injEq, Prod.mk.injEq] at h
    obtain ⟨h1, h2, h3⟩ := h
    subst h1 h2
    exact ⟨x, rfl, h3⟩
  · cases h
theorem RepL_int {m h : Hp} {k : IntKind} {q : O} {c : List Value} : ∀ {xs : List Int}, RepL (Rep m (.int k) q) h c xs → h = Hp.e := by
  intro xs
  induction xs generalizing h c with
  | nil => exact fun r => r.1
  | cons x xs ih =>
    rintro ⟨h1, h2, c1, c2, s, e, r, rl⟩
    have e1 : h1 = Hp.e := r.1
    have e2 := ih rl
    subst e1 e2
    exact s.eq_right
theorem RepL_intsC {m : Hp} {k : IntKind} {q : O} : ∀ {xs : List Int} {h : Hp} {c : List Value}, RepL (Rep m (.int k) q) h c xs → c = xs.map (Value.int k ·)
  | [], h, c, r => r.2
  | x :: xs, h, c, ⟨h1, h2, c1, c2, s, e, r, rl⟩ => by
    have e1 : c1 = [Value.int k x] := r.2
    rw [e, e1, RepL_intsC rl]; rfl
theorem rep_bytes {m hR : Hp} {e : TypeId} {k : IntKind} {q : O} {ad : Option Addr} {n cap : Nat} {xs : List Int} (r : Rep m (.sl e (.int k)) (.own q) hR [.slice ad n cap] xs) :
    n = xs.length ∧ ((ad = none ∧ cap = 0 ∧ hR = Hp.e ∧ xs = []) ∨ ∃ b off l, ad = some ⟨b, off, none⟩ ∧ xs.length ≤ cap ∧ l.length = cap ∧ hR = blk b off l ∧ ∀ (j : Nat) x, xs[j]? = some x → l[j]? = some (Value.int k x)) := by
  rcases r with ⟨e1, e2, e3⟩ | ⟨b, off, cap', r1, r2, h2, e2, hcap, hlen, sp, rl⟩
  · simp only [List.cons.injEq, Value.slice.injEq, and_true] at e2
    obtain ⟨q1, q2, q3⟩ := e2
    subst e1
    exact ⟨q2, .inl ⟨q1, q3, e3, rfl⟩⟩
  · simp only [List.cons.injEq, Value.slice.injEq, and_true] at e2
    obtain ⟨q1, q2, q3⟩ := e2
    have := RepL_int rl
    have er := RepL_intsC rl
    subst this q3
    refine ⟨q2, .inr ⟨b, off, r1 ++ r2, q1, hcap, ?_, sp.eq_left, fun j x hj => ?_⟩⟩
    · rw [hlen]; simp [S.size]
    · have hj2 : r1[j]? = some (Value.int k x) := by rw [er, List.getElem?_map, hj]; rfl
      rw [List.getElem?_append_left]
      · exact hj2
      · rcases Nat.lt_or_ge j r1.length with q | q
        · exact q
        · rw [List.getElem?_eq_none q] at hj2; cases hj2
section
variable {P : Program} {t0 : TypeId} {tb : Hp} {C : Ctx tb} {Z : Sup} {st : St} {a : Act} {w w' : World} {g : Cfg} {o : Oper} {R : Type} {k : Eff → Option R} {y : R}
theorem blt_in (Rl : Rel Z st a.tmps w) (F : Fr C Z w) {r : Nat} {t e : TypeId} {x : den (bltS t e)} (hob : st.ob r = some { s := bltS t e, o := bltO, x := x, mem := true, fixed := false, pend := some [.L] }) :
    ∃ b p ad cap hR, Z.tops r = .mem b 0 ∧ BltIn Z.m w t e b p ad cap x.2.1 hR ∧ Le hR (Z.hs r) ∧ (∀ o, Z.hs r b o ≠ none → o < 2) ∧ Z.hs r b 0 ≠ none ∧ Z.hs r b 1 ≠ none ∧
      (∀ b' o', Z.hs r b' o' ≠ none → b' = b ∨ hR b' o' ≠ none) ∧ (cap = 0 ∨ ∀ q, ad = some q → C.w.heap.size ≤ q.block) ∧ (∃ et s', res (Z.rs r) (bltS t e) (.mem b 0) [.L] = some (.sl et s', .mem b 0)) := by
  have hro := Rl.obs r _ hob
  obtain ⟨hmem, b, off, v, et, s', e1, e2, e3, e4, ad', len', cap', e5, e6⟩ := hro
  obtain ⟨gb, cap, p, ad, n, k1, k2, k3, k4, k5, k6, klim, k7⟩ := e6 t e rfl
  subst k3
  rw [k2] at e3 e4
  obtain ⟨c, h2, sp, rp⟩ := e3
  obtain ⟨h1, h3, c1, c2, s1, ec, rp1, rp2⟩ := rp
  obtain ⟨h4, h5, c3, c4, s2, ec2, rp3, rp4⟩ := rp2
  have l1 : c1.length = 1 := Rep_len _ _ _ _ _ _ rp1
  have l3 : c3.length = 1 := Rep_len _ _ _ _ _ _ rp3
  have h1e : h1 = Hp.e := rp1.1
  have h5e : h5 = Hp.e := rp4.1
  have c4e : c4 = [] := rp4.2
  subst h1e h5e c4e
  have h3e : h3 = h4 := s2.eq_left
  have h2e : h2 = h3 := s1.eq_right
  subst h3e h2e
  match c1, l1, c3, l3 with
  | [v1], _, [v3], _ =>
  simp only [List.append_nil] at ec2
  subst ec2
  simp only [List.cons_append, List.nil_append] at ec
  subst ec
  have hb0 : blk b 0 [v1, v3] b 0 = some (.v v1) := by have := blk_at (b := b) (off := 0) (cs := [v1, v3]) (j := 0); simpa using this
  have hb1 : blk b 0 [v1, v3] b 1 = some (.v v3) := by have := blk_at (b := b) (off := 0) (cs := [v1, v3]) (j := 1); simpa using this
  have q1 := sp.left _ _ _ hb1
  simp only [updH, Nat.one_ne_zero, and_false, if_false] at q1
  rw [k6] at q1
  injection q1 with q1
  injection q1 with q1
  subst q1
  have rp3 : Rep Z.m (.sl e (.int .u8)) (.own .imm) h2 [.slice ad n cap] x.2.1 := rp3
  obtain ⟨hn, hcase⟩ := rep_bytes rp3
  subst hn
  have hp := F.blt r b 0 v _ e1 k1
  obtain ⟨hshape, hwhole⟩ := hp
  simp only at hshape hwhole
  have hle : ∀ b' o' u, h2 b' o' = some u → Z.hs r b' o' = some u := by
    intro b' o' u hu
    have := sp.right _ _ _ hu
    unfold updH at this
    split at this
    · rename_i q
      obtain ⟨q2, q3⟩ := q
      subst q2 q3
      rcases sp.dj b' 0 with z | z
      · rw [hb0] at z; cases z
      · rw [hu] at z; cases z
    · exact this
  have lt2 : ∀ o, Z.hs r b o ≠ none → o < 2 := by
    intro o ho
    cases e8 : Z.hs r b o with
    | none => exact absurd e8 ho
    | some u =>
      have hc := (Rl.own r b o u e8).1
      exact hat_shape hc hshape
  have hap : ∀ o, h2 b o = none := by
    intro o
    cases e8 : h2 b o with
    | none => rfl
    | some u =>
      exfalso
      have h9 := lt2 o (by rw [hle _ _ _ e8]; simp)
      rcases sp.dj b o with z | z
      · match o, h9 with
        | 0, _ => rw [hb0] at z; cases z
        | 1, _ => rw [hb1] at z; cases z
      · rw [e8] at z; cases z
  have i0 := Rl.own r _ _ _ k4
  refine ⟨b, p, ad, cap, h2, k2, ⟨klim, hat_v.1 i0.1, k5, hat_v.1 (Rl.own r _ _ _ k6).1, hshape, i0.2, rp3, fun b' o' u hu => Rl.own r _ _ _ (hle _ _ _ hu), hap, ?_⟩, hle, lt2, by rw [k4]; simp, by rw [k6]; simp, ?_, ?_, et, s', e4⟩
  · rcases k7 with k7 | ⟨k7, k8⟩
    · exact .inl k7
    · refine .inr ⟨k7, gb, k8, ?_⟩
      rcases hwhole with z | z
      · exact absurd z k7
      · exact z.1
  · intro b' o' hz
    by_cases hb : b' = b
    · exact .inl hb
    · right
      cases e8 : Z.hs r b' o' with
      | none => exact absurd e8 hz
      | some u =>
        have : updH (Z.hs r) b 0 v b' o' = some u := by unfold updH; rw [if_neg (fun q => hb q.1)]; exact e8
        rcases sp.some this with z | z
        · obtain ⟨z1, _⟩ := blk_some z
          exact absurd z1 hb
        · rw [z]; simp
  · rcases k7 with ⟨k7, _⟩ | ⟨k7, k8⟩
    · exact .inl k7
    · right
      intro q hq
      rw [k8] at hq
      injection hq with hq
      subst hq
      rcases hwhole with z | z
      · exact absurd z k7
      · exact z.2
def adBlk : Option Addr → Nat
  | some q => q.block
  | none => 0
def vmark (t e : TypeId) (ad : Option Addr) (cap : Nat) : Value := .slice (some ⟨t, adBlk ad, some cap⟩) 0 e
theorem blt_ob {r b : Nat} {t e : TypeId} {p : Value} {ad : Option Addr} {cap : Nat} {xs : List Int} {hR : Hp} (h1 : Z.tops r = .mem b 0) (h2 : Z.pd r = some (b, 0, vmark t e ad cap))
    (h3 : Z.hs r = Un (blk b 0 [p, .slice ad xs.length cap]) hR) (hp : p = .pointer none ∨ p = .pointer (some ⟨b, 0, none⟩)) (hap : ∀ o, hR b o = none)
    (rep : Rep Z.m (.sl e (.int .u8)) (.own .imm) hR [.slice ad xs.length cap] xs) (hlim : xs.length ≤ 68719476736) (whole : (cap = 0 ∧ ad = none) ∨ (cap ≠ 0 ∧ ∃ g, ad = some ⟨g, 0, none⟩)) : RelOb Z r (mkBlt t e xs) := by
  have b0 : ∀ z, blk b 0 [z, .slice ad xs.length cap] b 0 = some (.v z) := fun z => by have := blk_at (b := b) (off := 0) (cs := [z, .slice ad xs.length cap]) (j := 0); simpa using this
  have b1 : ∀ z, blk b 0 [z, .slice ad xs.length cap] b 1 = some (.v (.slice ad xs.length cap)) := fun z => by have := blk_at (b := b) (off := 0) (cs := [z, .slice ad xs.length cap]) (j := 1); simpa using this
  have k0 : Z.hs r b 0 = some (.v p) := by rw [h3]; simp [Un, b0]
  have k1 : Z.hs r b 1 = some (.v (.slice ad xs.length cap)) := by rw [h3]; simp [Un, b1]
  refine ⟨by simp [mkBlt, h1], b, 0, vmark t e ad cap, t, .unit, h2, by rw [k0]; simp, ?_, ?_, _, _, _, rfl, ?_⟩
  · have hu : updH (Z.hs r) b 0 (vmark t e ad cap) = Un (blk b 0 [vmark t e ad cap, .slice ad xs.length cap]) hR := by
      funext x o
      unfold updH
      by_cases hx : x = b ∧ o = 0
      · obtain ⟨e1, e2⟩ := hx
        subst e1 e2
        rw [if_pos ⟨rfl, rfl⟩]
        simp [Un, b0]
      · rw [if_neg hx, h3]
        unfold Un
        have : blk b 0 [p, .slice ad xs.length cap] x o = blk b 0 [vmark t e ad cap, .slice ad xs.length cap] x o := by
          unfold blk
          by_cases hb : x = b ∧ 0 ≤ o
          · rw [if_pos hb, if_pos hb]
            obtain ⟨hb, _⟩ := hb
            have : o ≠ 0 := fun q => hx ⟨hb, q⟩
            obtain ⟨j, rfl⟩ : ∃ j, o = j + 1 := ⟨o - 1, by omega⟩
            simp
          · rw [if_neg hb, if_neg hb]
        rw [this]
    rw [hu, h1]
    have dj : Dj (blk b 0 [vmark t e ad cap, .slice ad xs.length cap]) hR := fun x o => by
      by_cases hb : x = b
      · subst hb; exact .inr (hap o)
      · left; unfold blk; rw [if_neg (fun q => hb q.1)]
    refine ⟨[vmark t e ad cap, .slice ad xs.length cap], hR, Un.sp dj, Hp.e, hR, [vmark t e ad cap], [.slice ad xs.length cap], Sp.e_left _, rfl, ?_, hR, Hp.e, [.slice ad xs.length cap], [], Sp.e_right _, rfl, rep, rfl, rfl⟩
    exact ⟨rfl, _, e, rfl, Nat.zero_le _, fun hne => absurd rfl hne⟩
  · rw [h1]; rfl
  · intro t' e' q
    simp only [mkBlt, bltS, bltOf, Option.some.injEq, Prod.mk.injEq] at q
    obtain ⟨q1, q2⟩ := q
    subst q1 q2
    refine ⟨adBlk ad, cap, p, ad, xs.length, rfl, h1, rfl, k0, hp, k1, hlim, ?_⟩
    rcases whole with z | ⟨z1, g, z2⟩
    · exact .inl z
    · exact .inr ⟨z1, by rw [z2]; rfl⟩
theorem mk_at {n : Nat} {t e : TypeId} {b : Nat} {ad : Option Addr} {cap : Nat} (h1 : w.shape? b = some (t, 2)) (whole : (cap = 0 ∧ ad = none) ∨ (cap ≠ 0 ∧ ∃ g, ad = some ⟨g, 0, none⟩ ∧ w.shape? g = some (e, cap)))
    (hn : cap = 0 ∨ ∀ q, ad = some q → n ≤ q.block) : ∀ z, markOf (vmark t e ad cap) = some z → MkAt n w b z := by
  intro z hz
  simp only [vmark, markOf, Option.some.injEq] at hz
  subst hz
  refine ⟨h1, ?_⟩
  rcases whole with z | ⟨z1, g, z2, z3⟩
  · exact .inl z.1
  · right
    subst z2
    rcases hn with q | q
    · exact absurd q z1
    · exact ⟨z3, q _ rfl⟩
theorem op_allocB (hz : ∀ w, (zeroValue t0).run P w = .ok (.agg #[.pointer none, .slice none 0 0]) w) (hd : a.defers = []) (Rl : Rel Z st a.tmps w) (F : Fr C Z w) (ho : o.op = .alloc t0) {e : TypeId}
    (h : k { av := .one (.ptr (newId (o.dst.getD 0)) []), upd := [(newId (o.dst.getD 0), some (mkBlt t0 e []))], kill := [(newId (o.dst.getD 0), .all)] } = some y) : Ok P C Z st o a w k y := by
  refine ⟨_, h, fun K Q hk => wp_value (v := .pointer (some ⟨w.heap.size, 0, none⟩)) (w' := w.alloc (.cells [Value.pointer none, .slice none 0 0].toArray t0)) ?_ (hk _ _ ?_)⟩
  · simp [execOp, ho, Instr.alloc, hz, run_newVar, Value.cells]
  · have hA := alloc_cells w [Value.pointer none, .slice none 0 0] t0
    have hob : ∀ x, (st.apply o.dst { av := .one (.ptr (newId (o.dst.getD 0)) []), upd := [(newId (o.dst.getD 0), some (mkBlt t0 e []))], kill := [(newId (o.dst.getD 0), .all)] }).ob x = if x = newId (o.dst.getD 0) then some (mkBlt t0 e []) else if x ∈ ([] : List Nat) then none else st.ob x := fun x => stEff_ob (cons := []) x
    have hsh : (w.alloc (.cells [Value.pointer none, .slice none 0 0].toArray t0)).shape? w.heap.size = some (t0, 2) := by
      have : (w.alloc (.cells [Value.pointer none, .slice none 0 0].toArray t0)).heap[w.heap.size]? = some (.cells [Value.pointer none, .slice none 0 0].toArray t0 (0, 0)) := by
        show (w.heap.push _)[w.heap.size]? = _
        simp
      unfold World.shape?
      rw [this]; rfl
    generalize hid : newId (o.dst.getD 0) = id at hob ⊢
    have h50 : 50 ≤ id := by rw [← hid]; unfold newId; omega
    refine inv_mod (Z := Z) (cons := []) (ob' := mkBlt t0 e []) (r := id) (m' := Z.m) (H := blk w.heap.size 0 [.pointer none, .slice none 0 0]) (t' := .mem w.heap.size 0) (pv' := some (w.heap.size, 0, vmark t0 e none 0)) (rs' := Hp.e) hd Rl F
      (Mod.ext (Ext.alloc _ _)) (Hw := Hp.e) (fun b o e => absurd rfl e) (.inr rfl) hob (Le.refl _) (fun b o v e => .inl e) (fun b o v h1 => ⟨(hA b o v h1).1, (hA b o v h1).2.1⟩) ?_ ?_ ?_ ?_ ?_ (fun q => by cases q) (upd_ids (cons := [])) (fun h1 => by omega) ?_
    · intro b o' h1
      cases e1 : blk w.heap.size 0 [Value.pointer none, .slice none 0 0] b o' with
      | none => exact absurd e1 h1
      | some v => exact .inr (.inr (hA b o' v e1).2.2)
    · intro b o'
      cases e1 : blk w.heap.size 0 [Value.pointer none, .slice none 0 0] b o' with
      | none => exact .inr rfl
      | some v =>
        left
        have := (hA b o' v e1).2.2
        cases e2 : Z.m b o' with
        | none => rfl
        | some u => have := cell_lt (Rl.imm _ _ _ e2); omega
    · refine blt_ob (b := w.heap.size) (p := .pointer none) (ad := none) (cap := 0) (xs := []) (hR := Hp.e) (by simp [updSup]) (by simp [updSup]) ?_ (.inl rfl) (fun _ => rfl) (.inl ⟨rfl, rfl, rfl⟩) (by simp) (.inl ⟨rfl, rfl⟩)
      simp only [updSup, if_true]
      funext x o'; simp [Un, Hp.e]
    · intro z u hun hz
      refine rel_keep (Z := Z) (Z' := updSup Z id [] Z.m (blk w.heap.size 0 [.pointer none, .slice none 0 0]) (.mem w.heap.size 0) (some (w.heap.size, 0, vmark t0 e none 0)) Hp.e) (bad := fun x => x = id) (Le.refl _) ?_ ?_ ?_ ?_ ?_ ?_ hz
      · intro x hx; rw [hob]; simp [hx]
      · intro x hx; simp [updSup, hx]
      · intro x hx; simp [updSup, hx]
      · intro x hx; simp [updSup, hx]
      · intro x hx; simp [updSup, hx]
      · intro x hx; subst hx; exact hun (x, .all) (by simp)
    · exact ⟨_, bltS t0 e, w.heap.size, 0, by rw [hob, if_pos rfl], by simp [updSup, res_nil, mkBlt], rfl⟩
    · intro b off v z h1 h2
      simp only [Option.some.injEq, Prod.mk.injEq] at h1
      obtain ⟨q1, q2, q3⟩ := h1
      subst q1 q3
      exact .inr (mk_at hsh (.inl ⟨rfl, rfl⟩) (.inl rfl) z h2)
theorem blt_write (hd : a.defers = []) (Rl : Rel Z st a.tmps w) (F : Fr C Z w) {d : Option Tmp} {r : Nat} {t e : TypeId} {x : den (bltS t e)} (hob : st.ob r = some { s := bltS t e, o := bltO, x := x, mem := true, fixed := false, pend := some [.L] })
    {f : FuncId} (hs : BltRun P f t e 0) {s : ByteArray} (hfit : x.2.1.length + (strInts s).length ≤ 68719476736) {v0 : Value} (hv0 : isPtr Z st.ob r [] v0) :
    Calls P f #[v0, .string s] w fun en w' => ∃ v, en = .returned v ∧ InvK C Z st d { av := .one .dead, upd := [(r, some (mkBlt t e (pApp x.2.1 (strInts s))))], kill := [(r, .wr false)] } (a.put d v) w' := by
  obtain ⟨b, p, ad, cap, hR, htop, hin, hle, lt2, n0, n1, hcov, hfr, et, s', hres⟩ := blt_in Rl F hob
  have hv0e : v0 = self b := by
    obtain ⟨ob2, s2, b2, off2, z1, z2, z3⟩ := hv0
    rw [res_nil, htop] at z2
    simp only [Option.some.injEq, Prod.mk.injEq, Top.mem.injEq] at z2
    obtain ⟨_, q1, q2⟩ := z2
    subst q1 q2
    exact z3
  subst hv0e
  refine (hs Z.m w b p ad cap x.2.1 hR s hin hfit).mono ?_
  rintro en w' ⟨v, ad', cap', hR', rfl, M, I', dom, wh⟩
  refine ⟨v, rfl, ?_⟩
  have hHw : ∀ b' o, Un (blk b 0 [undef, undef]) hR b' o ≠ none → Z.hs r b' o ≠ none := by
    intro b' o h
    cases e1 : blk b 0 [undef, undef] b' o with
    | some u =>
      obtain ⟨q1, q2, u, hu, q3⟩ := blk_some e1
      subst q1 hu
      match o, q3 with
      | 0, _ => exact n0
      | 1, _ => exact n1
      | o + 2, q3 => simp at q3
    | none =>
      unfold Un at h
      rw [e1] at h
      cases e2 : hR b' o with
      | none => rw [e2] at h; exact absurd rfl h
      | some u => rw [hle _ _ _ e2]; simp
  have hob2 : ∀ z, (st.apply d { av := .one .dead, upd := [(r, some (mkBlt t e (x.2.1 ++ strInts s)))], kill := [(r, .wr false)] }).ob z = if z = r then some (mkBlt t e (x.2.1 ++ strInts s)) else if z ∈ ([] : List Nat) then none else st.ob z := fun z => stEff_ob (cons := []) z
  have hH : ∀ b' o v', Un (blk b 0 [self b, .slice ad' (x.2.1 ++ strInts s).length cap']) hR' b' o = some v' → hat w' b' o = some v' ∧ NF w' b' := by
    intro b' o v' h
    unfold Un at h
    cases e1 : blk b 0 [self b, .slice ad' (x.2.1 ++ strInts s).length cap'] b' o with
    | some u =>
      rw [e1] at h
      simp only [Option.some_or, Option.some.injEq] at h
      subst h
      obtain ⟨q1, q2, u, hu, q3⟩ := blk_some e1
      subst q1 hu
      match o, q3 with
      | 0, q3 => simp at q3; subst q3; exact ⟨hat_v.2 I'.c0, I'.nf⟩
      | 1, q3 => simp at q3; subst q3; exact ⟨hat_v.2 (by simpa using I'.c1), I'.nf⟩
      | o + 2, q3 => simp at q3
    | none =>
      rw [e1] at h
      exact I'.held _ _ _ (by simpa using h)
  have hHd : ∀ b' o, Un (blk b 0 [self b, .slice ad' (x.2.1 ++ strInts s).length cap']) hR' b' o ≠ none → Z.hs r b' o ≠ none ∨ w.heap.size ≤ b' := by
    intro b' o h
    cases e1 : blk b 0 [self b, .slice ad' (x.2.1 ++ strInts s).length cap'] b' o with
    | some u =>
      left
      refine hHw b' o ?_
      obtain ⟨q1, q2, u, hu, q3⟩ := blk_some e1
      subst q1 hu
      unfold Un
      match o, q3 with
      | 0, q3 => simp [blk]
      | 1, q3 => simp [blk]
      | o + 2, q3 => simp at q3
    | none =>
      unfold Un at h
      rw [e1] at h
      rcases dom b' o (by simpa using h) with z | z
      · left
        cases e2 : hR b' o with
        | none => exact absurd e2 z
        | some u => rw [hle _ _ _ e2]; simp
      · exact .inr z
  have hwh : (cap' = 0 ∧ ad' = none) ∨ (cap' ≠ 0 ∧ ∃ g, ad' = some ⟨g, 0, none⟩) := I'.whole.imp id fun ⟨z1, g, z2, _⟩ => ⟨z1, g, z2⟩
  show InvK C Z st d { av := .one .dead, upd := [(r, some (mkBlt t e (x.2.1 ++ strInts s)))], kill := [(r, .wr false)] } (a.put d v) w'
  refine inv_mod (Z := Z) (cons := []) (ob' := mkBlt t e (x.2.1 ++ strInts s)) (r := r) (m' := Z.m) (H := Un (blk b 0 [self b, .slice ad' (x.2.1 ++ strInts s).length cap']) hR') (t' := Z.tops r) (pv' := some (b, 0, vmark t e ad' cap')) (rs' := Z.rs r) hd Rl F M
    hHw (.inl (by simp)) hob2 (Le.refl _) (fun b o v e => .inl e) hH ?_ ?_ ?_ ?_ trivial (fun q => by cases q) (upd_ids (cons := [])) (fun h1 _ => Rl.pin r _ hob h1 (.inl rfl)) ?_
  · intro b' o h
    rcases hHd b' o h with z | z
    · exact .inl z
    · exact .inr (.inr z)
  · intro b' o
    cases e1 : Un (blk b 0 [self b, .slice ad' (x.2.1 ++ strInts s).length cap']) hR' b' o with
    | none => exact .inr rfl
    | some u =>
      left
      rcases hHd b' o (by rw [e1]; simp) with z | z
      · rcases Rl.mdj r b' o with q | q
        · exact q
        · exact absurd q z
      · cases e2 : Z.m b' o with
        | none => rfl
        | some u => have := cell_lt (Rl.imm _ _ _ e2); omega
  · refine blt_ob (b := b) (p := self b) (ad := ad') (cap := cap') (hR := hR') (by simp [updSup, htop]) (by simp [updSup]) (by simp [updSup]) (.inr rfl) I'.apart I'.rep I'.lim hwh
  · intro z u hun hz
    refine rel_wr (Z := Z) (Z' := updSup Z r [] Z.m (Un (blk b 0 [self b, .slice ad' (x.2.1 ++ strInts s).length cap']) hR') (Z.tops r) (some (b, 0, vmark t e ad' cap')) (Z.rs r)) (r := r) (b := false) (bad := fun _ => False) (o' := mkBlt t e (x.2.1 ++ strInts s)) (Le.refl _) ?_ ?_ ?_ ?_ ?_ hob (by rw [hob2, if_pos rfl]) rfl (by simp [updSup]) (fun q => by cases q) (fun q => q) (fun _ q => q.elim) (hun (r, .wr false) (by simp)) hz
    · intro y _ hy; rw [hob2, if_neg hy]; simp
    · intro y _ hy; simp [updSup, hy]
    · intro y _ hy; simp [updSup, hy]
    · intro y _ hy; simp [updSup, hy]
    · intro y _ hy; simp [updSup, hy]
  · intro b1 off1 v1 z h1 h2
    simp only [Option.some.injEq, Prod.mk.injEq] at h1
    obtain ⟨q1, q2, q3⟩ := h1
    subst q1 q3
    right
    refine mk_at I'.shp I'.whole ?_ z h2
    rcases wh with ⟨q1, q2⟩ | ⟨q1, g, q2, q3⟩
    · subst q1 q2; exact hfr
    · right
      intro q hq
      rw [q2] at hq
      injection hq with hq
      subst hq
      exact Nat.le_trans F.size q3
theorem blt_len (hd : a.defers = []) (Rl : Rel Z st a.tmps w) (F : Fr C Z w) {d : Option Tmp} {r : Nat} {t e : TypeId} {x : den (bltS t e)} (hob : st.ob r = some { s := bltS t e, o := bltO, x := x, mem := true, fixed := false, pend := some [.L] })
    {f : FuncId} (hs : BltRun P f t e 1) {v0 : Value} (hv0 : isPtr Z st.ob r [] v0) :
    Calls P f #[v0] w fun en w' => ∃ v, en = .returned v ∧ InvK C Z st d { av := .one (.pv (.int .i64) (pLen x.2.1)) } (a.put d v) w' := by
  obtain ⟨b, p, ad, cap, hR, htop, hin, hle, lt2, n0, n1, hcov, hfr, et, s', hres⟩ := blt_in Rl F hob
  have hv0e : v0 = self b := by
    obtain ⟨ob2, s2, b2, off2, z1, z2, z3⟩ := hv0
    rw [res_nil, htop] at z2
    simp only [Option.some.injEq, Prod.mk.injEq, Top.mem.injEq] at z2
    obtain ⟨_, q1, q2⟩ := z2
    subst q1 q2
    exact z3
  subst hv0e
  refine (hs Z.m w b p ad cap x.2.1 hR hin).mono ?_
  rintro en w' ⟨rfl, rfl⟩
  exact ⟨_, rfl, Inv.set hd Rl F ⟨[_], rfl, rfl, rfl⟩⟩
theorem blt_string (hd : a.defers = []) (Rl : Rel Z st a.tmps w) (F : Fr C Z w) {d : Option Tmp} {r : Nat} {t e : TypeId} {x : den (bltS t e)} (hob : st.ob r = some { s := bltS t e, o := bltO, x := x, mem := true, fixed := false, pend := some [.L] })
    {f : FuncId} (hs : BltRun P f t e 2) {v0 : Value} (hv0 : isPtr Z st.ob r [] v0) :
    Calls P f #[v0] w fun en w' => ∃ v, en = .returned v ∧ InvK C Z st d { av := .one (.pv .str (bytesOf x.2.1)), upd := [(r, none)], kill := [(r, .all)] } (a.put d v) w' := by
  obtain ⟨b, p, ad, cap, hR, htop, hin, hle, lt2, n0, n1, hcov, hfr, et, s', hres⟩ := blt_in Rl F hob
  have hv0e : v0 = self b := by
    obtain ⟨ob2, s2, b2, off2, z1, z2, z3⟩ := hv0
    rw [res_nil, htop] at z2
    simp only [Option.some.injEq, Prod.mk.injEq, Top.mem.injEq] at z2
    obtain ⟨_, q1, q2⟩ := z2
    subst q1 q2
    exact z3
  subst hv0e
  refine (hs Z.m w b p ad cap x.2.1 hR hin).mono ?_
  rintro en w' ⟨rfl, S⟩
  refine ⟨_, rfl, by rw [put_defers]; exact hd, { Z with hs := fun z => if z = r then Hp.e else Z.hs z }, ?_, ?_, Le.refl _, fun z hz => ?_⟩
  · have hob2 : ∀ z, (st.apply d { av := .one (.pv .str (bytesOf x.2.1)), upd := [(r, none)], kill := [(r, .all)] }).ob z = if z = r then none else st.ob z := by
      intro z
      show look (dropOb st.objs r) z = _
      rw [look_drop]; rfl
    have nf : ∀ z b' o' u, z ≠ r → Z.hs z b' o' = some u → NF w' b' := by
      intro z b' o' u hz hu
      obtain ⟨c1, c2⟩ := Rl.own z _ _ _ hu
      have hlt := cell_lt c1
      have hne : ∀ q, ad = some q → q.block ≠ b' := by
        intro q hq hqb
        rcases hin.whole with ⟨_, z2⟩ | ⟨z1, gb, z2, z3⟩
        · rw [z2] at hq; cases hq
        · rw [z2] at hq
          injection hq with hq
          subst hq
          subst hqb
          rcases (rep_bytes hin.rep).2 with ⟨q1, _⟩ | ⟨b3, off3, l3, q1, q2, q3, q4, _⟩
          · rw [z2] at q1; cases q1
          · rw [z2] at q1
            injection q1 with q1
            injection q1 with q1 q5
            subst q1 q5
            have ho : o' < cap := hat_shape c1 z3
            have h4 : hR gb o' = (l3[o']?).map .v := by
              rw [q4]
              have := blk_at (b := gb) (off := 0) (cs := l3) (j := o')
              simpa using this
            have h5 : hR gb o' ≠ none := by rw [h4, List.getElem?_eq_getElem (by omega)]; simp
            cases h6 : hR gb o' with
            | none => exact h5 h6
            | some u6 =>
              have h7 := hle _ _ _ h6
              rcases Rl.dj z r hz gb o' with q | q
              · rw [hu] at q; cases q
              · rw [h7] at q; cases q
      exact c2.same (fun o2 => frozen_of_heap (S.block b' hlt hne)) (shape_of_heap (S.block b' hlt hne))
    refine Rl.apply (e := { av := .one (.pv .str (bytesOf x.2.1)), upd := [(r, none)], kill := [(r, .all)] }) ?_ ?_ ?_ ?_ ?_ ?_ ?_ ?_ ?_
    · intro b' o' u hu
      have := Rl.imm _ _ _ hu
      rw [S.cell b' o' (cell_lt this)]; exact this
    · intro z b' o' u hu
      by_cases hz : z = r
      · subst hz; simp [Hp.e] at hu
      · simp only [if_neg hz] at hu
        have := (Rl.own z _ _ _ hu).1
        exact ⟨by rw [S.cell b' o' (cell_lt this)]; exact this, nf z b' o' u hz hu⟩
    · intro z
      by_cases hz : z = r
      · simp only [if_pos hz]; exact (Dj.e _)
      · simp only [if_neg hz]; exact Rl.mdj z
    · intro z z' hzz
      by_cases hz : z = r
      · simp only [if_pos hz]; exact (Dj.e _).symm
      · by_cases hz' : z' = r
        · simp only [if_pos hz']; exact (Dj.e _)
        · simp only [if_neg hz, if_neg hz']; exact Rl.dj z z' hzz
    · intro z o2 hz2
      rw [hob2] at hz2
      split at hz2
      · cases hz2
      · rename_i hz
        exact RelOb_keep (Z := Z) (Le.refl _) (by simp [hz]) rfl rfl rfl (Rl.obs z o2 hz2)
    · intro z u hun hz
      refine rel_keep (Z := Z) (Z' := { Z with hs := fun z => if z = r then Hp.e else Z.hs z }) (bad := fun y => y = r) (Le.refl _) ?_ ?_ ?_ ?_ ?_ ?_ hz
      · intro y hy; rw [hob2, if_neg hy]
      · intro y hy; simp [hy]
      · intro y hy; rfl
      · intro y hy; rfl
      · intro y hy; rfl
      · intro y hy; subst hy; exact hun (y, .all) (by simp)
    · exact ⟨[_], rfl, rfl, rfl⟩
    · intro z o2 hz2 hp
      rw [hob2] at hz2
      split at hz2
      · cases hz2
      · rename_i hz
        simp only [if_neg hz]; exact Rl.rse z o2 hz2 hp
    · intro z o2 hz2 h1 h2
      rw [hob2] at hz2
      split at hz2
      · cases hz2
      · exact Rl.pin z o2 hz2 h1 h2
  · have hbk : ∀ b', b' < C.w.heap.size → w'.heap[b']? = w.heap[b']? := fun b' hb => S.block b' (Nat.lt_of_lt_of_le hb F.size) fun q hq e => by
      rcases hfr with z | z
      · rcases hin.whole with ⟨_, z2⟩ | ⟨z1, _⟩
        · rw [z2] at hq; cases hq
        · exact z1 z
      · have := z q hq
        omega
    refine ⟨S.os.trans F.os, S.tape.trans F.tape, S.output.trans F.output, Nat.le_trans F.size S.size, fun b' hb ho => (hbk b' hb).trans (F.block b' hb ho), fun b' o' hb ho => (cell_of_heap (hbk b' hb)).trans (F.cell b' o' hb ho),
      fun b' o' hb => (frozen_of_heap (hbk b' hb)).trans (F.frz b' o' hb), F.m, ?_, F.mf, F.ptop, fun b' hb => (shape_of_heap (hbk b' hb)).trans (F.shp b' hb), mk_keep S.shp F.blt fun r' b' off v z h1 h2 => .inl ⟨r', h1⟩⟩
    intro z b' o' h
    by_cases hz : z = r
    · simp only [if_pos hz] at h; exact absurd rfl h
    · simp only [if_neg hz] at h; exact F.hs z b' o' h
  · have hzr : z ≠ r := fun q => hz (r, none) (by simp) q.symm
    simp [hzr]
theorem bltK_ok (hd : a.defers = []) (Rl : Rel Z st a.tmps w) (F : Fr C Z w) {d : Option Tmp} {f : FuncId} {t e : TypeId} {kd : Nat} (hs : BltRun P f t e kd) {as : List AV} {vals : List Value} (hrel : All2 (RelAV Z st.ob) as vals)
    (h : bltK st t e kd as k = some y) : ∃ ef, k ef = some y ∧ Calls P f vals.toArray w fun en w' => ∃ v, en = .returned v ∧ InvK C Z st d ef (a.put d v) w' := by
  unfold bltK at h
  split at h
  · rename_i r l
    split at h
    · rename_i ob hob
      split at h
      · rename_i t' e' xs hx
        obtain ⟨hb, h5⟩ := cond_some h
        clear h
        simp only [Bool.and_eq_true] at hb
        have e1 := Nat.eq_of_beq_eq_true hb.1
        have e2 := Nat.eq_of_beq_eq_true hb.2
        clear hb
        subst e1 e2
        obtain ⟨x, rfl, rfl⟩ := bltX_eq hx
        match vals, hrel with
        | v0 :: vl, hrel =>
        obtain ⟨hv0, hrel⟩ := hrel
        match kd, l, hs, hrel, h5 with
        | 0, [.pv .str s], hs, hrel, h5 =>
          match vl, hrel with
          | [v1], hrel =>
            obtain ⟨⟨c, hc, rc⟩, _⟩ := hrel
            have hc2 : c = [.string s] := rc.2
            subst hc2
            subst hc
            obtain ⟨hfit, h6⟩ := ifB_true h5
            exact ⟨_, h6, blt_write hd Rl F hob hs (by simpa [pFit] using hfit) hv0⟩
          | _ :: _ :: _, hrel => exact hrel.2.elim
        | 1, [], hs, hrel, h5 =>
          match vl, hrel with
          | [], _ => exact ⟨_, h5, blt_len hd Rl F hob hs hv0⟩
          | _ :: _, hrel => exact hrel.elim
        | 2, [], hs, hrel, h5 =>
          match vl, hrel with
          | [], _ => exact ⟨_, h5, blt_string hd Rl F hob hs hv0⟩
          | _ :: _, hrel => exact hrel.elim
        | n + 3, l, hs, _, _ => exact hs.elim
      · cases h
    · cases h
  · cases h
end
end Go.AE
namespace Go.AE
section
variable {P : Program} {tb : Hp} {C : Ctx tb} {Z : Sup} {st : St} {a : Act} {w w' : World} {g : Cfg} {o : Oper} {R : Type} {k : Eff → Option R} {y : R}
theorem op_convertB (hg : tableOk P g.ty = true) (hd : a.defers = []) (Rl : Rel Z st a.tmps w) (F : Fr C Z w) {src dst : TypeId} {x : Operand} (ho : o.op = .convert src dst x) {e : TypeId} {s : ByteArray}
    (hs : strB g src dst (evalT g st src x) = some (e, s)) (h : k (effNew o.dst false (.sl e (.int .u8)) (.own .imm) (strInts s) []) = some y) : Ok P C Z st o a w k y := by
  have hr := eval_rel Rl (look g.ty src) x
  unfold evalT at hs
  unfold strB at hs
  split at hs
  · rename_i e' b h1 h2 hx
    split at hs
    · rename_i he
      simp only [Option.some.injEq, Prod.mk.injEq] at hs
      obtain ⟨q1, q2⟩ := hs
      subst q1 q2
      have t1 := typeOk_str (tableOk_at hg h1)
      obtain ⟨hu, _, _⟩ := typeOk_sl (tableOk_at hg h2)
      have te := typeOk_int (tableOk_at hg he)
      have vx := eval_str Rl hx
      have hl : (strInts b).length = b.size := by unfold strInts; rw [List.length_map]; rfl
      have hcap : b.size ≤ grownCap w b.size 0 e' := grownCap_ge w b.size 0 e'
      have hcl : (b.data.toList.map fun b => Value.int .u8 b.toNat).length = b.size := by rw [List.length_map]; rfl
      have hcells : Lib.bytesCells w e' b = ((b.data.toList.map fun b => Value.int .u8 b.toNat) ++ List.replicate (grownCap w b.size 0 e' - b.size) (Value.int .u8 0)).toArray := by
        unfold Lib.bytesCells
        apply Array.ext'
        simp
      refine ⟨_, h, fun K Q hk => wp_value (v := .slice (some ⟨w.heap.size, 0, none⟩) b.size (grownCap w b.size 0 e')) (w' := Lib.bytesWorld w e' b) ?_ (hk _ _ ?_)⟩
      · simp only [execOp, ho, vx, Sem.run_bind, Lib.run_convert_string_bytes w src dst e' b t1 hu te]
        rfl
      · have hnew := Lib.bytesWorld_at_new w e' b
        have hE : Ext w (Lib.bytesWorld w e' b) := by
          refine ⟨?_, ?_, ?_, by rw [Lib.bytesWorld_size]; omega, fun b' hb => Lib.bytesWorld_at_old w e' b b' hb⟩
          · unfold Lib.bytesWorld World.freeze; split <;> rfl
          · unfold Lib.bytesWorld World.freeze; split <;> rfl
          · unfold Lib.bytesWorld World.freeze; split <;> rfl
        have := inv_row (d := o.dst) (e := e') (q := .imm) (cap := grownCap w b.size 0 e') (r2 := List.replicate (grownCap w b.size 0 e' - b.size) (Value.int .u8 0)) (gone := []) hd Rl F (RepL_strInts (m := Z.m) (q := .imm) b.data.toList) (fun b o v e => by cases e)
          (show (strInts b).length ≤ _ by rw [hl]; exact hcap) (by rw [List.length_append, hcl, List.length_replicate]; show _ = _ * 1; omega) hE ?_
        · rw [show (List.map (fun c => (c.toNat : Int)) b.data.toList).length = b.size from hl] at this
          exact this
        · intro b' o' v hb
          obtain ⟨q1, q2, v, hv, q3⟩ := blk_some hb
          subst q1 hv
          rw [Nat.sub_zero] at q3
          refine ⟨hat_v.2 ?_, ?_, Nat.le_refl _⟩
          · unfold World.cell?
            rw [hnew]
            simp only [Option.isSome_none, Bool.false_eq_true, if_false]
            rw [hcells]
            simpa using q3
          · intro o2 e2 n2 h3 h4
            unfold World.shape? at h3
            rw [hnew] at h3
            simp only [Option.some.injEq, Prod.mk.injEq] at h3
            unfold World.frozen?
            rw [hnew]
            have : ¬ ((Lib.bytesCells w e' b).size ≤ o2) := by omega
            simp [this]
    · cases hs
  · cases hs
end
end Go.AE
namespace Go.AE
def ParsV : List Par → List Value → List Value → Prop
  | [], vs, fl => fl = vs
  | .one :: ps, v :: vs, fl => ∃ fl', fl = v :: fl' ∧ ParsV ps vs fl'
  | .fn f n :: ps, v :: vs, fl => ∃ (cs fl' : List Value), v = .func (.func f) #[] cs.toArray ∧ cs.length = n ∧ fl = cs ++ fl' ∧ ParsV ps vs fl'
  | _ :: _, [], _ => False
def OneRep (m : Hp) : Mode → Value → Dy → Hp → Prop
  | .io, v, d, h => ∃ b off, v = .pointer (some ⟨b, off, none⟩) ∧ RepT m d.s d.o h (.mem b off) d.x
  | .iov, v, d, h => ∃ c, v = mkVal d.s c ∧ Rep m d.s d.o h c d.x
  | .tk, v, d, h => ∃ c, v = mkVal d.s c ∧ Rep m d.s d.o h c d.x
  | .v, v, d, h => h = Hp.e ∧ ∃ c, v = mkVal d.s c ∧ Rep m d.s .imm Hp.e c d.x
  | .nl, v, d, h => h = Hp.e ∧ v = mkVal d.s d.s.zcells
  | .rd, v, d, h => h = Hp.e ∧ ∃ b off c, v = .pointer (some ⟨b, off, none⟩) ∧ Cov m b off c ∧ Rep m d.s .imm Hp.e c d.x
def ArgsRep (m : Hp) : List Mode → List Dy → List Value → Hp → Prop
  | [], [], [], h => h = Hp.e
  | q :: ms, d :: ds, v :: vs, h => ∃ h1 h2, Sp h h1 h2 ∧ OneRep m q v d h1 ∧ ArgsRep m ms ds vs h2
  | _, _, _, _ => False
def IosRep (m : Hp) : List Mode → List Value → List Dy → Hp → Prop
  | [], [], [], h => h = Hp.e
  | .io :: ms, v :: vs, d :: ds, h => ∃ h1 h2, Sp h h1 h2 ∧ OneRep m .io v d h1 ∧ IosRep m ms vs ds h2
  | .iov :: ms, v :: vs, d :: ds, h => ∃ h1 h2, Sp h h1 h2 ∧ OneRep m .iov v d h1 ∧ IosRep m ms vs ds h2
  | .v :: ms, _ :: vs, ds, h => IosRep m ms vs ds h
  | .rd :: ms, _ :: vs, ds, h => IosRep m ms vs ds h
  | .nl :: ms, _ :: vs, ds, h => IosRep m ms vs ds h
  | .tk :: ms, _ :: vs, ds, h => IosRep m ms vs ds h
  | _, _, _, _ => False
def ResOne (m : Hp) : Bool → Value → Dy → Hp → Prop
  | true, v, d, h => ∃ b off, v = .pointer (some ⟨b, off, none⟩) ∧ RepT m d.s d.o h (.mem b off) d.x
  | false, v, d, h => ∃ c, v = mkVal d.s c ∧ Rep m d.s d.o h c d.x
def ResRep (m : Hp) : List Bool → List Dy → List Value → Hp → Prop
  | [], [], [], h => h = Hp.e
  | b :: bs, d :: ds, v :: vs, h => ∃ h1 h2, Sp h h1 h2 ∧ ResOne m b v d h1 ∧ ResRep m bs ds vs h2
  | _, _, _, _ => False
def packV : List Value → Value
  | [v] => v
  | vs => .tuple vs.toArray
def CallPost (m H : Hp) (w : World) (c : Con) (fl : List Value) (res ios : List Dy) (e : Ending) (w' : World) : Prop :=
  ∃ vs m' H' HR, e = .returned (packV vs) ∧ Mod H w w' ∧ Le m m' ∧ (∀ b o v, m' b o = some v → hat w' b o = some v) ∧ Held w' H' ∧ Held w' HR ∧
    Dj m' H' ∧ Dj m' HR ∧ Dj H' HR ∧ (∀ b o, m' b o ≠ none → m b o ≠ none ∨ H b o ≠ none ∨ w.heap.size ≤ b) ∧ (∀ b o, H' b o ≠ none → H b o ≠ none ∨ w.heap.size ≤ b) ∧
    (∀ b o, HR b o ≠ none → H b o ≠ none ∨ w.heap.size ≤ b) ∧ IosRep m' c.modes fl ios H' ∧ ResRep m' c.ptrs res vs HR
def ConOk0 (P : Program) (tb : Hp) (f : FuncId) (ps : List Par) (c : Con) : Prop :=
  ∀ (w : World) (m H : Hp) (vs fl : List Value) (ds : List Dy), Le tb m → ParsV ps vs fl → ArgsRep m c.modes ds fl H → (∀ b o v, m b o = some v → hat w b o = some v) → Held w H → Dj m H →
    ∀ {R : Type} (k : List Dy → List Dy → Option R) (y : R), c.fn ds k = some y → ∃ res ios, k res ios = some y ∧ Calls P f vs.toArray w (CallPost m H w c fl res ios)
def ConOk (P : Program) (tb : Hp) (f : FuncId) (ps : List Par) (c : Con) : Prop := (c.bl = none → ConOk0 P tb f ps c) ∧ ∀ b, c.bl = some b → BltSpec P f b
def hasBody (P : Program) (f : FuncId) : Prop := ∃ fn, P.funcs[f]? = some fn ∧ (fn.name == "runtime.NumGoroutine") = false ∧ fn.body.isNone = false
def ConDet (c : Con) : Prop := ∀ (ds : List Dy) {R : Type} (k : List Dy → List Dy → Option R) (y : R), c.fn ds k = some y →
  ∃ res ios, k res ios = some y ∧ ∀ {R' : Type} (k' : List Dy → List Dy → Option R'), c.fn ds k' = k' res ios
def ConsOk (P : Program) (tb : Hp) (con : List ((FuncId × List Par) × Con)) : Prop := ∀ f ps c, lookCon con f ps = some c → hasBody P f ∧ ConOk P tb f ps c ∧ ConDet c
section
variable {P : Program} {tb : Hp} {C : Ctx tb} {Z : Sup} {st : St} {a : Act} {w w' : World} {g : Cfg} {o : Oper} {R : Type} {k : Eff → Option R} {y : R}
theorem rel_gen {Z' : Sup} {ob ob' : Obs} {S : Nat → Option KK} (hm : Le Z.m Z'.m)
    (hsame : ∀ x, S x = none → ob' x = ob x ∧ Z'.hs x = Z.hs x ∧ Z'.tops x = Z.tops x ∧ Z'.pd x = Z.pd x ∧ Z'.rs x = Z.rs x)
    (hwr : ∀ x b, S x = some (.wr b) → Z'.tops x = Z.tops x ∧ (b = true → ∃ c, Z.tops x = .flt c) ∧ ∀ o, ob x = some o → ∃ o', ob' x = some o' ∧ o'.s = o.s)
    (hpd : ∀ x k, S x = some k → k = .all ∨ ∃ b, k = .wr b) {x : AV} {v : Value} (hhit : ∀ y k, S y = some k → hit y k x = false) (hv : RelAV Z ob x v) : RelAV Z' ob' x v := by
  have ptr : ∀ y p v, (∀ k, S y = some k → hitPtr k p = false) → isPtr Z ob y p v → isPtr Z' ob' y p v := by
    intro y p v h1 ⟨q, s', b', off, e1, e2, e3⟩
    cases hS : S y with
    | none =>
      obtain ⟨q1, q2, q3, q4, q5⟩ := hsame y hS
      exact ⟨q, s', b', off, by rw [q1]; exact e1, by rw [q5, q3]; exact e2, e3⟩
    | some kk =>
      cases kk with
      | all => have := h1 _ hS; simp [hitPtr] at this
      | pd => rcases hpd y _ hS with h | ⟨_, h⟩ <;> cases h
      | wp _ _ _ => rcases hpd y _ hS with h | ⟨_, h⟩ <;> cases h
      | wr b =>
        obtain ⟨q1, q2, q3⟩ := hwr y b hS
        have hp : hasIx p = false := by simpa [hitPtr] using h1 _ hS
        obtain ⟨o', q4, q5⟩ := q3 q e1
        exact ⟨o', s', b', off, q4, by rw [q5, q1, ← res_noix p (Z.rs y) (Z'.rs y) _ _ hp]; exact e2, e3⟩
  have rp : ∀ s (x : den s) v, isRp Z s x v → isRp Z' s x v := by
    intro s x v ⟨b, off, c, e1, e2, e3⟩
    exact ⟨b, off, c, e1, e2.mono hm, Rep_mono hm _ _ _ _ _ e3⟩
  cases x with
  | pv s x => obtain ⟨c, e, r⟩ := hv; exact ⟨c, e, Rep_mono hm _ _ _ _ _ r⟩
  | rp s x => exact rp s x v hv
  | z s => exact hv
  | dead => trivial
  | ptr y p => exact ptr y p v (fun k hk => by simpa [hit] using hhit y k hk) hv
  | ov y p =>
    obtain ⟨q, s', t, c, e1, e2, e3, e4⟩ := hv
    cases hS : S y with
    | none =>
      obtain ⟨q1, q2, q3, q4, q5⟩ := hsame y hS
      exact ⟨q, s', t, c, by rw [q1]; exact e1, by rw [q2, q3]; exact e2, by rw [q2]; exact e3, e4⟩
    | some kk =>
      have hh := hhit y _ hS
      cases kk with
      | all => simp [hit, hitOv] at hh
      | pd => rcases hpd y _ hS with h | ⟨_, h⟩ <;> cases h
      | wp _ _ _ => rcases hpd y _ hS with h | ⟨_, h⟩ <;> cases h
      | wr b =>
        obtain ⟨q1, q2, q3⟩ := hwr y b hS
        have h2 : b = true ∧ hasIx p = false := by simpa [hit, hitOv] using hh
        obtain ⟨cf, hcf⟩ := q2 h2.1
        obtain ⟨o', q4, q5⟩ := q3 q e1
        have e2' := e2
        rw [hcf] at e2
        obtain ⟨c', et⟩ := res_flt_noix p _ _ _ h2.2 e2
        subst et
        exact ⟨o', s', .flt c', c, q4, by rw [q5, q1, ← res_noix p (Z.hs y) (Z'.hs y) _ _ h2.2]; exact e2', e3, e4⟩
  | bx y p =>
    obtain ⟨q, s', t, c, b0, f0, e1, e2, e3, e4, e5, e6⟩ := hv
    cases hS : S y with
    | none =>
      obtain ⟨q1, q2, q3, q4, q5⟩ := hsame y hS
      exact ⟨q, s', t, c, b0, f0, by rw [q1]; exact e1, by rw [q2, q3]; exact e2, by rw [q2]; exact e3, e4, e5, e6.mono hm⟩
    | some kk =>
      have hh := hhit y _ hS
      cases kk with
      | all => simp [hit, hitOv] at hh
      | pd => rcases hpd y _ hS with h | ⟨_, h⟩ <;> cases h
      | wp _ _ _ => rcases hpd y _ hS with h | ⟨_, h⟩ <;> cases h
      | wr b =>
        obtain ⟨q1, q2, q3⟩ := hwr y b hS
        have h2 : b = true ∧ hasIx p = false := by simpa [hit, hitOv] using hh
        obtain ⟨cf, hcf⟩ := q2 h2.1
        obtain ⟨o', q4, q5⟩ := q3 q e1
        have e2' := e2
        rw [hcf] at e2
        obtain ⟨c', et⟩ := res_flt_noix p _ _ _ h2.2 e2
        subst et
        exact ⟨o', s', .flt c', c, b0, f0, q4, by rw [q5, q1, ← res_noix p (Z.hs y) (Z'.hs y) _ _ h2.2]; exact e2', e3, e4, e5, e6.mono hm⟩
  | osub y p lo hi =>
    obtain ⟨q, e, s', t, ad, len, cap, e1, e2, e3, e4⟩ := hv
    cases hS : S y with
    | none =>
      obtain ⟨q1, q2, q3, q4, q5⟩ := hsame y hS
      exact ⟨q, e, s', t, ad, len, cap, by rw [q1]; exact e1, by rw [q2, q3]; exact e2, by rw [q2]; exact e3, e4⟩
    | some kk => have hh := hhit y _ hS; simp [hit] at hh
  | app y p =>
    obtain ⟨q, b', off, e1, e2, e3⟩ := hv
    cases hS : S y with
    | none =>
      obtain ⟨q1, q2, q3, q4, q5⟩ := hsame y hS
      exact ⟨q, b', off, by rw [q1]; exact e1, e2, by rw [q4]; exact e3⟩
    | some kk => have hh := hhit y _ hS; simp [hit] at hh
  | fn f caps =>
    obtain ⟨vs, e, al⟩ := hv
    refine ⟨vs, e, al.imp fun c hc v hcv => ?_⟩
    cases c with
    | cp y p => exact ptr y p v (fun k hk => by have := anyCap_false (hhit y k hk) _ hc; simpa [hitCap] using this) hcv
    | cr s x => exact rp s x v hcv
theorem inv_multi (hd : a.defers = []) (Rl : Rel Z st a.tmps w) (F : Fr C Z w) {d : Option Tmp} {e : Eff} {v : Value} {H m' : Hp} {K N : Nat → Hp} {T : Nat → Top} {RS : Nat → Hp}
    (M : Mod H w w') (hH : ∀ b o, H b o ≠ none → ∃ r, Z.hs r b o ≠ none) (hm : Le Z.m m') (himm : ∀ b o v, m' b o = some v → hat w' b o = some v)
    (hmd : ∀ b o, m' b o ≠ none → Z.m b o ≠ none ∨ H b o ≠ none ∨ w.heap.size ≤ b)
    (hK : ∀ x, Le (K x) (Z.hs x)) (hKH : ∀ x, Dj (K x) H) (hN : ∀ x y, x ≠ y → Dj (N x) (N y)) (hNd : ∀ x b o, N x b o ≠ none → H b o ≠ none ∨ w.heap.size ≤ b)
    (hNw : ∀ x, Held w' (N x)) (hmN : ∀ x, Dj m' (N x))
    (obs : ∀ x ob, (st.apply d e).ob x = some ob → RelOb { m := m', hs := fun x => Un (N x) (K x), tops := T, pd := Z.pd, rs := RS, ptop := Z.ptop } x ob)
    (henv : ∀ x u, untouched e.kill x → RelAV Z st.ob x u → RelAV { m := m', hs := fun x => Un (N x) (K x), tops := T, pd := Z.pd, rs := RS, ptop := Z.ptop } (st.apply d e).ob x u)
    (hv : RelSV { m := m', hs := fun x => Un (N x) (K x), tops := T, pd := Z.pd, rs := RS, ptop := Z.ptop } (st.apply d e).ob e.av v)
    (rse : ∀ x ob, (st.apply d e).ob x = some ob → ob.pend = none → RS x = Un (N x) (K x)) (hup : ∀ x, (∀ z ∈ e.upd, z.1 ≠ x) → Un (N x) (K x) = Z.hs x ∧ T x = Z.tops x ∧ RS x = Z.rs x)
    (pin : ∀ x ob, (st.apply d e).ob x = some ob → x < 50 → (ob.mem = true ∨ ob.fixed = true) → T x = Z.ptop x) : InvK C Z st d e (a.put d v) w' := by
  have hKw : ∀ x b o u, K x b o = some u → hat w' b o = some u ∧ NF w' b := by
    intro x b o u e1
    obtain ⟨q1, q2⟩ := Rl.own x _ _ _ (hK x _ _ _ e1)
    have hn : H b o = none := by
      rcases hKH x b o with z | z
      · rw [e1] at z; cases z
      · exact z
    exact ⟨by rw [M.cell _ _ (cell_lt q1) hn]; exact q1, q2.mod M (cell_lt q1)⟩
  have hKlt : ∀ x b o, K x b o ≠ none → H b o = none ∧ b < w.heap.size := by
    intro x b o h
    cases e1 : K x b o with
    | none => exact absurd e1 h
    | some u =>
      refine ⟨?_, cell_lt (Rl.own x _ _ _ (hK x _ _ _ e1)).1⟩
      rcases hKH x b o with z | z
      · rw [e1] at z; cases z
      · exact z
  have hNK : ∀ x y, Dj (N x) (K y) := fun x y b o => by
    cases e1 : N x b o with
    | none => exact .inl rfl
    | some u =>
      right
      cases e2 : K y b o with
      | none => rfl
      | some u' =>
        obtain ⟨q1, q2⟩ := hKlt y b o (by rw [e2]; simp)
        rcases hNd x b o (by rw [e1]; simp) with z | z
        · exact absurd q1 z
        · omega
  refine ⟨by rw [put_defers]; exact hd, { m := m', hs := fun x => Un (N x) (K x), tops := T, pd := Z.pd, rs := RS, ptop := Z.ptop }, Rl.apply himm ?_ ?_ ?_ obs henv hv rse pin, F.mod M ?_ hm rfl ?_ ?_ (fun r _ _ _ _ h _ => .inl ⟨r, h⟩), hm, fun x hx => let ⟨h1, h2, h3⟩ := hup x hx; ⟨h1, h2, rfl, h3⟩⟩
  · intro x b o u e1
    rcases (Un.sp (hNK x x)).some e1 with q | q
    · exact hNw x _ _ _ q
    · exact hKw x _ _ _ q
  · intro x b o
    cases e1 : Un (N x) (K x) b o with
    | none => exact .inr e1
    | some u =>
      left
      rcases (Un.sp (hNK x x)).some e1 with q | q
      · rcases hmN x b o with z | z
        · exact z
        · rw [q] at z; cases z
      · cases e2 : m' b o with
        | none => exact e2
        | some u' =>
          exfalso
          obtain ⟨q1, q2⟩ := hKlt x b o (by rw [q]; simp)
          rcases hmd b o (by rw [e2]; simp) with z | z | z
          · rcases Rl.mdj x b o with z2 | z2
            · exact z z2
            · rw [hK x _ _ _ q] at z2; cases z2
          · exact z q1
          · omega
  · intro x x' hne b o
    cases e1 : Un (N x) (K x) b o with
    | none => exact .inl e1
    | some u =>
      right
      cases e2 : Un (N x') (K x') b o with
      | none => exact e2
      | some u' =>
        exfalso
        rcases (Un.sp (hNK x x)).some e1 with q | q
        · rcases (Un.sp (hNK x' x')).some e2 with q' | q'
          · rcases hN x x' hne b o with z | z
            · rw [q] at z; cases z
            · rw [q'] at z; cases z
          · rcases hNK x x' b o with z | z
            · rw [q] at z; cases z
            · rw [q'] at z; cases z
        · rcases (Un.sp (hNK x' x')).some e2 with q' | q'
          · rcases hNK x' x b o with z | z
            · rw [q'] at z; cases z
            · rw [q] at z; cases z
          · rcases Rl.dj x x' hne b o with z | z
            · rw [hK x _ _ _ q] at z; cases z
            · rw [hK x' _ _ _ q'] at z; cases z
  · intro b o h
    obtain ⟨r, hr⟩ := hH b o h
    exact F.hs r b o hr
  · intro x b o h
    cases e1 : Un (N x) (K x) b o with
    | none => exact absurd e1 h
    | some u =>
      rcases (Un.sp (hNK x x)).some e1 with q | q
      · rcases hNd x b o (by rw [q]; simp) with z | z
        · obtain ⟨r, hr⟩ := hH b o z
          exact F.hs r b o hr
        · exact .inr (Nat.le_trans F.size z)
      · exact F.hs x b o (by rw [hK x _ _ _ q]; simp)
  · intro b o h
    rcases hmd b o h with z | z | z
    · exact F.mf b o z
    · obtain ⟨r, hr⟩ := hH b o z
      rcases F.hs r b o hr with q | q
      · exact .inr (.inl q)
      · exact .inr (.inr q)
    · exact .inr (.inr (Nat.le_trans F.size z))
end
end Go.AE
namespace Go.AE
theorem mkVal_inj {s : S} {c c' : List Value} (hl : c.length = s.size) (hl' : c'.length = s.size) (h : mkVal s c = mkVal s c') : c = c' := by
  unfold mkVal at h
  split at h
  · simpa using h
  · rename_i ha
    have h1 := size_one (s := s) (by simpa using ha)
    rw [h1] at hl hl'
    match c, c', hl, hl' with
    | [x], [y], _, _ => simpa using h
theorem uH_le {hs : Nat → Hp} (dj : ∀ r r', r ≠ r' → Dj (hs r) (hs r')) {r : Nat} : ∀ {l : List Nat}, r ∈ l → Le (hs r) (uH hs l)
  | x :: l, h => by
    intro b o v e
    show Un (hs x) (uH hs l) b o = some v
    by_cases q : x = r
    · subst q; simp [Un, e]
    · have h2 : r ∈ l := by
        cases h with
        | head => exact absurd rfl q
        | tail _ h => exact h
      have e1 : hs x b o = none := by
        rcases dj x r q b o with z | z
        · exact z
        · rw [e] at z; cases z
      have := uH_le dj h2 _ _ _ e
      simp [Un, e1, this]
theorem imm_part {m : Hp} {e : TypeId} {s : S} {xs : List (den s)} {ad : Option Addr} {cap : Nat} {lo hi : Int} (h0 : 0 ≤ lo) (h1 : lo ≤ hi) (h2 : hi ≤ xs.length)
    (r : Rep m (.sl e s) .imm Hp.e [.slice ad xs.length cap] xs) : Rep m (.sl e s) .imm Hp.e [.slice (if cap = lo.toNat then ad else ad.map (·.add (lo.toNat * s.size))) (hi.toNat - lo.toNat) (cap - lo.toNat)] (sub xs lo hi) := by
  obtain ⟨_, ad', cap', ec, hc, hr⟩ := r
  simp only [List.cons.injEq, Value.slice.injEq, and_true, true_and] at ec
  obtain ⟨q1, q2⟩ := ec
  subst q1 q2
  refine ⟨rfl, _, _, by rw [sub_len h0 h1 h2], by rw [sub_len h0 h1 h2]; omega, ?_⟩
  intro hne
  have hne2 : xs ≠ [] := by intro e; subst e; exact hne (by simp [sub])
  obtain ⟨b, off, r, ea, cv, rl⟩ := hr hne2
  have hlen : 0 < (sub xs lo hi).length := List.length_pos_iff.2 hne
  rw [sub_len h0 h1 h2] at hlen
  have hcap : ¬ cap = lo.toNat := by omega
  obtain ⟨d1, d2, d3, e3, el, r2⟩ := RepL_sub (Rep_len m s .imm) (lo := lo.toNat) (hi := hi.toNat) (by omega) (by omega) rl
  refine ⟨b, off + lo.toNat * s.size, d2, ?_, ?_, r2⟩
  · rw [if_neg hcap, ea]; simp [addr_add]
  · intro j v ej
    have hj : j < d2.length := by
      rcases Nat.lt_or_ge j d2.length with q | q
      · exact q
      · rw [List.getElem?_eq_none q] at ej; cases ej
    have := cv (lo.toNat * s.size + j) v (by
      rw [e3, List.append_assoc, List.getElem?_append_right (by omega), List.getElem?_append_left (by omega)]
      rw [← ej]; congr 1; omega)
    rw [← this]; congr 1; omega
theorem setK_nil {R : Type} : ∀ (s : S) (x : den s) (s' : S) (v : den s') (k : den s → Option R), setK s x [] s' v k = cast? s' s v k := by
  intro s; cases s <;> intros <;> rfl
def PartIo (Z : Sup) (ob : Ob) (r : Nat) (p : Path) (md : Mode) (v : Value) (s : S) (h1 hc : Hp) : Prop :=
  Sp (Z.hs r) h1 hc ∧ (∀ m' h1' h' o' o2 (x' : den s), Le Z.m m' → setMask ob.o p o' = some o2 → Sp h' h1' hc → OneRep m' md v ⟨s, o', x'⟩ h1' →
    ∀ {R : Type} (k : den ob.s → Option R) (y : R), setK ob.s ob.x p s x' k = some y → ∃ x2, k x2 = some y ∧ RepT m' ob.s o2 h' (Z.tops r) x2) ∧ shapeAt ob.s p = some s
def Given (Z : Sup) (st : St) (mc : Hp) : List Mode → List AV → List Dy → List Value → Hp → Prop
  | [], [], [], [], h => h = Hp.e
  | .io :: ms, .ptr r p :: as, d :: ds, v :: vs, h => ∃ ob h1 hc h2, st.ob r = some ob ∧ ob.pend = none ∧ OneRep Z.m .io v d h1 ∧ PartIo Z ob r p .io v d.s h1 hc ∧ Sp h h1 h2 ∧ Given Z st mc ms as ds vs h2
  | .iov :: ms, .ov r p :: as, d :: ds, v :: vs, h => ∃ ob h1 hc h2, st.ob r = some ob ∧ ob.pend = none ∧ OneRep Z.m .iov v d h1 ∧ PartIo Z ob r p .iov v d.s h1 hc ∧ Sp h h1 h2 ∧ Given Z st mc ms as ds vs h2
  | .tk :: ms, a :: as, d :: ds, v :: vs, h => ∃ h1 h2, OneRep Z.m .tk v d h1 ∧ Le h1 (uH Z.hs (tkIds [.tk] [a])) ∧ Sp h h1 h2 ∧ Given Z st mc ms as ds vs h2
  | .v :: ms, _ :: as, d :: ds, v :: vs, h => OneRep mc .v v d Hp.e ∧ Given Z st mc ms as ds vs h
  | .rd :: ms, _ :: as, d :: ds, v :: vs, h => OneRep mc .rd v d Hp.e ∧ Given Z st mc ms as ds vs h
  | .nl :: ms, _ :: as, d :: ds, v :: vs, h => OneRep mc .nl v d Hp.e ∧ Given Z st mc ms as ds vs h
  | _, _, _, _, _ => False
theorem OneRep_mono {m m' : Hp} (hm : Le m m') {md : Mode} {v : Value} {d : Dy} {h : Hp} (r : OneRep m md v d h) : OneRep m' md v d h := by
  cases md with
  | v => obtain ⟨e, c, h1, h2⟩ := r; exact ⟨e, c, h1, Rep_mono hm _ _ _ _ _ h2⟩
  | nl => exact r
  | rd => obtain ⟨e, b, off, c, h1, h2, h3⟩ := r; exact ⟨e, b, off, c, h1, h2.mono hm, Rep_mono hm _ _ _ _ _ h3⟩
  | io => obtain ⟨b, off, h1, c, h2, h3, h4⟩ := r; exact ⟨b, off, h1, c, h2, h3, Rep_mono hm _ _ _ _ _ h4⟩
  | iov => obtain ⟨c, h1, h2⟩ := r; exact ⟨c, h1, Rep_mono hm _ _ _ _ _ h2⟩
  | tk => obtain ⟨c, h1, h2⟩ := r; exact ⟨c, h1, Rep_mono hm _ _ _ _ _ h2⟩
theorem Given_args {Z : Sup} {st : St} {mc : Hp} (hm : Le Z.m mc) : ∀ {ms : List Mode} {as : List AV} {ds : List Dy} {vs : List Value} {h : Hp}, Given Z st mc ms as ds vs h → ArgsRep mc ms ds vs h
  | [], [], [], [], h, g => g
  | .io :: ms, .ptr r p :: as, d :: ds, v :: vs, h, ⟨ob, h1, hc, h2, _, _, a1, _, sp, g⟩ => ⟨h1, h2, sp, OneRep_mono hm a1, Given_args hm g⟩
  | .iov :: ms, .ov r p :: as, d :: ds, v :: vs, h, ⟨ob, h1, hc, h2, _, _, a1, _, sp, g⟩ => ⟨h1, h2, sp, OneRep_mono hm a1, Given_args hm g⟩
  | .tk :: ms, a :: as, d :: ds, v :: vs, h, ⟨h1, h2, a1, _, sp, g⟩ => ⟨h1, h2, sp, OneRep_mono hm a1, Given_args hm g⟩
  | .v :: ms, a :: as, d :: ds, v :: vs, h, ⟨a1, g⟩ => ⟨Hp.e, h, Sp.e_left _, a1, Given_args hm g⟩
  | .rd :: ms, a :: as, d :: ds, v :: vs, h, ⟨a1, g⟩ => ⟨Hp.e, h, Sp.e_left _, a1, Given_args hm g⟩
  | .nl :: ms, a :: as, d :: ds, v :: vs, h, ⟨a1, g⟩ => ⟨Hp.e, h, Sp.e_left _, a1, Given_args hm g⟩
section
variable {P : Program} {tb : Hp} {C : Ctx tb} {Z : Sup} {st : St} {a : Act} {w w' : World} {g : Cfg} {o : Oper} {R : Type} {k : Eff → Option R} {y : R}
theorem At.frozen (Rl : Rel Z st a.tmps w) {r : Nat} {p : Path} {ob : Ob} {s : S} {x : den s} {t : Top} {c : List Value} (A : At Z st r p ob s x t c) {mc : Hp} (hm : Le Z.m mc) (hr : Le (Z.hs r) mc) : Rep mc s .imm Hp.e c x := by
  obtain ⟨hR, rep, hle⟩ := A.rep
  refine Rep_mono ?_ _ _ _ _ _ (Rep_freeze ((Rl.mdj r).le (Le.refl _) hle) rep)
  intro b o v e
  unfold Un at e
  cases e1 : Z.m b o with
  | some u => rw [e1] at e; rw [← e]; exact hm _ _ _ e1
  | none => rw [e1] at e; exact hr _ _ _ (hle _ _ _ e)
theorem part_io (Rl : Rel Z st a.tmps w) {r : Nat} {p : Path} {ob : Ob} {s : S} {x : den s} {b off : Nat} {c : List Value} (A : At Z st r p ob s x (.mem b off) c) :
    ∃ h1 hc, OneRep Z.m .io (.pointer (some ⟨b, off, none⟩)) ⟨s, maskAt ob.o p, x⟩ h1 ∧ PartIo Z ob r p .io (.pointer (some ⟨b, off, none⟩)) s h1 hc := by
  obtain ⟨hs, hc, sp, rt, back, _⟩ := A.rept
  refine ⟨hs, hc, ⟨b, off, rfl, rt⟩, sp, ?_, A.sh⟩
  intro m' h1' h' o' o2 x' hm hset sp' ⟨b', off', e, rt'⟩ R k y hk
  simp only [Value.pointer.injEq, Option.some.injEq, Addr.mk.injEq, and_true] at e
  obtain ⟨e1, e2⟩ := e
  subst e1 e2
  exact back b off rfl m' h1' h' o' o2 x' hm hset sp' rt' k y hk
theorem part_iov (Rl : Rel Z st a.tmps w) {r : Nat} {p : Path} {ob : Ob} {s : S} {x : den s} {b off : Nat} {c : List Value} (A : At Z st r p ob s x (.mem b off) c) :
    ∃ h1 hc, OneRep Z.m .iov (mkVal s c) ⟨s, maskAt ob.o p, x⟩ h1 ∧ PartIo Z ob r p .iov (mkVal s c) s h1 hc := by
  have hl : c.length = s.size := by obtain ⟨hR, rep, _⟩ := A.rep; exact Rep_len _ _ _ _ _ _ rep
  obtain ⟨hs, hc, sp, rt, back, _⟩ := A.rept
  obtain ⟨c1, h0, sp0, rep0⟩ := id rt
  have ec : c1 = c := by
    refine cellsAt_uniq (h := Z.hs r) (t := .mem b off) (n := s.size) ⟨Rep_len _ _ _ _ _ _ rep0, fun j v e => sp.left _ _ _ (sp0.left _ _ _ ?_)⟩ A.cells
    exact blk_v e
  subst ec
  obtain ⟨sa, sb⟩ := Sp.assoc sp sp0.symm
  refine ⟨h0, Un (blk b off c1) hc, ⟨c1, rfl, rep0⟩, sa, ?_, A.sh⟩
  intro m' h1' h' o' o2 x' hm hset sp' ⟨c', e, rep'⟩ R k y hk
  have := mkVal_inj hl (Rep_len _ _ _ _ _ _ rep') e
  subst this
  obtain ⟨s1, s2⟩ := Sp.assoc' sp' sb
  exact back b off rfl m' (Un h1' (blk b off c1)) h' o' o2 x' hm hset s1 ⟨c1, h1', s2.symm, rep'⟩ k y hk
theorem atPlace_nil (Rl : Rel Z st a.tmps w) {r : Nat} {kk : (s : S) → O → den s → Option R} (h : atPlace st r [] kk = some y) : ∃ ob, st.ob r = some ob ∧ ob.pend = none ∧ kk ob.s ob.o ob.x = some y := by
  unfold atPlace at h
  split at h
  · rename_i ob hob
    split at h
    · rename_i hp ho
      refine ⟨ob, hob, hp, ?_⟩
      have hmk : maskAt ob.o [] = ob.o := by cases ob.o <;> rfl
      rw [hmk] at h
      rw [getK_nil] at h; exact h
    · cases h
  · cases h
theorem set_nil {o o' o2 : O} (e : setMask o [] o' = some o2) : o2 = o' := by
  cases o <;> simp only [setMask, Option.some.injEq] at e <;> exact e.symm
theorem part_nil (Rl : Rel Z st a.tmps w) {r : Nat} {ob : Ob} (hob : st.ob r = some ob) (hp : ob.pend = none) {c : List Value} (ht : Z.tops r = .flt c) :
    OneRep Z.m .iov (mkVal ob.s c) ⟨ob.s, ob.o, ob.x⟩ (Z.hs r) ∧ PartIo Z ob r [] .iov (mkVal ob.s c) ob.s (Z.hs r) Hp.e := by
  have hro := (Rl.obs r ob hob).2
  rw [hp] at hro
  have hro : RepT Z.m ob.s ob.o (Z.hs r) (Z.tops r) ob.x := hro
  rw [ht] at hro
  have hro : Rep Z.m ob.s ob.o (Z.hs r) c ob.x := hro
  refine ⟨⟨c, rfl, hro⟩, Sp.e_right _, ?_, by cases ob.s <;> rfl⟩
  intro m' h1' h' o' o2 x' hm hset sp' ⟨c', e, rep'⟩ R k y hk
  have := mkVal_inj (Rep_len _ _ _ _ _ _ hro) (Rep_len _ _ _ _ _ _ rep') e
  subst this
  have := set_nil hset
  subst this
  rw [ht]
  have eh := sp'.eq_left
  subst eh
  rw [setK_nil] at hk
  obtain ⟨ee, hk2⟩ := cast?_eq hk
  cases ee
  exact ⟨x', hk2, rep'⟩
theorem Rep_part {m : Hp} : ∀ (p : Path) (s : S) (o : O) (h : Hp) (c : List Value) (x : den s), hasIx p = false → Rep m s o h c x →
    ∀ {R : Type} (kk : (s' : S) → den s' → Option R) (y : R), getK s x p kk = some y →
    ∃ s' x' h1 hc c', kk s' x' = some y ∧ shapeAt s p = some s' ∧ (∀ hh, res hh s (.flt c) p = some (s', .flt c')) ∧ Sp h h1 hc ∧ Rep m s' (maskAt o p) h1 c' x' ∧
      ∀ m' h1' h' o' o2 (v : den s'), Le m m' → setMask o p o' = some o2 → Sp h' h1' hc → Rep m' s' o' h1' c' v →
        ∀ {R' : Type} (k : den s → Option R') (y' : R'), setK s x p s' v k = some y' → ∃ x2, k x2 = some y' ∧ Rep m' s o2 h' c x2
  | [], s, o, h, c, x, _, rep, R, kk, y, hk => by
    rw [getK_nil] at hk
    refine ⟨s, x, h, Hp.e, c, hk, by cases s <;> rfl, fun hh => by rw [res_nil], Sp.e_right _, by cases o <;> exact rep, ?_⟩
    intro m' h1' h' o' o2 v hm hset sp rep' R' k y' hk'
    have := set_nil hset
    subst this
    have eh := sp.eq_left
    subst eh
    rw [setK_nil] at hk'
    obtain ⟨ee, hk2⟩ := cast?_eq hk'
    cases ee
    exact ⟨v, hk2, rep'⟩
  | .L :: p, .pair a b, o, h, c, x, hp, ⟨h1, h2, c1, c2, sp, ec, r1, r2⟩, R, kk, y, hk => by
    obtain ⟨s', x', k1, kc, c', g1, g2, g3, g4, g5, back⟩ := Rep_part p a o.l h1 c1 x.1 (by simpa [hasIx] using hp) r1 kk y hk
    obtain ⟨sa, sb⟩ := sp.assoc g4
    refine ⟨s', x', k1, Un kc h2, c', g1, g2, fun hh => ?_, sa, g5, ?_⟩
    · have := Rep_len _ _ _ _ _ _ r1
      simp only [res, Top.l, ec]
      rw [← this]
      simpa using g3 hh
    · intro m' h1' h' o' o2 v hm hset sp' rep' R' k y' hk'
      have hset' : ∃ oa, setMask o.l p o' = some oa ∧ o2 = mkPr oa o.r := by
        cases o <;> (simp only [setMask] at hset; split at hset <;> first | (cases hset; done) | (rename_i oa hoa; exact ⟨oa, hoa, by injection hset with z; exact z.symm⟩))
      obtain ⟨oa, e1, e2⟩ := hset'
      subst e2
      obtain ⟨s1, s2⟩ := Sp.assoc' sp' sb
      obtain ⟨xa, hka, ra⟩ := back m' h1' (Un h1' kc) o' oa v hm e1 s2 rep' (fun y => k (y, x.2)) y' hk'
      exact ⟨(xa, x.2), hka, Un h1' kc, h2, c1, c2, s1, ec, by rw [mkPr_l]; exact ra, by rw [mkPr_r]; exact Rep_mono hm _ _ _ _ _ r2⟩
  | .R :: p, .pair a b, o, h, c, x, hp, ⟨h1, h2, c1, c2, sp, ec, r1, r2⟩, R, kk, y, hk => by
    obtain ⟨s', x', k1, kc, c', g1, g2, g3, g4, g5, back⟩ := Rep_part p b o.r h2 c2 x.2 (by simpa [hasIx] using hp) r2 kk y hk
    obtain ⟨sa, sb⟩ := sp.symm.assoc g4
    refine ⟨s', x', k1, Un kc h1, c', g1, g2, fun hh => ?_, sa, g5, ?_⟩
    · have := Rep_len _ _ _ _ _ _ r1
      simp only [res, Top.r, ec]
      rw [← this]
      simpa using g3 hh
    · intro m' h1' h' o' o2 v hm hset sp' rep' R' k y' hk'
      have hset' : ∃ ob, setMask o.r p o' = some ob ∧ o2 = mkPr o.l ob := by
        cases o <;> (simp only [setMask] at hset; split at hset <;> first | (cases hset; done) | (rename_i ob hob; exact ⟨ob, hob, by injection hset with z; exact z.symm⟩))
      obtain ⟨ob, e1, e2⟩ := hset'
      subst e2
      obtain ⟨s1, s2⟩ := Sp.assoc' sp' sb
      obtain ⟨xb, hkb, rb⟩ := back m' h1' (Un h1' kc) o' ob v hm e1 s2 rep' (fun y => k (x.1, y)) y' hk'
      exact ⟨(x.1, xb), hkb, h1, Un h1' kc, c1, c2, s1.symm, ec, by rw [mkPr_l]; exact Rep_mono hm _ _ _ _ _ r1, by rw [mkPr_r]; exact rb⟩
  | .ix _ :: _, _, _, _, _, _, hp, _, R, kk, y, hk => by simp [hasIx] at hp
  | .L :: _, .int _, _, _, _, _, _, _, R, kk, y, hk => by simp [getK] at hk
  | .L :: _, .bool, _, _, _, _, _, _, R, kk, y, hk => by simp [getK] at hk
  | .L :: _, .str, _, _, _, _, _, _, R, kk, y, hk => by simp [getK] at hk
  | .L :: _, .unit, _, _, _, _, _, _, R, kk, y, hk => by simp [getK] at hk
  | .L :: _, .sl _ _, _, _, _, _, _, _, R, kk, y, hk => by simp [getK] at hk
  | .L :: _, .map _, _, _, _, _, _, _, R, kk, y, hk => by simp [getK] at hk
  | .R :: _, .int _, _, _, _, _, _, _, R, kk, y, hk => by simp [getK] at hk
  | .R :: _, .bool, _, _, _, _, _, _, R, kk, y, hk => by simp [getK] at hk
  | .R :: _, .str, _, _, _, _, _, _, R, kk, y, hk => by simp [getK] at hk
  | .R :: _, .unit, _, _, _, _, _, _, R, kk, y, hk => by simp [getK] at hk
  | .R :: _, .sl _ _, _, _, _, _, _, _, R, kk, y, hk => by simp [getK] at hk
  | .R :: _, .map _, _, _, _, _, _, _, R, kk, y, hk => by simp [getK] at hk
theorem part_flt (Rl : Rel Z st a.tmps w) {r : Nat} {p : Path} {kk : (s : S) → O → den s → Option R} (hp : hasIx p = false) {ob : Ob} (hob : st.ob r = some ob) {c : List Value} (ht : Z.tops r = .flt c)
    (h : atPlace st r p kk = some y) :
    ∃ s x c' h1 hc, kk s (maskAt ob.o p) x = some y ∧ ob.pend = none ∧ res (Z.hs r) ob.s (Z.tops r) p = some (s, .flt c') ∧ OneRep Z.m .iov (mkVal s c') ⟨s, maskAt ob.o p, x⟩ h1 ∧ PartIo Z ob r p .iov (mkVal s c') s h1 hc := by
  unfold atPlace at h
  rw [hob] at h
  simp only at h
  split at h
  · rename_i hpn ho
    have hro := (Rl.obs r ob hob).2
    rw [hpn] at hro
    have hro : RepT Z.m ob.s ob.o (Z.hs r) (Z.tops r) ob.x := hro
    rw [ht] at hro
    have hro : Rep Z.m ob.s ob.o (Z.hs r) c ob.x := hro
    obtain ⟨s', x', h1, hc, c', g1, g2, g3, g4, g5, back⟩ := Rep_part p _ _ _ _ _ hp hro _ _ h
    refine ⟨s', x', c', h1, hc, g1, hpn, by rw [ht]; exact g3 _, ⟨c', rfl, g5⟩, g4, ?_, g2⟩
    intro m' h1' h' o' o2 v hm hset sp' ⟨c2, e, rep'⟩ R' k y' hk'
    have := mkVal_inj (Rep_len _ _ _ _ _ _ g5) (Rep_len _ _ _ _ _ _ rep') e
    subst this
    obtain ⟨x2, k1, k2⟩ := back m' h1' h' o' o2 v hm hset sp' rep' k y' hk'
    exact ⟨x2, k1, by rw [ht]; exact k2⟩
  · cases h
end
end Go.AE
namespace Go.AE
section
variable {P : Program} {tb : Hp} {C : Ctx tb} {Z : Sup} {st : St} {a : Act} {w w' : World} {g : Cfg} {o : Oper} {R : Type} {k : Eff → Option R} {y : R}
theorem noDup_cons {r : Nat} {l : List Nat} (h : noDup (r :: l) = true) : r ∉ l ∧ noDup l = true := by
  simp only [noDup, Bool.and_eq_true, Bool.not_eq_true'] at h
  exact ⟨memNat_false.1 h.1, h.2⟩
def SubH (Z : Sup) (io tk : List Nat) (H : Hp) : Prop := ∀ b o v, H b o = some v → ∃ r, (r ∈ io ∨ r ∈ tk) ∧ Z.hs r b o = some v
theorem SubH.add (Rl : Rel Z st a.tmps w) {io tk io' tk' : List Nat} {r : Nat} {h1 H2 : Hp} (hsub : SubH Z io tk H2) (hle : Le h1 (Z.hs r)) (h1r : r ∉ io) (h2r : r ∉ tk) (h3 : r ∈ io' ∨ r ∈ tk') (h4 : ∀ x ∈ io, x ∈ io') (h5 : ∀ x ∈ tk, x ∈ tk') :
    Sp (Un h1 H2) h1 H2 ∧ SubH Z io' tk' (Un h1 H2) := by
  have dj : Dj h1 H2 := fun b o => by
    cases e1 : h1 b o with
    | none => exact .inl rfl
    | some v =>
      right
      cases e2 : H2 b o with
      | none => rfl
      | some v2 =>
        exfalso
        obtain ⟨r', hr', e3⟩ := hsub _ _ _ e2
        have hne : r ≠ r' := by
          intro q; subst q
          rcases hr' with z | z
          · exact h1r z
          · exact h2r z
        rcases Rl.dj r r' hne b o with z | z
        · rw [hle _ _ _ e1] at z; cases z
        · rw [e3] at z; cases z
  refine ⟨Un.sp dj, ?_⟩
  intro b o v e
  rcases (Un.sp dj).some e with z | z
  · exact ⟨r, h3, hle _ _ _ z⟩
  · obtain ⟨r', hr', e3⟩ := hsub _ _ _ z
    exact ⟨r', hr'.imp (h4 r') (h5 r'), e3⟩
theorem argsK_eq (Rl : Rel Z st a.tmps w) {mc : Hp} (hmc : Le Z.m mc) : ∀ {ms : List Mode} {as : List AV} {vs : List Value} {kk : List Dy → Option R} {y : R}, All2 (RelAV Z st.ob) as vs → argsK g st ms as kk = some y →
    (∀ r ∈ rdIds ms as, Le (Z.hs r) mc) → noDup (ioIds ms as) = true → noDup (tkIds ms as) = true → (∀ r ∈ tkIds ms as, r ∉ ioIds ms as) →
    ∃ ds H, kk ds = some y ∧ Given Z st mc ms as ds vs H ∧ SubH Z (ioIds ms as) (tkIds ms as) H
  | [], [], vs, kk, y, hr, h, _, _, _, _ => by
    match vs, hr with
    | [], _ => exact ⟨[], Hp.e, h, rfl, fun b o v e => by cases e⟩
  | [], _ :: _, vs, kk, y, hr, h, _, _, _, _ => by simp [argsK] at h
  | _ :: _, [], vs, kk, y, hr, h, _, _, _, _ => by simp [argsK] at h
  | q :: ms, x :: as, vs, kk, y, hr, h, hrd, hio, htk, hdj => by
    match vs, hr with
    | v :: vs, ⟨hx, hrest⟩ =>
    simp only [argsK] at h
    unfold argK at h
    split at h
    · -- values
      rename_i s x
      obtain ⟨ds, H, hk, gv, hs⟩ := argsK_eq (ms := ms) (as := as) Rl hmc hrest h hrd hio htk hdj
      obtain ⟨c, e, r⟩ := hx
      exact ⟨_, H, hk, ⟨⟨rfl, c, e, Rep_mono hmc _ _ _ _ _ r⟩, gv⟩, hs⟩
    · rename_i s
      obtain ⟨ds, H, hk, gv, hs⟩ := argsK_eq (ms := ms) (as := as) Rl hmc hrest h hrd hio htk hdj
      exact ⟨_, H, hk, ⟨⟨rfl, _, hx, Rep_zero _ _ _⟩, gv⟩, hs⟩
    · rename_i r p
      obtain ⟨ob, s, x, t, c, h2, A⟩ := atPlace_eq Rl h
      obtain ⟨ds, H, hk, gv, hs⟩ := argsK_eq (ms := ms) (as := as) Rl hmc hrest h2 (fun r hr => hrd r (List.mem_cons_of_mem _ hr)) hio htk hdj
      exact ⟨_, H, hk, ⟨⟨rfl, c, A.ov hx, A.frozen Rl hmc (hrd r (List.mem_cons_self ..))⟩, gv⟩, hs⟩
    · rename_i r p lo hi
      obtain ⟨ob, s, x, t, c, h2, A⟩ := atPlace_eq Rl h
      split at h2
      · rename_i e s xs
        obtain ⟨ds, H, hk, gv, hs⟩ := argsK_eq (ms := ms) (as := as) Rl hmc hrest h2 (fun r hr => hrd r (List.mem_cons_of_mem _ hr)) hio htk hdj
        obtain ⟨ad, cap, ec, hc, h4, h5, h6, h7⟩ := osub_at A hx
        have fr := A.frozen Rl hmc (hrd r (List.mem_cons_self ..))
        rw [ec] at fr
        exact ⟨_, H, hk, ⟨⟨rfl, [.slice (if cap = lo.toNat then ad else ad.map (·.add (lo.toNat * s.size))) (hi.toNat - lo.toNat) (cap - lo.toNat)], h7, imm_part h4 h5 h6 fr⟩, gv⟩, hs⟩
      · cases h2
    · rename_i s
      obtain ⟨ds, H, hk, gv, hs⟩ := argsK_eq (ms := ms) (as := as) Rl hmc hrest h hrd hio htk hdj
      exact ⟨_, H, hk, ⟨⟨rfl, hx⟩, gv⟩, hs⟩
    · -- pointers to read
      rename_i s x
      obtain ⟨ds, H, hk, gv, hs⟩ := argsK_eq (ms := ms) (as := as) Rl hmc hrest h hrd hio htk hdj
      obtain ⟨b, off, c, e, cv, r⟩ := hx
      exact ⟨_, H, hk, ⟨⟨rfl, b, off, c, e, cv.mono hmc, Rep_mono hmc _ _ _ _ _ r⟩, gv⟩, hs⟩
    · rename_i r p
      obtain ⟨ob, s, x, t, c, h2, A⟩ := atPlace_eq Rl h
      obtain ⟨ds, H, hk, gv, hs⟩ := argsK_eq (ms := ms) (as := as) Rl hmc hrest h2 (fun r hr => hrd r (List.mem_cons_of_mem _ hr)) hio htk hdj
      obtain ⟨b, off, et, ev⟩ := A.ptr hx
      subst et
      have hle := hrd r (List.mem_cons_self ..)
      exact ⟨_, H, hk, ⟨⟨rfl, b, off, c, ev, fun j v e => hle _ _ _ (A.cells.2 j v e), A.frozen Rl hmc hle⟩, gv⟩, hs⟩
    · -- pointers to what may change
      rename_i r p
      obtain ⟨ob, s, x, t, c, h2, A⟩ := atPlace_eq Rl h
      obtain ⟨hn1, hn2⟩ := noDup_cons hio
      obtain ⟨ds, H, hk, gv, hs⟩ := argsK_eq (ms := ms) (as := as) Rl hmc hrest h2 hrd hn2 htk (fun r hr q => hdj r hr (List.mem_cons_of_mem _ q))
      obtain ⟨b, off, et, ev⟩ := A.ptr hx
      subst et
      obtain ⟨h1, hc, r1, p1⟩ := part_io Rl A
      obtain ⟨sp, hs'⟩ := SubH.add Rl (io' := r :: ioIds ms as) (tk' := tkIds ms as) hs p1.1.left hn1 (fun q => hdj r q (List.mem_cons_self ..)) (.inl (List.mem_cons_self ..)) (fun x hx => List.mem_cons_of_mem _ hx) (fun x hx => hx)
      rw [ev]
      exact ⟨_, _, hk, ⟨ob, h1, hc, H, A.isOb, A.pend, r1, p1, sp, gv⟩, hs'⟩
    · -- values whose elements may change
      rename_i r p
      have h1 := h
      obtain ⟨hn1, hn2⟩ := noDup_cons hio
      have fin : ∀ ob d h1 hc, st.ob r = some ob → ob.pend = none → OneRep Z.m .iov v d h1 → PartIo Z ob r p .iov v d.s h1 hc → (argsK g st ms as fun ds => kk (d :: ds)) = some y →
          ∃ ds H, kk ds = some y ∧ Given Z st mc (.iov :: ms) (.ov r p :: as) ds (v :: vs) H ∧ SubH Z (ioIds (.iov :: ms) (.ov r p :: as)) (tkIds (.iov :: ms) (.ov r p :: as)) H := by
        intro ob d h1 hc hob hpn r1 p1 h2
        obtain ⟨ds, H, hk, gv, hs⟩ := argsK_eq (ms := ms) (as := as) Rl hmc hrest h2 hrd hn2 htk (fun r hr q => hdj r hr (List.mem_cons_of_mem _ q))
        obtain ⟨sp, hs'⟩ := SubH.add Rl (io' := r :: ioIds ms as) (tk' := tkIds ms as) hs p1.1.left hn1 (fun q => hdj r q (List.mem_cons_self ..)) (.inl (List.mem_cons_self ..)) (fun x hx => List.mem_cons_of_mem _ hx) (fun x hx => hx)
        exact ⟨_, _, hk, ⟨ob, h1, hc, H, hob, hpn, r1, p1, sp, gv⟩, hs'⟩
      obtain ⟨ob, s, x, t, c, h2, A⟩ := atPlace_eq Rl h1
      have hv := A.ov hx
      cases t with
      | mem b off =>
        obtain ⟨p1, hc, r1, p2⟩ := part_iov Rl A
        rw [← hv] at r1 p2
        exact fin ob ⟨s, maskAt ob.o p, x⟩ p1 hc A.isOb A.pend r1 p2 h2
      | flt c2 =>
        have hp : hasIx p = false := by
          cases hh : hasIx p with
          | false => rfl
          | true => obtain ⟨b, off, e⟩ := res_mem p _ _ _ (.inr hh) A.res; cases e
        cases htp : Z.tops r with
        | mem b off => obtain ⟨b, off, e⟩ := res_mem p _ _ _ (.inl ⟨b, off, htp⟩) A.res; cases e
        | flt c0 =>
          obtain ⟨s9, x9, c9, p1, hc, k9, hpn, hres, r1, p2⟩ := part_flt Rl hp A.isOb htp h1
          have hA := A.res
          rw [hres] at hA
          simp only [Option.some.injEq, Prod.mk.injEq] at hA
          obtain ⟨es, et⟩ := hA
          subst es
          injection et with et
          have ec : c = c2 := A.cells
          rw [et, ← ec, ← hv] at r1 p2
          exact fin ob ⟨s9, maskAt ob.o p, x9⟩ p1 hc A.isOb hpn r1 p2 k9
    · -- what goes over
      rename_i s x
      obtain ⟨ds, H, hk, gv, hs⟩ := argsK_eq (ms := ms) (as := as) Rl hmc hrest h hrd hio htk hdj
      obtain ⟨c, e, r⟩ := hx
      exact ⟨_, H, hk, ⟨Hp.e, H, ⟨c, e, r⟩, Le.e _, Sp.e_left _, gv⟩, hs⟩
    · rename_i s
      obtain ⟨ds, H, hk, gv, hs⟩ := argsK_eq (ms := ms) (as := as) Rl hmc hrest h hrd hio htk hdj
      exact ⟨_, H, hk, ⟨Hp.e, H, ⟨_, hx, Rep_zero _ _ _⟩, Le.e _, Sp.e_left _, gv⟩, hs⟩
    · rename_i r
      split at h
      · rename_i ob0 hob0
        split at h
        · rename_i hmem hfix
          obtain ⟨ob, hob, hpn, h3⟩ := atPlace_nil Rl h
          rw [hob0] at hob; injection hob with hob; subst hob
          obtain ⟨hn1, hn2⟩ := noDup_cons htk
          obtain ⟨ds, H, hk, gv, hs⟩ := argsK_eq (ms := ms) (as := as) Rl hmc hrest h3 hrd hio hn2 (fun r hr => hdj r (List.mem_cons_of_mem _ hr))
          obtain ⟨c0, ht⟩ := not_mem_flt Rl hob0 hmem
          obtain ⟨r1, p1⟩ := part_nil Rl hob0 hpn ht
          obtain ⟨o', s', t', c', e1, e2, e3, e4⟩ := hx
          rw [hob0] at e1; injection e1 with e1; subst e1
          rw [res_nil, ht] at e2
          simp only [Option.some.injEq, Prod.mk.injEq] at e2
          obtain ⟨e5, e6⟩ := e2
          subst e5 e6
          have e3 : c' = c0 := e3
          subst e3
          obtain ⟨sp, hs'⟩ := SubH.add Rl (io' := ioIds ms as) (tk' := r :: tkIds ms as) hs (Le.refl (Z.hs r)) (hdj r (List.mem_cons_self ..)) hn1 (.inr (List.mem_cons_self ..)) (fun x hx => hx) (fun x hx => List.mem_cons_of_mem _ hx)
          rw [e4]
          refine ⟨_, _, hk, ⟨Z.hs r, H, r1, ?_, sp, gv⟩, hs'⟩
          show Le (Z.hs r) (Un (Z.hs r) Hp.e)
          exact Un.le_left _ _
        · cases h
      · cases h
    · rename_i r lo hi
      split at h
      · rename_i ob0 hob0
        split at h
        · rename_i hmem hfix
          obtain ⟨ob, s, x, t, c, h2, A⟩ := atPlace_eq Rl h
          have eob := A.isOb
          rw [hob0] at eob; injection eob with eob; subst eob
          split at h2
          · rename_i e s o1 xs hmk
            obtain ⟨hn1, hn2⟩ := noDup_cons htk
            obtain ⟨ds, H, hk, gv, hs⟩ := argsK_eq (ms := ms) (as := as) Rl hmc hrest h2 hrd hio hn2 (fun r hr => hdj r (List.mem_cons_of_mem _ hr))
            obtain ⟨ad, cap, ec, hc, h4, h5, h6, h7⟩ := osub_at A hx
            obtain ⟨hR, rep, hle⟩ := A.rep
            rw [hmk, ec] at rep
            obtain ⟨hB, hBle, rb⟩ := own_sub h4 h5 h6 hc rep
            obtain ⟨sp, hs'⟩ := SubH.add Rl (io' := ioIds ms as) (tk' := r :: tkIds ms as) hs (hBle.trans hle) (hdj r (List.mem_cons_self ..)) hn1 (.inr (List.mem_cons_self ..)) (fun x hx => hx) (fun x hx => List.mem_cons_of_mem _ hx)
            refine ⟨_, _, hk, ⟨hB, H, ⟨[.slice (if cap = lo.toNat then ad else ad.map (·.add (lo.toNat * s.size))) (hi.toNat - lo.toNat) (cap - lo.toNat)], h7, rb⟩, ?_, sp, gv⟩, hs'⟩
            show Le hB (Un (Z.hs r) Hp.e)
            exact (hBle.trans hle).trans (Un.le_left _ _)
          · cases h2
        · cases h
      · cases h
    · cases h
end
end Go.AE
namespace Go.AE
theorem Un_e_left (h : Hp) : Un Hp.e h = h := funext fun b => funext fun o => by simp [Un, Hp.e]
theorem Un_e_right (h : Hp) : Un h Hp.e = h := funext fun b => funext fun o => by simp [Un, Hp.e]
theorem Rep_noimm {m m' : Hp} : ∀ (s : S) (o : O) (h : Hp) (c : List Value) (x : den s), hasImm s o = false → Rep m s o h c x → Rep m' s o h c x
  | .int _, _, _, _, _, _, r => r
  | .bool, _, _, _, _, _, r => r
  | .str, _, _, _, _, _, r => r
  | .unit, _, _, _, _, _, r => r
  | .pair a b, o, h, c, x, hi, ⟨h1, h2, c1, c2, sp, e, r1, r2⟩ => by
    simp only [hasImm, Bool.or_eq_false_iff] at hi
    exact ⟨h1, h2, c1, c2, sp, e, Rep_noimm a _ _ _ _ hi.1 r1, Rep_noimm b _ _ _ _ hi.2 r2⟩
  | .sl _ s, .own o, h, c, xs, hi, r => by
    rcases r with r | ⟨b, off, cap, r1, r2, h2, e, g, l, sp, rl⟩
    · exact .inl r
    · exact .inr ⟨b, off, cap, r1, r2, h2, e, g, l, sp, RepL_imp (fun h c x => Rep_noimm s o h c x (by simpa [hasImm] using hi)) rl⟩
  | .sl _ s, .imm, h, c, xs, hi, r => by simp [hasImm] at hi
  | .sl _ s, .pr _ _, h, c, xs, hi, r => by simp [hasImm] at hi
  | .map _, .own o, h, c, xs, hi, r => r
  | .map _, .imm, h, c, xs, hi, r => by simp [hasImm] at hi
  | .map _, .pr _ _, h, c, xs, hi, r => by simp [hasImm] at hi
theorem RepT_noimm {m m' : Hp} {s : S} {o : O} {h : Hp} {t : Top} {x : den s} (hi : hasImm s o = false) (r : RepT m s o h t x) : RepT m' s o h t x := by
  cases t with
  | flt c => exact Rep_noimm s o _ _ _ hi r
  | mem b off => obtain ⟨c, h2, sp, r⟩ := r; exact ⟨c, h2, sp, Rep_noimm s o _ _ _ hi r⟩
theorem IosRep_noimm {m m' : Hp} : ∀ {ms : List Mode} {vs : List Value} {ds : List Dy} {h : Hp}, anyImm ds = false → IosRep m ms vs ds h → IosRep m' ms vs ds h
  | [], [], [], h, _, r => r
  | .io :: ms, v :: vs, d :: ds, h, hi, ⟨h1, h2, sp, ⟨b, off, e, r⟩, rr⟩ => by
    simp only [anyImm, Bool.or_eq_false_iff] at hi
    exact ⟨h1, h2, sp, ⟨b, off, e, RepT_noimm hi.1 r⟩, IosRep_noimm hi.2 rr⟩
  | .iov :: ms, v :: vs, d :: ds, h, hi, ⟨h1, h2, sp, ⟨c, e, r⟩, rr⟩ => by
    simp only [anyImm, Bool.or_eq_false_iff] at hi
    exact ⟨h1, h2, sp, ⟨c, e, Rep_noimm _ _ _ _ _ hi.1 r⟩, IosRep_noimm hi.2 rr⟩
  | .v :: ms, v :: vs, ds, h, hi, r => IosRep_noimm (ms := ms) (vs := vs) hi r
  | .rd :: ms, v :: vs, ds, h, hi, r => IosRep_noimm (ms := ms) (vs := vs) hi r
  | .nl :: ms, v :: vs, ds, h, hi, r => IosRep_noimm (ms := ms) (vs := vs) hi r
  | .tk :: ms, v :: vs, ds, h, hi, r => IosRep_noimm (ms := ms) (vs := vs) hi r
  | [], _ :: _, _, _, _, r => by simp [IosRep] at r
  | [], [], _ :: _, _, _, r => by simp [IosRep] at r
  | .io :: ms, [], ds, h, hi, r => by simp [IosRep] at r
  | .iov :: ms, [], ds, h, hi, r => by simp [IosRep] at r
  | .v :: ms, [], ds, h, hi, r => by simp [IosRep] at r
  | .rd :: ms, [], ds, h, hi, r => by simp [IosRep] at r
  | .nl :: ms, [], ds, h, hi, r => by simp [IosRep] at r
  | .tk :: ms, [], ds, h, hi, r => by simp [IosRep] at r
  | .io :: ms, _ :: _, [], h, hi, r => by simp [IosRep] at r
  | .iov :: ms, _ :: _, [], h, hi, r => by simp [IosRep] at r
theorem ResRep_noimm {m m' : Hp} : ∀ {bs : List Bool} {ds : List Dy} {vs : List Value} {h : Hp}, anyImm ds = false → ResRep m bs ds vs h → ResRep m' bs ds vs h
  | [], [], [], h, _, r => r
  | b :: bs, d :: ds, v :: vs, h, hi, ⟨h1, h2, sp, r, rr⟩ => by
    simp only [anyImm, Bool.or_eq_false_iff] at hi
    refine ⟨h1, h2, sp, ?_, ResRep_noimm hi.2 rr⟩
    cases b with
    | true => obtain ⟨b, off, e, r⟩ := r; exact ⟨b, off, e, RepT_noimm hi.1 r⟩
    | false => obtain ⟨c, e, r⟩ := r; exact ⟨c, e, Rep_noimm _ _ _ _ _ hi.1 r⟩
  | [], _ :: _, _, _, _, r => by simp [ResRep] at r
  | [], [], _ :: _, _, _, r => by simp [ResRep] at r
  | _ :: _, [], _, _, _, r => by simp [ResRep] at r
  | _ :: _, _ :: _, [], _, _, r => by simp [ResRep] at r
structure BE where
  ob : Ob
  N : Hp
  K : Hp
  b : Bool
def BE.Ok (Z : Sup) (st : St) (m' HT H' : Hp) (r : Nat) (e : BE) : Prop :=
  ∃ ob, st.ob r = some ob ∧ ob.pend = none ∧ e.ob.s = ob.s ∧ (e.ob.mem = ob.mem ∧ e.ob.fixed = ob.fixed) ∧ e.ob.pend = none ∧ RepT m' e.ob.s e.ob.o (Un e.N e.K) (Z.tops r) e.ob.x ∧ Le e.K (Z.hs r) ∧ Dj e.K HT ∧ (e.b = true → ob.mem = false) ∧ Le e.N H'
section
variable {P : Program} {tb : Hp} {C : Ctx tb} {Z : Sup} {st : St} {a : Act} {w w' : World} {g : Cfg} {o : Oper} {R : Type} {k : Eff → Option R} {y : R}
theorem BE.Ok.le {m' HT H' H'' : Hp} {r : Nat} {e : BE} (h : BE.Ok Z st m' HT H' r e) (hle : Le H' H'') : BE.Ok Z st m' HT H'' r e := by
  obtain ⟨ob, h1, h2, h3, h4, h5, h6, h7, h8, h9, h10⟩ := h
  exact ⟨ob, h1, h2, h3, h4, h5, h6, h7, h8, h9, h10.trans hle⟩
theorem back_step (Rl : Rel Z st a.tmps w) {m' HT H H2 H' H2' h1 hc h1' : Hp} {r : Nat} {p : Path} {ob : Ob} {md : Mode} {v : Value} {s : S} {o' o2 : O} {x' : den s} {b : Bool} {io tk : List Nat} (hm : Le Z.m m') (hob : st.ob r = some ob) (hp : ob.pend = none) (pio : PartIo Z ob r p md v s h1 hc)
    (sp : Sp H h1 H2) (sub : SubH Z io tk H2) (hr1 : r ∉ io) (hr2 : r ∉ tk) (hT : ∀ b o v, HT b o = some v → Z.hs r b o ≠ none → H b o = some v)
    (hd' : ∀ b o, H' b o ≠ none → HT b o ≠ none ∨ w.heap.size ≤ b) (sp' : Sp H' h1' H2') (rep : OneRep m' md v ⟨s, o', x'⟩ h1') (hset : setMask ob.o p o' = some o2) (hb : b = true → ob.mem = false)
    {kk : den ob.s → Option R} (hk : setK ob.s ob.x p s x' kk = some y) : ∃ x2, kk x2 = some y ∧ BE.Ok Z st m' HT H' r ⟨{ ob with x := x2, o := o2 }, h1', hc, b⟩ := by
  obtain ⟨psp, pback, _⟩ := pio
  have hcT : Dj hc HT := fun b' o' => by
    cases e1 : hc b' o' with
    | none => exact .inl rfl
    | some u =>
      right
      cases e2 : HT b' o' with
      | none => rfl
      | some u2 =>
        exfalso
        have e3 := psp.right _ _ _ e1
        have e4 := hT b' o' u2 e2 (by rw [e3]; simp)
        rcases sp.some e4 with z | z
        · rcases psp.dj b' o' with q | q
          · rw [z] at q; cases q
          · rw [e1] at q; cases q
        · obtain ⟨r', hr', z⟩ := sub _ _ _ z
          have hne : r ≠ r' := by
            intro q; subst q
            rcases hr' with q | q
            · exact hr1 q
            · exact hr2 q
          rcases Rl.dj r r' hne b' o' with q | q
          · rw [e3] at q; cases q
          · rw [z] at q; cases q
  have dj : Dj h1' hc := fun b' o' => by
    cases e1 : h1' b' o' with
    | none => exact .inl rfl
    | some u =>
      right
      cases e2 : hc b' o' with
      | none => rfl
      | some u2 =>
        exfalso
        rcases hd' b' o' (by rw [sp'.left _ _ _ e1]; simp) with z | z
        · rcases hcT b' o' with q | q
          · rw [e2] at q; cases q
          · exact z q
        · have := cell_lt (Rl.own r _ _ _ (psp.right _ _ _ e2)).1
          omega
  obtain ⟨x2, hk2, rt⟩ := pback m' h1' (Un h1' hc) o' o2 x' hm hset (Un.sp dj) rep kk y hk
  exact ⟨x2, hk2, ob, hob, hp, rfl, ⟨rfl, rfl⟩, hp, rt, psp.right, hcT, hb, sp'.left⟩
def putL (l : List (Nat × BE)) : List (Nat × Option Ob) := l.map fun e => (e.1, some e.2.ob)
def killL (l : List (Nat × BE)) : List (Nat × KK) := l.map fun e => (e.1, .wr e.2.b)
theorem Given_sub {mc : Hp} : ∀ {ms : List Mode} {as : List AV} {ds : List Dy} {vs : List Value} {h : Hp}, Given Z st mc ms as ds vs h → (∀ r r', r ≠ r' → Dj (Z.hs r) (Z.hs r')) → SubH Z (ioIds ms as) (tkIds ms as) h
  | [], [], [], [], h, gv, _ => by rw [show h = Hp.e from gv]; intro b o v e; cases e
  | .io :: ms, .ptr r p :: as, d :: ds, v :: vs, h, ⟨ob, h1, hc, h2, _, _, a1, pi, sp, gv⟩, dj => by
    intro b o v e
    rcases sp.some e with z | z
    · exact ⟨r, .inl (List.mem_cons_self ..), pi.1.left _ _ _ z⟩
    · obtain ⟨r', q, z⟩ := Given_sub gv dj _ _ _ z
      exact ⟨r', q.imp (List.mem_cons_of_mem _) id, z⟩
  | .iov :: ms, .ov r p :: as, d :: ds, v :: vs, h, ⟨ob, h1, hc, h2, _, _, a1, pi, sp, gv⟩, dj => by
    intro b o v e
    rcases sp.some e with z | z
    · exact ⟨r, .inl (List.mem_cons_self ..), pi.1.left _ _ _ z⟩
    · obtain ⟨r', q, z⟩ := Given_sub gv dj _ _ _ z
      exact ⟨r', q.imp (List.mem_cons_of_mem _) id, z⟩
  | .tk :: ms, x :: as, d :: ds, v :: vs, h, ⟨h1, h2, a1, hle, sp, gv⟩, dj => by
    intro b o v e
    have hmem : ∀ z, z ∈ tkIds ms as → z ∈ tkIds (.tk :: ms) (x :: as) := by
      intro z hz; cases x <;> simp [tkIds, hz]
    have hio : ∀ z, z ∈ ioIds ms as → z ∈ ioIds (.tk :: ms) (x :: as) := by
      intro z hz; cases x <;> simpa [ioIds] using hz
    rcases sp.some e with z | z
    · obtain ⟨r', q, z⟩ := uH_some (hle _ _ _ z)
      refine ⟨r', .inr ?_, z⟩
      cases x <;> simp [tkIds] at q ⊢ <;> exact .inl q
    · obtain ⟨r', q, z⟩ := Given_sub gv dj _ _ _ z
      exact ⟨r', q.imp (hio r') (hmem r'), z⟩
  | .v :: ms, x :: as, d :: ds, v :: vs, h, ⟨a1, gv⟩, dj => by
    intro b o v e
    obtain ⟨r', q, z⟩ := Given_sub gv dj _ _ _ e
    refine ⟨r', q.imp ?_ ?_, z⟩ <;> intro h <;> cases x <;> simpa [ioIds, tkIds] using h
  | .rd :: ms, x :: as, d :: ds, v :: vs, h, ⟨a1, gv⟩, dj => by
    intro b o v e
    obtain ⟨r', q, z⟩ := Given_sub gv dj _ _ _ e
    refine ⟨r', q.imp ?_ ?_, z⟩ <;> intro h <;> cases x <;> simpa [ioIds, tkIds] using h
  | .nl :: ms, x :: as, d :: ds, v :: vs, h, ⟨a1, gv⟩, dj => by
    intro b o v e
    obtain ⟨r', q, z⟩ := Given_sub gv dj _ _ _ e
    refine ⟨r', q.imp ?_ ?_, z⟩ <;> intro h <;> cases x <;> simpa [ioIds, tkIds] using h
theorem ioIds_nl (x : AV) (ms : List Mode) (as : List AV) : ioIds (.nl :: ms) (x :: as) = ioIds ms as := by cases x <;> rfl
theorem tkIds_nl (x : AV) (ms : List Mode) (as : List AV) : tkIds (.nl :: ms) (x :: as) = tkIds ms as := by cases x <;> rfl
theorem ioIds_tk (x : AV) (ms : List Mode) (as : List AV) : ioIds (.tk :: ms) (x :: as) = ioIds ms as := by cases x <;> rfl
theorem ioIds_v (x : AV) (ms : List Mode) (as : List AV) : ioIds (.v :: ms) (x :: as) = ioIds ms as := by cases x <;> rfl
theorem ioIds_rd (x : AV) (ms : List Mode) (as : List AV) : ioIds (.rd :: ms) (x :: as) = ioIds ms as := by cases x <;> rfl
theorem tkIds_v (x : AV) (ms : List Mode) (as : List AV) : tkIds (.v :: ms) (x :: as) = tkIds ms as := by cases x <;> rfl
theorem tkIds_rd (x : AV) (ms : List Mode) (as : List AV) : tkIds (.rd :: ms) (x :: as) = tkIds ms as := by cases x <;> rfl
theorem tkIds_tk (x : AV) (ms : List Mode) (as : List AV) : tkIds (.tk :: ms) (x :: as) = tkIds [.tk] [x] ++ tkIds ms as := by cases x <;> rfl
def BackOk (Z : Sup) (st : St) (m' HT H' : Hp) (ids : List Nat) (kk : List (Nat × Option Ob) → List (Nat × KK) → Option R) (y : R) : Prop :=
  ∃ l : List (Nat × BE), kk (putL l) (killL l) = some y ∧ l.map (·.1) = ids ∧ (∀ e ∈ l, BE.Ok Z st m' HT H' e.1 e.2) ∧ l.Pairwise fun e f => Dj e.2.N f.2.N
theorem back_cons (Rl : Rel Z st a.tmps w) {m' HT H H2 H' h1 hc h1' h2' : Hp} {r : Nat} {p : Path} {ob : Ob} {md : Mode} {v : Value} {d d' : Dy} {o2 : O} {b : Bool} {io tk : List Nat} (hm : Le Z.m m') (hob : st.ob r = some ob) (hp : ob.pend = none) (pio : PartIo Z ob r p md v d.s h1 hc)
    (sp : Sp H h1 H2) (sub : SubH Z io tk H2) (hr1 : r ∉ io) (hr2 : r ∉ tk) (hT : ∀ b o v, HT b o = some v → Z.hs r b o ≠ none → H b o = some v)
    (hd' : ∀ b o, H' b o ≠ none → HT b o ≠ none ∨ w.heap.size ≤ b) (sp' : Sp H' h1' h2') (rep : OneRep m' md v d' h1') (hset : setMask ob.o p d'.o = some o2) (hb : b = true → ob.mem = false)
    {rest : (List (Nat × Option Ob) → List (Nat × KK) → Option R) → Option R} {kk : List (Nat × Option Ob) → List (Nat × KK) → Option R}
    (hk : setK ob.s ob.x p d'.s d'.x (fun x' => rest fun u q => kk ((r, some { ob with x := x', o := o2 }) :: u) ((r, .wr b) :: q)) = some y)
    (ih : ∀ kk' : List (Nat × Option Ob) → List (Nat × KK) → Option R, rest kk' = some y → BackOk Z st m' HT h2' io kk' y) : BackOk Z st m' HT H' (r :: io) kk y := by
  obtain ⟨s', o', x'⟩ := d'
  have hs : s' = d.s := by
    have := setK_shape _ _ _ _ _ _ _ hk
    rw [pio.2.2] at this; injection this with this; exact this.symm
  have hs2 : d.s = s' := hs.symm
  obtain ⟨s, oo, xx⟩ := d
  simp only at hs hs2 pio
  subst hs
  obtain ⟨x2, hk2, ok⟩ := back_step Rl hm hob hp pio sp sub hr1 hr2 hT hd' sp' rep hset hb hk
  obtain ⟨l, g1, g2, g3, g4⟩ := ih _ hk2
  refine ⟨(r, ⟨{ ob with x := x2, o := o2 }, h1', hc, b⟩) :: l, g1, by simp [g2], ?_, ?_⟩
  · intro e he
    cases he with
    | head => exact ok
    | tail _ he => exact (g3 e he).le sp'.right
  · refine List.Pairwise.cons ?_ g4
    intro e he
    obtain ⟨_, _, _, _, _, _, _, _, _, _, hN⟩ := g3 e he
    exact sp'.dj.le (Le.refl _) hN
theorem backK_eq (Rl : Rel Z st a.tmps w) {mc m' HT : Hp} (hm : Le Z.m m') : ∀ {ms : List Mode} {as : List AV} {ds : List Dy} {vs : List Value} {H H' : Hp} {ios : List Dy} {kk : List (Nat × Option Ob) → List (Nat × KK) → Option R} {y : R},
    Given Z st mc ms as ds vs H → IosRep m' ms vs ios H' → backK st ms as ios kk = some y → noDup (ioIds ms as) = true → (∀ r ∈ tkIds ms as, r ∉ ioIds ms as) →
    (∀ r ∈ ioIds ms as, ∀ b o v, HT b o = some v → Z.hs r b o ≠ none → H b o = some v) → (∀ b o, H' b o ≠ none → HT b o ≠ none ∨ w.heap.size ≤ b) →
    BackOk Z st m' HT H' (ioIds ms as) kk y
  | [], [], [], [], H, H', ios, kk, y, gv, ir, h, _, _, _, _ => by
    match ios, ir with
    | [], _ => exact ⟨[], h, rfl, by simp, List.Pairwise.nil⟩
  | .io :: ms, .ptr r p :: as, d :: ds, v :: vs, H, H', ios, kk, y, ⟨ob, h1, hc, h2, hob, hp, a1, pi, sp, gv⟩, ir, h, hio, htk, hT, hd' => by
    match ios, ir with
    | d' :: ios, ⟨h1', h2', sp', r1, ir⟩ =>
    obtain ⟨hn1, hn2⟩ := noDup_cons hio
    simp only [backK, hob] at h
    split at h
    · rename_i o2 hset
      have sub := Given_sub gv Rl.dj
      refine back_cons Rl hm hob hp pi sp sub hn1 (fun q => htk r q (List.mem_cons_self ..)) (hT r (List.mem_cons_self ..)) hd' sp' r1 hset (by simp) h ?_
      intro kk' hk'
      refine backK_eq Rl hm gv ir hk' hn2 (fun r hr q => htk r hr (List.mem_cons_of_mem _ q)) ?_ (fun b o hh => hd' b o (by
        cases e1 : h2' b o with
        | none => exact absurd e1 hh
        | some u => rw [sp'.right _ _ _ e1]; simp))
      intro r' hr' b o u e1 e2
      rcases sp.some (hT r' (List.mem_cons_of_mem _ hr') b o u e1 e2) with z | z
      · exfalso
        have hne : r ≠ r' := fun q => hn1 (q ▸ hr')
        rcases Rl.dj r r' hne b o with q | q
        · rw [pi.1.left _ _ _ z] at q; cases q
        · exact e2 q
      · exact z
    · cases h
  | .iov :: ms, .ov r p :: as, d :: ds, v :: vs, H, H', ios, kk, y, ⟨ob, h1, hc, h2, hob, hp, a1, pi, sp, gv⟩, ir, h, hio, htk, hT, hd' => by
    match ios, ir with
    | d' :: ios, ⟨h1', h2', sp', r1, ir⟩ =>
    obtain ⟨hn1, hn2⟩ := noDup_cons hio
    simp only [backK, hob] at h
    split at h
    · rename_i o2 hset
      have sub := Given_sub gv Rl.dj
      refine back_cons Rl hm hob hp pi sp sub hn1 (fun q => htk r q (List.mem_cons_self ..)) (hT r (List.mem_cons_self ..)) hd' sp' r1 hset (by simp) h ?_
      intro kk' hk'
      refine backK_eq Rl hm gv ir hk' hn2 (fun r hr q => htk r hr (List.mem_cons_of_mem _ q)) ?_ (fun b o hh => hd' b o (by
        cases e1 : h2' b o with
        | none => exact absurd e1 hh
        | some u => rw [sp'.right _ _ _ e1]; simp))
      intro r' hr' b o u e1 e2
      rcases sp.some (hT r' (List.mem_cons_of_mem _ hr') b o u e1 e2) with z | z
      · exfalso
        have hne : r ≠ r' := fun q => hn1 (q ▸ hr')
        rcases Rl.dj r r' hne b o with q | q
        · rw [pi.1.left _ _ _ z] at q; cases q
        · exact e2 q
      · exact z
    · cases h
  | .tk :: ms, x :: as, d :: ds, v :: vs, H, H', ios, kk, y, ⟨h1, h2, a1, hle, sp, gv⟩, ir, h, hio, htk, hT, hd' => by
    rw [ioIds_tk] at hio htk hT ⊢
    rw [tkIds_tk] at htk
    have h' : backK st ms as ios kk = some y := by cases x <;> exact h
    refine backK_eq Rl hm gv ir h' hio (fun r hr => htk r (List.mem_append_right _ hr)) ?_ hd'
    intro r' hr' b o u e1 e2
    rcases sp.some (hT r' hr' b o u e1 e2) with z | z
    · exfalso
      obtain ⟨r, hr, z⟩ := uH_some (hle _ _ _ z)
      have hne : r ≠ r' := fun q => htk r (List.mem_append_left _ hr) (q ▸ hr')
      rcases Rl.dj r r' hne b o with q | q
      · rw [z] at q; cases q
      · exact e2 q
    · exact z
  | .v :: ms, x :: as, d :: ds, v :: vs, H, H', ios, kk, y, ⟨a1, gv⟩, ir, h, hio, htk, hT, hd' => by
    rw [ioIds_v] at hio htk hT ⊢
    rw [tkIds_v] at htk
    have h' : backK st ms as ios kk = some y := by cases x <;> exact h
    exact backK_eq Rl hm gv ir h' hio htk hT hd'
  | .rd :: ms, x :: as, d :: ds, v :: vs, H, H', ios, kk, y, ⟨a1, gv⟩, ir, h, hio, htk, hT, hd' => by
    rw [ioIds_rd] at hio htk hT ⊢
    rw [tkIds_rd] at htk
    have h' : backK st ms as ios kk = some y := by cases x <;> exact h
    exact backK_eq Rl hm gv ir h' hio htk hT hd'
  | .nl :: ms, x :: as, d :: ds, v :: vs, H, H', ios, kk, y, ⟨a1, gv⟩, ir, h, hio, htk, hT, hd' => by
    rw [ioIds_nl] at hio htk hT ⊢
    rw [tkIds_nl] at htk
    have h' : backK st ms as ios kk = some y := by cases x <;> exact h
    exact backK_eq Rl hm gv ir h' hio htk hT hd'
end
end Go.AE
namespace Go.AE
structure RE where
  ob : Ob
  h : Hp
  t : Top
def RE.Ok (m' : Hp) (e : RE) : Prop := e.ob.pend = none ∧ (e.ob.mem = true ↔ ∃ b off, e.t = .mem b off) ∧ RepT m' e.ob.s e.ob.o e.h e.t e.ob.x
def RelRes (l : List (Nat × RE)) (mf : Hp) : AV → Value → Prop
  | .ptr id [], v => ∃ e, (id, e) ∈ l ∧ ∃ b off, e.t = .mem b off ∧ v = .pointer (some ⟨b, off, none⟩)
  | .ov id [], v => ∃ e, (id, e) ∈ l ∧ ∃ c, e.t = .flt c ∧ v = mkVal e.ob.s c
  | .pv s x, v => ∃ c, v = mkVal s c ∧ Rep mf s .imm Hp.e c x
  | _, _ => False
theorem RelRes.mono {l l' : List (Nat × RE)} {mf mf' : Hp} (hl : ∀ e ∈ l, e ∈ l') (hm : Le mf mf') {x : AV} {v : Value} (h : RelRes l mf x v) : RelRes l' mf' x v := by
  unfold RelRes at h ⊢
  split at h
  · obtain ⟨e, h1, h2⟩ := h; exact ⟨e, hl _ h1, h2⟩
  · obtain ⟨e, h1, h2⟩ := h; exact ⟨e, hl _ h1, h2⟩
  · obtain ⟨c, h1, h2⟩ := h; exact ⟨c, h1, Rep_mono hm _ _ _ _ _ h2⟩
  · exact h.elim
def putR (l : List (Nat × RE)) : List (Nat × Option Ob) := l.map fun e => (e.1, some e.2.ob)
def killR (l : List (Nat × RE)) : List (Nat × KK) := l.map fun e => (e.1, .all)
theorem resAV_eq {keep : Bool} {d : Nat} {m' : Hp} : ∀ {i : Nat} {ps : List Bool} {res : List Dy} {vs : List Value} {HR : Hp} {as : List AV} {us : List (Nat × Option Ob)} {ks : List (Nat × KK)},
    resAV keep d i ps res = some (as, us, ks) → ResRep m' ps res vs HR → Dj m' HR →
    ∃ (l : List (Nat × RE)) (hfz : Hp), us = putR l ∧ ks = killR l ∧ (∀ e ∈ l, RE.Ok m' e.2 ∧ Le e.2.h HR ∧ newId d + 1000 * i ≤ e.1) ∧ (l.Pairwise fun e f => e.1 ≠ f.1 ∧ Dj e.2.h f.2.h) ∧
      Le hfz HR ∧ (∀ e ∈ l, Dj hfz e.2.h) ∧ All2 (RelRes l (Un m' hfz)) as vs
  | i, [], [], vs, HR, as, us, ks, h, r, dj => by
    match vs, r with
    | [], r =>
      simp only [resAV, Option.some.injEq, Prod.mk.injEq] at h
      obtain ⟨e1, e2, e3⟩ := h
      subst e1 e2 e3
      exact ⟨[], Hp.e, rfl, rfl, by simp, List.Pairwise.nil, Le.e _, by simp, trivial⟩
  | i, b :: bs, y :: ys, vs, HR, as, us, ks, h, r, dj => by
    match vs, r with
    | v :: vs, ⟨h1, h2, sp, r1, rr⟩ =>
      simp only [resAV] at h
      split at h
      · cases h
      · rename_i as0 us0 ks0 he
        obtain ⟨l, hfz, e1, e2, e3, e4, e5, e6, e7⟩ := resAV_eq he rr (dj.le (Le.refl _) sp.right)
        subst e1 e2
        have hlen : Le (Un m' hfz) (Un m' hfz) := Le.refl _
        have new : ∀ (x : AV) (ob : Ob) (t : Top), RE.Ok m' ⟨ob, h1, t⟩ → RelRes [(newId d + 1000 * i, ⟨ob, h1, t⟩)] (Un m' hfz) x v → as = x :: as0 → us = (newId d + 1000 * i, some ob) :: putR l → ks = (newId d + 1000 * i, KK.all) :: killR l →
            ∃ (l : List (Nat × RE)) (hfz : Hp), us = putR l ∧ ks = killR l ∧ (∀ e ∈ l, RE.Ok m' e.2 ∧ Le e.2.h HR ∧ newId d + 1000 * i ≤ e.1) ∧ (l.Pairwise fun e f => e.1 ≠ f.1 ∧ Dj e.2.h f.2.h) ∧
              Le hfz HR ∧ (∀ e ∈ l, Dj hfz e.2.h) ∧ All2 (RelRes l (Un m' hfz)) as (v :: vs) := by
          intro x ob t ok rel q1 q2 q3
          subst q1 q2 q3
          refine ⟨(newId d + 1000 * i, ⟨ob, h1, t⟩) :: l, hfz, rfl, rfl, ?_, ?_, e5.trans sp.right, ?_, ?_, ?_⟩
          · intro e he
            cases he with
            | head => exact ⟨ok, sp.left, Nat.le_refl _⟩
            | tail _ he =>
              obtain ⟨z1, z2, z3⟩ := e3 e he
              exact ⟨z1, z2.trans sp.right, by omega⟩
          · refine List.Pairwise.cons (fun e he => ?_) e4
            obtain ⟨z1, z2, z3⟩ := e3 e he
            exact ⟨by show newId d + 1000 * i ≠ e.1; omega, sp.dj.le (Le.refl _) z2⟩
          · intro e he
            cases he with
            | head => exact (sp.dj.le (Le.refl _) e5).symm
            | tail _ he => exact e6 e he
          · exact rel.mono (fun e he => by cases he with | head => exact List.mem_cons_self .. | tail _ he => cases he) (Le.refl _)
          · exact e7.imp fun x hx b hb => hb.mono (fun e he => List.mem_cons_of_mem _ he) (Le.refl _)
        cases b with
        | true =>
          simp only [cond_true, Option.some.injEq, Prod.mk.injEq] at h
          obtain ⟨q1, q2, q3⟩ := h
          obtain ⟨b, off, ev, rt⟩ := r1
          exact new (.ptr (newId d + 1000 * i) []) { s := y.s, o := y.o, x := y.x, mem := true } (.mem b off) ⟨rfl, ⟨fun _ => ⟨b, off, rfl⟩, fun _ => rfl⟩, rt⟩ ⟨_, List.mem_cons_self .., b, off, rfl, ev⟩ q1.symm q2.symm q3.symm
        | false =>
          simp only [cond_false] at h
          obtain ⟨c, ev, rt⟩ := r1
          rcases Bool.eq_false_or_eq_true (keep && !clean y.s y.o) with hb | hb
          · rw [hb] at h
            simp only [cond_true, Option.some.injEq, Prod.mk.injEq] at h
            obtain ⟨q1, q2, q3⟩ := h
            exact new (.ov (newId d + 1000 * i) []) { s := y.s, o := y.o, x := y.x } (.flt c) ⟨rfl, ⟨fun h => (by cases h), fun ⟨_, _, h⟩ => (by cases h)⟩, rt⟩ ⟨_, List.mem_cons_self .., c, rfl, ev⟩ q1.symm q2.symm q3.symm
          · rw [hb] at h
            simp only [cond_false, Option.some.injEq, Prod.mk.injEq] at h
            obtain ⟨q1, q2, q3⟩ := h
            subst q1 q2 q3
            have dh : Dj h1 hfz := sp.dj.le (Le.refl _) e5
            have hle : Le (Un h1 hfz) HR := by
              intro b o u e
              rcases (Un.sp dh).some e with z | z
              · exact sp.left _ _ _ z
              · exact sp.right _ _ _ (e5 _ _ _ z)
            have djf : Dj m' (Un h1 hfz) := dj.le (Le.refl _) hle
            refine ⟨l, Un h1 hfz, rfl, rfl, ?_, e4, hle, ?_, ?_, ?_⟩
            · intro e he
              obtain ⟨z1, z2, z3⟩ := e3 e he
              exact ⟨z1, z2.trans sp.right, by omega⟩
            · intro e he b o
              rcases sp.dj.le (Le.refl _) (e3 e he).2.1 b o with z | z
              · rcases e6 e he b o with z2 | z2
                · left; simp [Un, z, z2]
                · exact .inr z2
              · exact .inr z
            · refine ⟨c, ev, Rep_mono (Un.le_of (Un.le_left _ _) djf) _ _ _ _ _ (Rep_freeze (dj.le (Le.refl _) sp.left) rt)⟩
            · exact e7.imp fun x hx b hb => hb.mono (fun e he => he) (Un.le_of (Un.le_right dh) djf)
  | _, [], _ :: _, vs, HR, as, us, ks, h, r, dj => by simp [resAV] at h
  | _, _ :: _, [], vs, HR, as, us, ks, h, r, dj => by simp [resAV] at h
end Go.AE
