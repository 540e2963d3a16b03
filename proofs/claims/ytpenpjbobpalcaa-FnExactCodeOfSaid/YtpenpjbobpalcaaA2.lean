/- The abstract evaluator of the program's own code, and its soundness: part 2. -/
import Derived.Test.YtpenpjbobpalcaaA1
import Derived.Laws.StructEq
import Derived.Laws.BytesString
namespace Go.AE
section
variable {P : Program} {tb : Hp} {C : Ctx tb} {Z : Sup} {st : St} {a : Act} {w : World} {g : Cfg} {o : Oper} {R : Type} {k : Eff → Option R} {y : R}
theorem part_int {t : TypeId} {k : IntKind} (hu : P.underlying t = some (.int k)) {xs : Array Value} {off : Nat} {v : Value} (hx : xs[off]? = some v) : (part t xs off).run P w = .ok v w := by
  simp [part, isAgg, run_underlying hu, hx]
theorem at_pre {A : Type} {pre l : List A} {v : A} {n : Nat} (h : pre.length = n) : (pre ++ v :: l).toArray[n]? = some v := by
  subst h; simp
theorem eqFields_run {m : Hp} {d : Nat} : ∀ (s : S) (off : Nat) (fs : List Field) (x y : den s) (o o' : O) (h h' : Hp) (cx cy pre pre' : List Value) (v : Bool), eqFieldsB P s off fs = true → pre.length = off → pre'.length = off → Rep m s o h cx x → Rep m s o' h' cy y → eqS s x y = some v →
    (Op.eqFields (d + 1) (pre ++ cx).toArray (pre' ++ cy).toArray fs).run P w = .ok v w := by
  intro s
  induction s with
  | unit =>
    intro off fs x y o o' h h' cx cy pre pre' v hf h1 h2 r1 r2 he
    cases fs with
    | nil => simp only [eqS] at he; injection he with he; subst he; rfl
    | cons f fs => simp [eqFieldsB] at hf
  | pair a b _ ihb =>
    intro off fs x y o o' h h' cx cy pre pre' v hf h1 h2 r1 r2 he
    cases a with
    | int k =>
      cases fs with
      | nil => simp [eqFieldsB] at hf
      | cons f fs =>
        simp only [eqFieldsB, Bool.and_eq_true, Bool.not_eq_true'] at hf
        obtain ⟨⟨⟨f1, f2⟩, f3⟩, f4⟩ := hf
        have f1 := Nat.eq_of_beq_eq_true f1
        have f2 : f.name ≠ "_" := by
          intro e; rw [e] at f2; simp at f2
        have hu : P.underlying f.type = some (.int k) := by
          split at f3
          · rename_i k' hk
            split at f3
            · rename_i e _; rw [hk, e]
            · cases f3
          · cases f3
        obtain ⟨g1, g2, c1, c2, _, e1, q1, q2⟩ := r1
        obtain ⟨g3, g4, c3, c4, _, e2, q3, q4⟩ := r2
        obtain ⟨_, e3⟩ := q1
        obtain ⟨_, e4⟩ := q3
        subst e3 e4
        rw [e1, e2]
        simp only [List.cons_append, List.nil_append]
        simp only [eqS] at he
        split at he
        · rename_i u hu2
          injection he with he
          have hr := ihb (off + 1) fs x.2 y.2 _ _ _ _ c2 c4 (pre ++ [.int k x.1]) (pre' ++ [.int k y.1]) u f4 (by simp [h1]) (by simp [h2]) q2 q4 hu2
          simp only [List.append_assoc, List.cons_append, List.nil_append] at hr
          simp only [Op.eqFields, if_pos f2, Sem.run_bind]
          rw [part_int hu (at_pre (by rw [f1]; exact h1)), Result.andThen_ok, part_int hu (at_pre (by rw [f1]; exact h2)), Result.andThen_ok, run_equalIn_int w d f.type k k x.1 y.1 hu, Result.andThen_ok]
          cases hb : (x.1 == y.1) with
          | true =>
            simp only [Bool.not_true, Bool.false_eq_true, if_false]
            rw [hr, ← he]
            simp [pAnd2, pEq, hb]
          | false =>
            simp only [Bool.not_false, if_true, Sem.run_pure]
            rw [← he]
            simp [pAnd2, pEq, hb]
        · cases he
    | _ => simp [eqFieldsB] at hf
  | _ => intro off fs x y o o' h h' cx cy pre pre' v hf; simp [eqFieldsB] at hf
theorem eqS_run {m : Hp} {t : TypeId} {s : S} {x y : den s} {o o' : O} {h h' : Hp} {cx cy : List Value} {v : Bool} (hq : eqOk P t s = true) (r1 : Rep m s o h cx x) (r2 : Rep m s o' h' cy y) (he : eqS s x y = some v) :
    (binOp .eql t (.agg cx.toArray) (.agg cy.toArray)).run P w = .ok (.bool v) w ∧ (binOp .neq t (.agg cx.toArray) (.agg cy.toArray)).run P w = .ok (.bool (!v)) w ∧ P.eqGuardType P.depth t = false := by
  simp only [eqOk, Bool.and_eq_true, Bool.not_eq_true'] at hq
  obtain ⟨⟨h1, h2⟩, h3⟩ := hq
  cases hu : P.underlying t with
  | none => simp [hu] at h1
  | some d =>
    cases d with
    | struct fs =>
      simp only [hu] at h1
      have hf : P.fieldsOf t = fs := by unfold Program.fieldsOf; rw [hu]
      have hs : P.underlying t = some (.struct (P.fieldsOf t)) := by rw [hf]; exact hu
      have := eqFields_run (w := w) (d := 9998) s 0 fs.toList x y o o' h h' cx cy [] [] v h1 rfl rfl r1 r2 he
      simp only [List.nil_append] at this
      have hr : (Op.equalIn 10000 t (.agg cx.toArray) (.agg cy.toArray)).run P w = .ok v w := by
        rw [run_equalIn_agg w 9999 t _ _ hs h2, hf]; exact this
      refine ⟨?_, ?_, h3⟩
      · rw [run_eql_struct, hr]; rfl
      · rw [run_neq_struct, hr]; rfl
    | _ => simp [hu] at h1
theorem op_binOp (hg : tableOk P g.ty = true) (hd : a.defers = []) (Rl : Rel Z st a.tmps w) (F : Fr C Z w) {op : BinOp} {t tz : TypeId} {x z : Operand} (ho : o.op = .binOp op t x z tz) (hz0 : isNilC z = false)
    (h : opSem g st o k = some y) : Ok P C Z st o a w k y := by
  simp only [opSem, ho, hz0, cond_false] at h
  unfold evalT at h
  split at h
  · rename_i q m q' n hx hz
    have vx := eval_int Rl hx
    have vz := eval_int Rl hz
    split at h
    · split at h
      · rename_i e _
        subst e
        obtain ⟨hb, h⟩ := ifB_false h
        have hb : n ≠ 0 := by intro e; subst e; simp [pEq] at hb
        exact ok_value hd Rl F h (rel_int.2 rfl) (by simp [execOp, ho, vx, vz, run_guard_int, binOp, Op.intDiv, hb, pQuo])
      · cases h
    · split at h
      · rename_i e _
        subst e
        obtain ⟨hb, h⟩ := ifB_false h
        have hb : n ≠ 0 := by intro e; subst e; simp [pEq] at hb
        exact ok_value hd Rl F h (rel_int.2 rfl) (by simp [execOp, ho, vx, vz, run_guard_int, binOp, Op.intDiv, hb, pRem])
      · cases h
    · obtain ⟨hb, h⟩ := ifB_false h
      have hb : ¬ n < 0 := by simpa [pLt] using hb
      exact ok_value hd Rl F h (rel_int.2 rfl) (by simp [execOp, ho, vx, vz, run_guard_int, binOp, Op.shift, hb, pShl])
    · obtain ⟨hb, h⟩ := ifB_false h
      have hb : ¬ n < 0 := by simpa [pLt] using hb
      exact ok_value hd Rl F h (rel_int.2 rfl) (by simp [execOp, ho, vx, vz, run_guard_int, binOp, Op.shift, hb, pShr])
    · split at h
      · rename_i e _
        subst e
        split at h
        · cases h
        · rename_i v hne
          obtain ⟨u, hrun, hrel⟩ := bin_run (P := P) (w := w) (t := t) rfl hne
          exact ok_value hd Rl F h (hrel _ _) (by simp [execOp, ho, vx, vz, run_guard_int, hrun])
      · cases h
  · rename_i m n hx hz
    have vx := eval_str Rl hx
    have vz := eval_str Rl hz
    split at h
    · obtain ⟨hf, h⟩ := ifB_true h
      have hf : m.size + n.size ≤ 68719476736 := by simpa [pFitS] using hf
      have hf2 : ¬ ((m.size : Int) + (n.size : Int) > IntKind.i64.max) := by
        have : IntKind.i64.max = 9223372036854775807 := by decide
        omega
      refine ok_value hd Rl F h (rel_str.2 rfl) ?_
      have hf3 : ¬ IntKind.i64.max < (m.size : Int) + (n.size : Int) := by omega
      simp [execOp, ho, vx, vz, run_guard_str, binOp, Op.stringOp, pCat]
      omega
    · exact ok_value hd Rl F h (rel_bool.2 rfl) (by simp [execOp, ho, vx, vz, run_guard_str, binOp, Op.stringOp, pSEq])
    · exact ok_value hd Rl F h (rel_bool.2 rfl) (by simp [execOp, ho, vx, vz, run_guard_str, binOp, Op.stringOp, pSEq, pNot])
    · exact ok_value hd Rl F h (rel_bool.2 rfl) (by simp [execOp, ho, vx, vz, run_guard_str, binOp, Op.stringOp, pSLt])
    · exact ok_value hd Rl F h (rel_bool.2 rfl) (by simp [execOp, ho, vx, vz, run_guard_str, binOp, Op.stringOp, pSEq, pSLt, pOr2])
    · exact ok_value hd Rl F h (rel_bool.2 rfl) (by simp [execOp, ho, vx, vz, run_guard_str, binOp, Op.stringOp, pSEq, pSLt, pOr2, pNot])
    · exact ok_value hd Rl F h (rel_bool.2 rfl) (by simp [execOp, ho, vx, vz, run_guard_str, binOp, Op.stringOp, pSLt, pNot])
    · cases h
  · rename_i m n hx hz
    have vx := eval_bool Rl hx
    have vz := eval_bool Rl hz
    split at h
    · rename_i hu
      have ht := typeOk_bool (tableOk_at hg hu)
      exact ok_value hd Rl F h (rel_bool.2 rfl) (by simp [execOp, ho, vx, vz, run_guard_bool, run_eql_bool w t m n ht, pBeq])
    · rename_i hu
      have ht := typeOk_bool (tableOk_at hg hu)
      exact ok_value hd Rl F h (rel_bool.2 rfl) (by simp [execOp, ho, vx, vz, run_guard_bool, run_neq_bool w t m n ht, pBeq, pNot])
    · cases h
  · rename_i a1 b1 m a2 b2 n hx hz
    obtain ⟨h2, h⟩ := cond_some h
    split at h
    · rename_i s0 hs0
      have hq := tableOk_eq hg hs0 h2
      obtain ⟨e1, h⟩ := cast?_eq h
      obtain ⟨e2, h⟩ := cast?_eq h
      subst e1
      injection e2 with e2 e3
      subst e2 e3
      obtain ⟨c1, v1, r1⟩ : RelAV Z st.ob (.pv _ m) (a.eval x) := hx ▸ eval_rel Rl _ x
      obtain ⟨c2, v2, r2⟩ : RelAV Z st.ob (.pv _ n) (a.eval z) := hz ▸ eval_rel Rl _ z
      have vx : a.eval x = .agg c1.toArray := v1
      have vz : a.eval z = .agg c2.toArray := v2
      have h : cmpK op (eqS (.pair a2 b2) m n) _ = some y := h
      cases he : eqS (.pair a2 b2) m n with
      | none => rw [he] at h; cases h
      | some e =>
        rw [he] at h
        obtain ⟨q1, q2, q3⟩ := eqS_run (w := w) hq r1 r2 he
        cases op with
        | eql => exact ok_value hd Rl F h (rel_bool.2 rfl) (by simp [execOp, ho, vx, vz, run_eqGuard_agg w _ t _ _ _ _ q3, q1])
        | neq => exact ok_value hd Rl F h (rel_bool.2 rfl) (by simp [execOp, ho, vx, vz, run_eqGuard_agg w _ t _ _ _ _ q3, q2, pNot])
        | _ => cases h
    · cases h
  · cases h
theorem op_unOp (hd : a.defers = []) (Rl : Rel Z st a.tmps w) (F : Fr C Z w) {op : UnOp} {t : TypeId} {x : Operand} (ho : o.op = .unOp op t x)
    (h : opSem g st o k = some y) : Ok P C Z st o a w k y := by
  simp only [opSem, ho] at h
  split at h
  · rename_i b hx
    have vx := eval_bool Rl hx
    exact ok_value hd Rl F h (rel_bool.2 rfl) (by simp [execOp, ho, vx, Op.unary, pNot])
  · rename_i q n hx
    have vx := eval_int Rl hx
    exact ok_value hd Rl F h (rel_int.2 rfl) (by simp [execOp, ho, vx, Op.unary, Op.intArith, pSub])
  · cases h
theorem cellsAt_uniq {h : Hp} {t : Top} {n : Nat} {c c' : List Value} (hc : cellsAt h t n c) (hc' : cellsAt h t n c') : c = c' := by
  cases t with
  | flt d => exact hc.trans hc'.symm
  | mem b off =>
    obtain ⟨l, e⟩ := hc
    obtain ⟨l', e'⟩ := hc'
    apply List.ext_getElem?
    intro j
    by_cases hj : j < n
    · have h1 := e j _ (List.getElem?_eq_getElem (l := c) (by omega))
      have h2 := e' j _ (List.getElem?_eq_getElem (l := c') (by omega))
      rw [h1] at h2
      rw [List.getElem?_eq_getElem (by omega), List.getElem?_eq_getElem (by omega), Cel.v.inj (Option.some.inj h2)]
    · rw [List.getElem?_eq_none (by omega), List.getElem?_eq_none (by omega)]
theorem RepT_cells {m : Hp} {s : S} {q : O} {h k : Hp} {t : Top} {x : den s} (r : RepT m s q h t x) (hk : Le h k) :
    ∃ c hR, cellsAt k t s.size c ∧ Rep m s q hR c x ∧ Le hR h := by
  cases t with
  | flt c => exact ⟨c, h, rfl, r, Le.refl _⟩
  | mem b off =>
    obtain ⟨c, h2, sp, r⟩ := r
    refine ⟨c, h2, ⟨Rep_len _ _ _ _ _ _ r, fun j v e => hk _ _ _ (sp.left _ _ _ ?_)⟩, r, sp.right⟩
    exact blk_v e
structure At (Z : Sup) (st : St) (r : Nat) (p : Path) (ob : Ob) (s : S) (x : den s) (t : Top) (c : List Value) : Prop where
  isOb : st.ob r = some ob
  pend : ob.pend = none
  ownP : ownP ob.o p = true
  sh : shapeAt ob.s p = some s
  res : res (Z.hs r) ob.s (Z.tops r) p = some (s, t)
  rse : Z.rs r = Z.hs r
  cells : cellsAt (Z.hs r) t s.size c
  rep : ∃ hR, Rep Z.m s (maskAt ob.o p) hR c x ∧ Le hR (Z.hs r)
  rept : ∃ hs hc, Sp (Z.hs r) hs hc ∧ RepT Z.m s (maskAt ob.o p) hs t x ∧ Back Z.m ob.s ob.o hc (Z.tops r) ob.x p s t ∧ (∀ h', Le hc h' → AE.res h' ob.s (Z.tops r) p = some (s, t)) ∧ Asd ob.o (Z.hs r) hc ob.s (Z.tops r) p
theorem atPlace_eq (Rl : Rel Z st a.tmps w) {r : Nat} {p : Path} {kk : (s : S) → O → den s → Option R} (h : atPlace st r p kk = some y) :
    ∃ ob s x t c, kk s (maskAt ob.o p) x = some y ∧ At Z st r p ob s x t c := by
  unfold atPlace at h
  split at h
  · rename_i ob hob
    split at h
    · rename_i hp ho
      have hr := Rl.obs r ob hob
      have rt : RepT Z.m ob.s ob.o (Z.hs r) (Z.tops r) ob.x := by have := hr.2; rw [hp] at this; exact this
      obtain ⟨s, x, hs, hc, t, hk, hsh, hres, sp, rt', back, asd⟩ := focus p ob.s ob.o _ _ ob.x rt ho _ _ h
      obtain ⟨c, hR, hcell, hrep, hle⟩ := RepT_cells rt' sp.left
      exact ⟨ob, s, x, t, c, hk, hob, hp, ho, hsh, hres _ sp.right, Rl.rse r ob hob hp, hcell, ⟨hR, hrep, hle.trans sp.left⟩, hs, hc, sp, rt', back, hres, asd⟩
    · cases h
  · cases h
theorem At.ov {r : Nat} {p : Path} {ob : Ob} {s : S} {x : den s} {t : Top} {c : List Value} (A : At Z st r p ob s x t c) {v : Value} (h : RelAV Z st.ob (.ov r p) v) : v = mkVal s c := by
  obtain ⟨o, s', t', c', e1, e2, e3, e4⟩ := h
  rw [A.isOb] at e1; injection e1 with e1; subst e1
  rw [A.res] at e2; injection e2 with e2; injection e2 with e2 e2'; subst e2 e2'
  rw [cellsAt_uniq A.cells e3]; exact e4
theorem At.ptr {r : Nat} {p : Path} {ob : Ob} {s : S} {x : den s} {t : Top} {c : List Value} (A : At Z st r p ob s x t c) {v : Value} (h : RelAV Z st.ob (.ptr r p) v) :
    ∃ b off, t = .mem b off ∧ v = .pointer (some ⟨b, off, none⟩) := by
  obtain ⟨o, s', b, off, e1, e2, e3⟩ := h
  rw [A.isOb] at e1; injection e1 with e1; subst e1
  rw [A.rse, A.res] at e2; injection e2 with e2; injection e2 with e2 e2'; subst e2 e2'
  exact ⟨b, off, rfl, e3⟩
theorem At.mk_ov {r : Nat} {p : Path} {ob : Ob} {s : S} {x : den s} {t : Top} {c : List Value} (A : At Z st r p ob s x t c) : RelAV Z st.ob (.ov r p) (mkVal s c) :=
  ⟨ob, s, t, c, A.isOb, A.res, A.cells, rfl⟩
theorem At.mkAV {r : Nat} {p : Path} {ob : Ob} {s : S} {x : den s} {t : Top} {c : List Value} (A : At Z st r p ob s x t c) : RelAV Z st.ob (mkAV r p s (maskAt ob.o p) x) (mkVal s c) := by
  unfold AE.mkAV
  cases hc : clean s (maskAt ob.o p) with
  | true =>
    obtain ⟨hR, r, _⟩ := A.rep
    exact ⟨c, rfl, (Rep_clean s _ _ _ _ hc r).2⟩
  | false => exact A.mk_ov
theorem At.cell (Rl : Rel Z st a.tmps w) {r : Nat} {p : Path} {ob : Ob} {s : S} {x : den s} {b off : Nat} {c : List Value} (A : At Z st r p ob s x (.mem b off) c) :
    c.length = s.size ∧ ∀ (j : Nat) v, c[j]? = some v → w.cell? ⟨b, off + j, none⟩ = some v :=
  ⟨A.cells.1, fun j v e => hat_v.1 (Rl.own r _ _ _ (A.cells.2 j v e)).1⟩
theorem addr_add (b off n : Nat) : (⟨b, off, none⟩ : Addr).add n = ⟨b, off + n, none⟩ := by
  unfold Addr.add; split <;> simp_all
theorem run_loadVar_ok {t : TypeId} {s : S} (ht : typeOk P t s = true) {b off : Nat} {c : List Value} (hl : c.length = s.size)
    (hc : ∀ (j : Nat) v, c[j]? = some v → w.cell? ⟨b, off + j, none⟩ = some v) : (loadVar t ⟨b, off, none⟩).run P w = .ok (mkVal s c) w := by
  unfold loadVar mkVal
  simp only [Sem.run_bind, typeOk_agg ht, Result.andThen_ok]
  cases ha : s.isAgg with
  | true =>
    simp only [if_true, Sem.run_bind, (typeOk_info ht).size, Result.andThen_ok]
    rw [← hl, run_loadCells_list w ⟨b, off, none⟩ c (fun j v e => by rw [addr_add]; exact hc j v e)]
    rfl
  | false =>
    have h1 : c.length = 1 := by rw [hl]; cases s <;> simp_all [S.isAgg, S.size]
    match c, h1 with
    | [v], _ =>
      have := hc 0 v rfl
      simp only [Nat.add_zero] at this
      simp [run_load, this]
theorem op_load (hg : tableOk P g.ty = true) (hd : a.defers = []) (Rl : Rel Z st a.tmps w) (F : Fr C Z w) {t : TypeId} {x : Operand} (ho : o.op = .load t x)
    (h : opSem g st o k = some y) : Ok P C Z st o a w k y := by
  simp only [opSem, ho] at h
  split at h
  · cases h
  · rename_i s hs
    have ht := tableOk_at hg hs
    have hr := eval_rel Rl none x
    split at h
    · rename_i s' x' hx
      rw [hx] at hr
      obtain ⟨e, h⟩ := cast?_eq h
      subst e
      obtain ⟨b, off, c, hv, hcov, hrep⟩ := hr
      refine ok_value hd Rl F h ⟨c, rfl, hrep⟩ ?_
      simp only [execOp, ho, hv, Instr.loadAt, Instr.sureAddr]
      simp only [Sem.run_bind, Sem.run_pure, Result.andThen_ok]
      rw [run_loadVar_ok ht (Rep_len _ _ _ _ _ _ hrep) (fun j v e => hat_v.1 (Rl.imm _ _ _ (hcov j v e)))]
      rfl
    · rename_i r p hx
      rw [hx] at hr
      obtain ⟨ob, s', x', t', c, h2, A⟩ := atPlace_eq Rl h
      clear h
      split at h2
      · rename_i e _
        subst e
        obtain ⟨b, off, et, hv⟩ := A.ptr hr
        subst et
        refine ok_value hd Rl F h2 A.mkAV ?_
        obtain ⟨hl, hc⟩ := A.cell Rl
        simp only [execOp, ho, hv, Instr.loadAt, Instr.sureAddr]
        simp only [Sem.run_bind, Sem.run_pure, Result.andThen_ok]
        rw [run_loadVar_ok ht hl hc]
        rfl
      · cases h2
    · rename_i r p hx
      rw [hx] at hr
      obtain ⟨ob, s', x', t', c, h2, A⟩ := atPlace_eq Rl h
      clear h
      split at h2
      · rename_i e _
        subst e
        obtain ⟨o2, s2, t2, c2, b, off, e1, e2, e3, hv, hl, hcov⟩ := hr
        rw [A.isOb] at e1; injection e1 with e1; subst e1
        rw [A.res] at e2; injection e2 with e2; injection e2 with e2 e2'; subst e2 e2'
        have ec := cellsAt_uniq A.cells e3
        subst ec
        refine ok_value hd Rl F h2 A.mkAV ?_
        simp only [execOp, ho, hv, Instr.loadAt, Instr.sureAddr]
        simp only [Sem.run_bind, Sem.run_pure, Result.andThen_ok]
        rw [run_loadVar_ok ht hl (fun j v e => hat_v.1 (Rl.imm _ _ _ (hcov j v e)))]
        rfl
      · cases h2
    · cases h
end
end Go.AE
namespace Go.AE
theorem res_shape {h : Hp} : ∀ (p : Path) (s : S) (t : Top) {s' t'}, res h s t p = some (s', t') → shapeAt s p = some s'
  | [], s, t, s', t', e => by
    have : some (s, t) = some (s', t') := by cases s <;> simpa only [res] using e
    injection this with this; injection this with h1 h2; subst h1; cases s <;> rfl
  | .L :: p, .pair a b, t, s', t', e => res_shape p a _ e
  | .R :: p, .pair a b, t, s', t', e => res_shape p b _ e
  | .ix i :: p, .sl _ s, t, s', t', e => by
    simp only [res] at e
    split at e
    · split at e
      · exact res_shape p s _ e
      · cases e
    · cases e
  | .L :: _, .int _, _, _, _, e => by simp [res] at e
  | .L :: _, .bool, _, _, _, e => by simp [res] at e
  | .L :: _, .str, _, _, _, e => by simp [res] at e
  | .L :: _, .unit, _, _, _, e => by simp [res] at e
  | .L :: _, .sl _ _, _, _, _, e => by simp [res] at e
  | .L :: _, .map _, _, _, _, e => by simp [res] at e
  | .R :: _, .int _, _, _, _, e => by simp [res] at e
  | .R :: _, .bool, _, _, _, e => by simp [res] at e
  | .R :: _, .str, _, _, _, e => by simp [res] at e
  | .R :: _, .unit, _, _, _, e => by simp [res] at e
  | .R :: _, .sl _ _, _, _, _, e => by simp [res] at e
  | .R :: _, .map _, _, _, _, e => by simp [res] at e
  | .ix _ :: _, .int _, _, _, _, e => by simp [res] at e
  | .ix _ :: _, .bool, _, _, _, e => by simp [res] at e
  | .ix _ :: _, .str, _, _, _, e => by simp [res] at e
  | .ix _ :: _, .unit, _, _, _, e => by simp [res] at e
  | .ix _ :: _, .pair _ _, _, _, _, e => by simp [res] at e
  | .ix _ :: _, .map _, _, _, _, e => by simp [res] at e
theorem res_nil (h : Hp) (s : S) (t : Top) : res h s t [] = some (s, t) := by cases s <;> rfl
theorem getK_nil {R : Type} (s : S) (x : den s) (k : (s' : S) → den s' → Option R) : getK s x [] k = k s x := by cases s <;> rfl
theorem res_app {h : Hp} : ∀ (p : Path) (s : S) (t : Top) (q : Path) {s' t'}, res h s t p = some (s', t') → res h s t (p ++ q) = res h s' t' q
  | [], s, t, q, s', t', e => by
    rw [res_nil] at e; injection e with e; injection e with h1 h2; subst h1 h2; rfl
  | .L :: p, s, t, q, s', t', e => by
    cases s <;> simp only [List.cons_append, res] at e ⊢ <;> first | (cases e; done) | exact res_app p _ _ q e
  | .R :: p, s, t, q, s', t', e => by
    cases s <;> simp only [List.cons_append, res] at e ⊢ <;> first | (cases e; done) | exact res_app p _ _ q e
  | .ix i :: p, s, t, q, s', t', e => by
    cases s <;> simp only [List.cons_append, res] at e ⊢ <;> first | (cases e; done) | skip
    split at e
    · rename_i hh
      split at e
      · rename_i hi; rw [if_pos hi]; exact res_app p _ _ q e
      · cases e
    · cases e
theorem getK_app {R : Type} : ∀ (p : Path) (s : S) (x : den s) (q : Path) (k : (s' : S) → den s' → Option R), getK s x (p ++ q) k = getK s x p fun s' x' => getK s' x' q k
  | [], s, x, q, k => by rw [getK_nil]; rfl
  | .L :: p, s, x, q, k => by cases s <;> simp only [List.cons_append, getK] <;> exact getK_app p _ _ q k
  | .R :: p, s, x, q, k => by cases s <;> simp only [List.cons_append, getK] <;> exact getK_app p _ _ q k
  | .ix i :: p, s, x, q, k => by
    cases s <;> simp only [List.cons_append, getK]
    congr 1; funext y; exact getK_app p _ _ q k
theorem ownP_app : ∀ (p : Path) (o : O) (q : Path), ownP o (p ++ q) = (ownP o p && ownP (maskAt o p) q)
  | [], o, q => by cases o <;> simp [ownP, maskAt]
  | .L :: p, o, q => by cases o <;> simp only [List.cons_append, ownP, maskAt] <;> exact ownP_app p _ q
  | .R :: p, o, q => by cases o <;> simp only [List.cons_append, ownP, maskAt] <;> exact ownP_app p _ q
  | .ix i :: p, o, q => by cases o <;> simp only [List.cons_append, ownP, maskAt, Bool.false_and] <;> exact ownP_app p _ q
theorem maskAt_app : ∀ (p : Path) (o : O) (q : Path), maskAt o (p ++ q) = maskAt (maskAt o p) q
  | [], o, q => by cases o <;> rfl
  | .L :: p, o, q => by cases o <;> simp only [List.cons_append, maskAt] <;> exact maskAt_app p _ q
  | .R :: p, o, q => by cases o <;> simp only [List.cons_append, maskAt] <;> exact maskAt_app p _ q
  | .ix i :: p, o, q => by cases o <;> simp only [List.cons_append, maskAt] <;> exact maskAt_app p _ q
theorem ownP_fpath : ∀ (n : Nat) (o : O), ownP o (fpath n) = true
  | 0, o => by cases o <;> rfl
  | n + 1, o => by cases o <;> simp only [fpath, ownP] <;> exact ownP_fpath n _
theorem shapeAt_fpath_agg : ∀ {n : Nat} {s s' : S}, shapeAt s (fpath n) = some s' → s.isAgg = true
  | 0, s, s', h => by cases s <;> simp_all [fpath, shapeAt, S.isAgg]
  | n + 1, s, s', h => by cases s <;> simp_all [fpath, shapeAt, S.isAgg]
theorem res_fpath {h : Hp} : ∀ (n : Nat) (s : S) (t : Top) (c : List Value) {s' : S}, cellsAt h t s.size c → shapeAt s (fpath n) = some s' →
    ∃ t', res h s t (fpath n) = some (s', t') ∧ cellsAt h t' s'.size ((c.drop (foff s n)).take s'.size) ∧ (∀ b off, t = .mem b off → t' = .mem b (off + foff s n))
  | 0, .pair a b, t, c, s', hc, e => by
    simp only [fpath, shapeAt, Option.some.injEq] at e; subst e
    refine ⟨t.l a.size, by simp [fpath, res, res_nil], ?_, fun b off e => by subst e; rfl⟩
    cases t with
    | flt d => have hc : c = d := hc
               subst hc; show _ = _; simp [foff]
    | mem b off =>
      obtain ⟨l, f⟩ := hc
      refine ⟨by simp [foff, l, S.size], fun j v e => ?_⟩
      simp only [foff, List.drop_zero] at e
      exact f j v (by rw [List.getElem?_take] at e; split at e; · exact e
                      · cases e)
  | n + 1, .pair a b, t, c, s', hc, e => by
    simp only [fpath, shapeAt] at e
    have hc2 : cellsAt h (t.r a.size) b.size (c.drop a.size) := by
      cases t with
      | flt d => have hc : c = d := hc
                 subst hc; rfl
      | mem b' off =>
        obtain ⟨l, f⟩ := hc
        refine ⟨by simp [l, S.size], fun j v e => ?_⟩
        rw [List.getElem?_drop] at e
        have := f _ _ e
        rw [← this]; congr 1; omega
    obtain ⟨t', h1, h2, h3⟩ := res_fpath n b (t.r a.size) (c.drop a.size) hc2 e
    refine ⟨t', by simpa [fpath, res] using h1, ?_, ?_⟩
    · simpa [foff, List.drop_drop] using h2
    · intro b' off e; subst e
      rw [h3 b' (off + a.size) rfl]; simp [foff, Nat.add_assoc]
  | 0, .int _, _, _, _, _, e => by simp [fpath, shapeAt] at e
  | 0, .bool, _, _, _, _, e => by simp [fpath, shapeAt] at e
  | 0, .str, _, _, _, _, e => by simp [fpath, shapeAt] at e
  | 0, .unit, _, _, _, _, e => by simp [fpath, shapeAt] at e
  | 0, .sl _ _, _, _, _, _, e => by simp [fpath, shapeAt] at e
  | 0, .map _, _, _, _, _, e => by simp [fpath, shapeAt] at e
  | _ + 1, .int _, _, _, _, _, e => by simp [fpath, shapeAt] at e
  | _ + 1, .bool, _, _, _, _, e => by simp [fpath, shapeAt] at e
  | _ + 1, .str, _, _, _, _, e => by simp [fpath, shapeAt] at e
  | _ + 1, .unit, _, _, _, _, e => by simp [fpath, shapeAt] at e
  | _ + 1, .sl _ _, _, _, _, _, e => by simp [fpath, shapeAt] at e
  | _ + 1, .map _, _, _, _, _, e => by simp [fpath, shapeAt] at e
theorem getK_fpath {m : Hp} {R : Type} : ∀ (n : Nat) (s : S) (x : den s) (c : List Value) (k : (s' : S) → den s' → Option R) (y : R), Rep m s .imm Hp.e c x → getK s x (fpath n) k = some y →
    ∃ s' x', k s' x' = some y ∧ shapeAt s (fpath n) = some s' ∧ Rep m s' .imm Hp.e ((c.drop (foff s n)).take s'.size) x'
  | 0, .pair a b, x, c, k, y, r, e => by
    obtain ⟨h1, h2, c1, c2, sp, ec, r1, r2⟩ := r
    have hl := Rep_len _ _ _ _ _ _ r1
    obtain ⟨e1, r1⟩ := Rep_clean a .imm _ _ _ (clean_imm a) r1
    refine ⟨a, x.1, by simpa [fpath, getK, getK_nil] using e, by cases a <;> rfl, ?_⟩
    rw [ec]; simp only [foff, List.drop_zero]; rw [← hl, List.take_left']
    · exact r1
    · rfl
  | n + 1, .pair a b, x, c, k, y, r, e => by
    obtain ⟨h1, h2, c1, c2, sp, ec, r1, r2⟩ := r
    have hl := Rep_len _ _ _ _ _ _ r1
    obtain ⟨e2, r2⟩ := Rep_clean b .imm _ _ _ (clean_imm b) r2
    obtain ⟨s', x', hk, hs, hr⟩ := getK_fpath n b x.2 c2 k y r2 (by simpa [fpath, getK] using e)
    refine ⟨s', x', hk, by simpa [fpath, shapeAt] using hs, ?_⟩
    rw [ec]; simp only [foff]
    rw [← hl, ← List.drop_drop, List.drop_left']
    · exact hr
    · rfl
  | 0, .int _, _, _, _, _, _, e => by simp [fpath, getK] at e
  | 0, .bool, _, _, _, _, _, e => by simp [fpath, getK] at e
  | 0, .str, _, _, _, _, _, e => by simp [fpath, getK] at e
  | 0, .unit, _, _, _, _, _, e => by simp [fpath, getK] at e
  | 0, .sl _ _, _, _, _, _, _, e => by simp [fpath, getK] at e
  | 0, .map _, _, _, _, _, _, e => by simp [fpath, getK] at e
  | _ + 1, .int _, _, _, _, _, _, e => by simp [fpath, getK] at e
  | _ + 1, .bool, _, _, _, _, _, e => by simp [fpath, getK] at e
  | _ + 1, .str, _, _, _, _, _, e => by simp [fpath, getK] at e
  | _ + 1, .unit, _, _, _, _, _, e => by simp [fpath, getK] at e
  | _ + 1, .sl _ _, _, _, _, _, _, e => by simp [fpath, getK] at e
  | _ + 1, .map _, _, _, _, _, _, e => by simp [fpath, getK] at e
section
variable {P : Program} {tb : Hp} {C : Ctx tb} {Z : Sup} {st : St} {a : Act} {w : World} {g : Cfg} {o : Oper} {R : Type} {k : Eff → Option R} {y : R}
theorem lookS_eq {g : Cfg} {t : TypeId} {s : S} (h : lookS g t = some s) : look g.ty t = some s ∧ isArrS s = false := by
  unfold lookS at h
  split at h
  · rename_i s' hs
    cases ha : isArrS s' with
    | true => rw [ha] at h; cases h
    | false => rw [ha] at h; simp only [cond_false, Option.some.injEq] at h; subst h; exact ⟨hs, ha⟩
  · cases h
theorem run_fieldAt {t : TypeId} {s s' : S} {f : Nat} {b off : Nat} (ht : typeOk P t s = true) (hn : isArrS s = false) (hs : shapeAt s (fpath f) = some s') :
    (Instr.fieldAt t (.pointer (some ⟨b, off, none⟩)) f).run P w = .ok (.pointer (some ⟨b, off + foff s f, none⟩)) w := by
  obtain ⟨fs, hu, hf⟩ := typeOk_struct ht (shapeAt_fpath_agg hs) hn
  obtain ⟨fd, h1, h2, h3, h4, h5⟩ := fieldsOk_at s 0 fs.toList f s' hf hs
  rw [Array.getElem?_toList] at h1
  have hz : ¬ s'.size = 0 := by omega
  simp only [Instr.fieldAt, Sem.run_bind, run_underlying hu, Result.andThen_ok, h1, Instr.sureAddr, Sem.run_pure, fieldPlace, h3.size, hz, if_false, addr_add, h2, Nat.zero_add]
theorem part_run {t : TypeId} {s' : S} {c : List Value} {off : Nat} (hi : Info P t s') (ha : aggB P t s' = true) (hl : off + s'.size ≤ c.length) :
    (part t c.toArray off).run P w = .ok (mkVal s' ((c.drop off).take s'.size)) w := by
  unfold part mkVal
  simp only [Sem.run_bind, aggB_run ha, Result.andThen_ok]
  cases hagg : s'.isAgg with
  | true =>
    simp only [if_true, Sem.run_bind, hi.size, Result.andThen_ok, Sem.run_pure]
    congr 2
    simp [List.take_drop, Nat.add_comm, List.extract_eq_take_drop]
  | false =>
    have h1 : s'.size = 1 := by cases s' <;> simp_all [S.isAgg, S.size]
    rw [h1] at hl ⊢
    have hlt : off < c.length := by omega
    have e : (c.drop off).take 1 = [c[off]] := by
      rw [List.drop_eq_getElem_cons hlt]; rfl
    simp only [Bool.false_eq_true, if_false, e, List.getElem?_toArray, List.getElem?_eq_getElem hlt]
    simp
theorem run_field {t : TypeId} {s s' : S} {f : Nat} {c : List Value} (ht : typeOk P t s = true) (hn : isArrS s = false) (hs : shapeAt s (fpath f) = some s') (hl : c.length = s.size) (hle : foff s f + s'.size ≤ s.size) :
    (Instr.field t (mkVal s c) f).run P w = .ok (mkVal s' ((c.drop (foff s f)).take s'.size)) w := by
  obtain ⟨fs, hu, hf⟩ := typeOk_struct ht (shapeAt_fpath_agg hs) hn
  obtain ⟨fd, h1, h2, h3, h4, h5⟩ := fieldsOk_at s 0 fs.toList f s' hf hs
  rw [Array.getElem?_toList] at h1
  have he : mkVal s c = .agg c.toArray := by rw [mkVal, if_pos (shapeAt_fpath_agg hs)]
  rw [he]
  simp only [Instr.field, Sem.run_bind, run_underlying hu, Result.andThen_ok, h1, asAgg, Sem.run_pure, h2, Nat.zero_add]
  exact part_run h3 h4 (by omega)
theorem foff_le : ∀ (n : Nat) (s s' : S), shapeAt s (fpath n) = some s' → foff s n + s'.size ≤ s.size
  | 0, .pair a b, s', e => by simp only [fpath, shapeAt, Option.some.injEq] at e; subst e; simp [foff, S.size]
  | n + 1, .pair a b, s', e => by
    simp only [fpath, shapeAt] at e
    have := foff_le n b s' e
    simp only [foff, S.size]; omega
  | 0, .int _, _, e => by simp [fpath, shapeAt] at e
  | 0, .bool, _, e => by simp [fpath, shapeAt] at e
  | 0, .str, _, e => by simp [fpath, shapeAt] at e
  | 0, .unit, _, e => by simp [fpath, shapeAt] at e
  | 0, .sl _ _, _, e => by simp [fpath, shapeAt] at e
  | 0, .map _, _, e => by simp [fpath, shapeAt] at e
  | _ + 1, .int _, _, e => by simp [fpath, shapeAt] at e
  | _ + 1, .bool, _, e => by simp [fpath, shapeAt] at e
  | _ + 1, .str, _, e => by simp [fpath, shapeAt] at e
  | _ + 1, .unit, _, e => by simp [fpath, shapeAt] at e
  | _ + 1, .sl _ _, _, e => by simp [fpath, shapeAt] at e
  | _ + 1, .map _, _, e => by simp [fpath, shapeAt] at e
theorem op_fieldAddr (hg : tableOk P g.ty = true) (hd : a.defers = []) (Rl : Rel Z st a.tmps w) (F : Fr C Z w) {t : TypeId} {x : Operand} {f : Nat} (ho : o.op = .fieldAddr t x f)
    (h : opSem g st o k = some y) : Ok P C Z st o a w k y := by
  simp only [opSem, ho] at h
  split at h
  · rename_i s r p hs hx
    have hr := eval_rel Rl none x
    rw [hx] at hr
    obtain ⟨hs, hna⟩ := lookS_eq hs
    have ht := tableOk_at hg hs
    split at h
    · rename_i s' hsh
      split at h
      · rename_i e _
        subst e
        split at h
        · rename_i sf hsf
          obtain ⟨ob, s2, b, off, hob, hres, hv⟩ := hr
          have e2 : s2 = s' := by
            have := res_shape _ _ _ hres
            unfold St.shp at hsh
            rw [hob] at hsh
            have hsh : shapeAt ob.s p = some s' := hsh
            rw [this] at hsh; injection hsh
          subst e2
          have hq : ∃ t', res (Z.rs r) s2 (.mem b off) (fpath f) = some (sf, t') ∧ t' = .mem b (off + foff s2 f) := by
            have gen : ∀ (n : Nat) (s : S) (off : Nat), shapeAt s (fpath n) = some sf → res (Z.rs r) s (.mem b off) (fpath n) = some (sf, .mem b (off + foff s n)) := by
              intro n
              induction n with
              | zero => intro s off e; cases s <;> simp_all [fpath, shapeAt, res, res_nil, foff, Top.l]
              | succ n ih => intro s off e; cases s <;> simp_all [fpath, shapeAt, res, foff, Top.r, Nat.add_assoc]
            exact ⟨_, gen f s2 off hsf, rfl⟩
          obtain ⟨t', hq1, hq2⟩ := hq
          subst hq2
          refine ok_value hd Rl F h ⟨ob, sf, b, off + foff s2 f, hob, ?_, rfl⟩ ?_
          · rw [res_app _ _ _ _ hres, hq1]
          · simp [execOp, ho, hv, run_fieldAt ht hna hsf]
        · cases h
      · cases h
    · cases h
  · rename_i s s' x' hs hx
    have hr := eval_rel Rl none x
    rw [hx] at hr
    obtain ⟨hs, hna⟩ := lookS_eq hs
    have ht := tableOk_at hg hs
    obtain ⟨e, h⟩ := cast?_eq h
    subst e
    obtain ⟨b, off, c, hv, hcov, hrep⟩ := hr
    obtain ⟨s2, x2, hk, hsf, hr2⟩ := getK_fpath f s' x' c _ _ hrep h
    refine ok_value hd Rl F hk ⟨b, off + foff s' f, _, rfl, ?_, hr2⟩ ?_
    · intro j v e
      rw [List.getElem?_take] at e
      split at e
      · rw [List.getElem?_drop] at e
        have := hcov _ _ e
        rw [← this]; congr 1; omega
      · cases e
    · simp [execOp, ho, hv, run_fieldAt ht hna hsf]
  · rename_i s r p hs hx
    have hr := eval_rel Rl none x
    rw [hx] at hr
    obtain ⟨hs, hna⟩ := lookS_eq hs
    have ht := tableOk_at hg hs
    split at h
    · rename_i s' hsh
      split at h
      · rename_i e _
        subst e
        split at h
        · rename_i sf hsf
          obtain ⟨ob, s2, t2, c, b, off, hob, hres, hcell, hv, hl, hcov⟩ := hr
          have e2 : s2 = s' := by
            have := res_shape _ _ _ hres
            unfold St.shp at hsh
            rw [hob] at hsh
            have hsh : shapeAt ob.s p = some s' := hsh
            rw [this] at hsh; injection hsh
          subst e2
          obtain ⟨t3, g1, g2, _⟩ := res_fpath (h := Z.hs r) f s2 t2 c hcell hsf
          refine ok_value hd Rl F h ⟨ob, sf, t3, _, b, off + foff s2 f, hob, ?_, g2, rfl, ?_, ?_⟩ ?_
          · rw [res_app _ _ _ _ hres, g1]
          · have := foff_le f _ _ hsf
            simp only [List.length_take, List.length_drop]; omega
          · intro j v e
            rw [List.getElem?_take] at e
            split at e
            · rw [List.getElem?_drop] at e
              have := hcov _ _ e
              rw [← this]; congr 1; omega
            · cases e
          · simp [execOp, ho, hv, run_fieldAt ht hna hsf]
        · cases h
      · cases h
    · cases h
  · cases h
theorem op_field (hg : tableOk P g.ty = true) (hd : a.defers = []) (Rl : Rel Z st a.tmps w) (F : Fr C Z w) {t : TypeId} {x : Operand} {f : Nat} (ho : o.op = .field t x f)
    (h : opSem g st o k = some y) : Ok P C Z st o a w k y := by
  simp only [opSem, ho] at h
  unfold evalT at h
  split at h
  · rename_i s s' x' hs hx
    have hr := eval_rel Rl (look g.ty t) x
    rw [hx] at hr
    obtain ⟨hs, hna⟩ := lookS_eq hs
    have ht := tableOk_at hg hs
    obtain ⟨e, h⟩ := cast?_eq h
    subst e
    obtain ⟨c, hv, hrep⟩ := hr
    obtain ⟨s2, x2, hk, hsf, hr2⟩ := getK_fpath f s' x' c _ _ hrep h
    refine ok_value hd Rl F hk ⟨_, rfl, hr2⟩ ?_
    simp [execOp, ho, hv, run_field ht hna hsf (Rep_len _ _ _ _ _ _ hrep) (foff_le f _ _ hsf)]
  · rename_i s r p hs hx
    have hr := eval_rel Rl (look g.ty t) x
    rw [hx] at hr
    obtain ⟨hs, hna⟩ := lookS_eq hs
    have ht := tableOk_at hg hs
    -- the place p, then the field's own place
    obtain ⟨ob, s', x', t', c, h2, A⟩ := atPlace_eq Rl h
    split at h2
    · rename_i e _
      subst e
      have hat : atPlace st r (p ++ fpath f) (fun s2 m y2 => k (eff (mkAV r (p ++ fpath f) s2 m y2))) = some y := by
        unfold atPlace at h ⊢
        rw [A.isOb] at h ⊢
        simp only [A.pend, A.ownP, ownP_app, ownP_fpath, Bool.and_true] at h ⊢
        rw [getK_app, maskAt_app]
        have hh : ∀ (q : Path) (s0 : S) (x0 : den s0) (K1 K2 : (s : S) → den s → Option R), (∀ s x, K1 s x = some y → K2 s x = some y) → getK s0 x0 q K1 = some y → getK s0 x0 q K2 = some y := by
          intro q
          induction q with
          | nil => intro s0 x0 K1 K2 hK e; rw [getK_nil] at e ⊢; exact hK _ _ e
          | cons stp q ih =>
            intro s0 x0 K1 K2 hK e
            cases stp <;> cases s0 <;> simp only [getK] at e ⊢ <;> first | (cases e; done) | exact ih _ _ _ _ hK e | skip
            obtain ⟨z, hz, e⟩ := bindO_eq e
            rw [hz]; exact ih _ _ _ _ hK e
        refine hh p _ _ _ _ ?_ h
        intro s1 x1 e1
        split at e1
        · rename_i e _
          subst e
          exact e1
        · cases e1
      obtain ⟨ob2, s2, x2, t2, c2, h3, A2⟩ := atPlace_eq Rl hat
      have eob : ob2 = ob := by have := A2.isOb; rw [A.isOb] at this; injection this with this; exact this.symm
      subst eob
      have hsf : shapeAt s' (fpath f) = some s2 := by
        have := A2.sh
        have sapp : ∀ (p : Path) (s : S) (q : Path) {s'}, shapeAt s p = some s' → shapeAt s (p ++ q) = shapeAt s' q := by
          intro p
          induction p with
          | nil => intro s q s' e; cases s <;> simp_all [shapeAt]
          | cons stp p ih => intro s q s' e; cases stp <;> cases s <;> simp only [List.cons_append, shapeAt] at e ⊢ <;> first | (cases e; done) | exact ih _ q e
        rw [sapp p _ _ A.sh] at this; exact this
      have hv := A.ov hr
      obtain ⟨t3, g1, g2, _⟩ := res_fpath (h := Z.hs r) f s' t' c A.cells hsf
      have e3 : t3 = t2 ∧ True := by
        have := A2.res
        rw [res_app _ _ _ _ A.res, g1] at this
        injection this with this; injection this with _ this; exact ⟨this, trivial⟩
      obtain ⟨e3, _⟩ := e3
      subst e3
      have ec : c2 = (c.drop (foff s' f)).take s2.size := cellsAt_uniq A2.cells g2
      have hlen : c.length = s'.size := by obtain ⟨hR, r, _⟩ := A.rep; exact Rep_len _ _ _ _ _ _ r
      refine ok_value hd Rl F h3 A2.mkAV ?_
      rw [ec]
      simp [execOp, ho, hv, run_field ht hna hsf hlen (foff_le f _ _ hsf)]
    · cases h2
  · cases h
end
end Go.AE
namespace Go.AE
theorem RepL_app {A : Type} {R : Hp → List Value → A → Prop} : ∀ {xs ys : List A} {h c}, RepL R h c (xs ++ ys) →
    ∃ h1 h2 c1 c2, Sp h h1 h2 ∧ c = c1 ++ c2 ∧ RepL R h1 c1 xs ∧ RepL R h2 c2 ys
  | [], ys, h, c, r => ⟨Hp.e, h, [], c, Sp.e_left _, rfl, ⟨rfl, rfl⟩, r⟩
  | x :: xs, ys, h, c, ⟨h1, h2, c1, c2, s, e, r, rl⟩ => by
    obtain ⟨k1, k2, d1, d2, s2, e2, r1, r2⟩ := RepL_app rl
    obtain ⟨p, q⟩ := s.assoc' s2
    exact ⟨Un h1 k1, k2, c1 ++ d1, d2, p, by rw [e, e2]; simp, ⟨h1, k1, c1, d1, q, rfl, r, r1⟩, r2⟩
theorem RepL_cat {A : Type} {R : Hp → List Value → A → Prop} : ∀ {xs ys : List A} {h h1 h2 c1 c2}, Sp h h1 h2 → RepL R h1 c1 xs → RepL R h2 c2 ys → RepL R h (c1 ++ c2) (xs ++ ys)
  | [], ys, h, h1, h2, c1, c2, s, ⟨e1, e2⟩, r2 => by
    subst e1 e2
    have := s.eq_right
    subst this
    exact r2
  | x :: xs, ys, h, h1, h2, c1, c2, s, ⟨k1, k2, d1, d2, s1, e, r, rl⟩, r2 => by
    obtain ⟨p, q⟩ := s.assoc s1
    exact ⟨k1, Un k2 h2, d1, d2 ++ c2, p, by rw [e]; simp, r, RepL_cat q rl r2⟩
theorem Sp.e_eq {a b : Hp} (s : Sp Hp.e a b) : a = Hp.e ∧ b = Hp.e :=
  ⟨funext fun x => funext fun y => (s.none (x := x) (y := y) rfl).1, funext fun x => funext fun y => (s.none (x := x) (y := y) rfl).2⟩
theorem RepL_sub {A : Type} {R : Hp → List Value → A → Prop} {n : Nat} (hR : ∀ h c x, R h c x → c.length = n) {xs : List A} {c : List Value} {lo hi : Nat} (h1 : lo ≤ hi) (h2 : hi ≤ xs.length)
    (r : RepL R Hp.e c xs) : ∃ c1 c2 c3, c = c1 ++ c2 ++ c3 ∧ c1.length = lo * n ∧ RepL R Hp.e c2 ((xs.take hi).drop lo) := by
  have e : xs = (xs.take hi).take lo ++ (xs.take hi).drop lo ++ xs.drop hi := by rw [List.take_append_drop, List.take_append_drop]
  rw [e] at r
  obtain ⟨k1, k2, c12, c3, s, ec, r12, r3⟩ := RepL_app r
  obtain ⟨q1, q2⟩ := s.e_eq
  subst q1 q2
  obtain ⟨k1, k2, c1, c2, s2, ec2, r1, r2⟩ := RepL_app r12
  obtain ⟨q1, q2⟩ := s2.e_eq
  subst q1 q2
  refine ⟨c1, c2, c3, by rw [ec, ec2], ?_, r2⟩
  rw [RepL_len hR r1]; congr 1; simp; omega
theorem sub_len {A : Type} {xs : List A} {lo hi : Int} (h0 : 0 ≤ lo) (h1 : lo ≤ hi) (h2 : hi ≤ xs.length) : (sub xs lo hi).length = hi.toNat - lo.toNat := by
  simp [sub]; omega
section
variable {P : Program} {tb : Hp} {C : Ctx tb} {Z : Sup} {st : St} {a : Act} {w : World} {g : Cfg} {o : Oper} {R : Type} {k : Eff → Option R} {y : R}
theorem pv_sl {ob : Obs} {e : TypeId} {s : S} {xs : List (den s)} {v : Value} (h : RelAV Z ob (.pv (.sl e s) xs) v) :
    ∃ ad cap, v = .slice ad xs.length cap ∧ xs.length ≤ cap ∧ (xs ≠ [] → ∃ b off r, ad = some ⟨b, off, none⟩ ∧ Cov Z.m b off r ∧ RepL (Rep Z.m s .imm) Hp.e r xs) := by
  obtain ⟨c, hv, _, ad, cap, ec, hc, hr⟩ := h
  exact ⟨ad, cap, by rw [hv, ec]; rfl, hc, hr⟩
theorem run_indexAt {t e : TypeId} {s : S} {q : IntKind} {i : Int} {b off len cap : Nat} (ht : typeOk P t (.sl e s) = true) (h0 : 0 ≤ i) (h1 : i < len) :
    (Instr.indexAt t (.slice (some ⟨b, off, none⟩) len cap) (.int q i)).run P w = .ok (.pointer (some ⟨b, off + i.toNat * s.size, none⟩)) w := by
  obtain ⟨hu, hi, _⟩ := typeOk_sl ht
  simp only [Instr.indexAt, Sem.run_bind, asIntOf, Sem.run_pure, Result.andThen_ok, run_underlying hu, h0, h1, and_self, if_true, hi.size, addr_add]
theorem run_indexArr {t : TypeId} {s s' : S} {q : IntKind} {k b off : Nat} (ht : typeOk P t s = true) (hn : isArrS s = true) (hs : shapeAt s (fpath k) = some s') (hl : 1 ≤ s'.size) :
    (Instr.indexAt t (.pointer (some ⟨b, off, none⟩)) (.int q k)).run P w = .ok (.pointer (some ⟨b, off + foff s k, none⟩)) w := by
  obtain ⟨n, e, hu, _, ha⟩ := typeOk_arr ht hn
  obtain ⟨h1, h2, h3, _⟩ := arrOk_at s n k s' ha hs hl
  have h0 : (0 : Int) ≤ (k : Int) := by omega
  have h4 : (k : Int) < (n : Int) := by omega
  simp only [Instr.indexAt, Sem.run_bind, asIntOf, Sem.run_pure, Result.andThen_ok, run_underlying hu, Instr.sureAddr, h0, h4, and_self, if_true, h3.size, addr_add, h2]
  rfl
theorem At.slice {r : Nat} {p : Path} {ob : Ob} {e : TypeId} {s : S} {xs : List (den s)} {t : Top} {c : List Value} (A : At Z st r p ob (.sl e s) xs t c) :
    ∃ ad cap, c = [.slice ad xs.length cap] ∧ xs.length ≤ cap ∧ (xs ≠ [] → ∃ b off, ad = some ⟨b, off, none⟩) := by
  obtain ⟨hR, rr, _⟩ := A.rep
  cases hm : maskAt ob.o p with
  | own m =>
    rw [hm] at rr
    rcases rr with ⟨e1, e2, _⟩ | ⟨b, off, cap, r1, r2, h2, e2, hc, _⟩
    · subst e1; exact ⟨none, 0, e2, Nat.le_refl _, fun h => absurd rfl h⟩
    · exact ⟨_, cap, e2, hc, fun _ => ⟨b, off, rfl⟩⟩
  | imm => rw [hm] at rr; obtain ⟨_, ad, cap, ec, hc, hr⟩ := rr; exact ⟨ad, cap, ec, hc, fun h => let ⟨b, off, _, e, _⟩ := hr h; ⟨b, off, e⟩⟩
  | pr _ _ => rw [hm] at rr; obtain ⟨_, ad, cap, ec, hc, hr⟩ := rr; exact ⟨ad, cap, ec, hc, fun h => let ⟨b, off, _, e, _⟩ := hr h; ⟨b, off, e⟩⟩
theorem cellsAt_head {h : Hp} {t : Top} {n : Nat} {c : List Value} {v : Value} (hc : cellsAt h t n c) (hv : c.head? = some v) : t.head h = some v := by
  cases t with
  | flt d => have hc : c = d := hc
             subst hc; exact hv
  | mem b off =>
    have := hc.2 0 v (by rw [← List.head?_eq_getElem?]; exact hv)
    rw [Nat.add_zero] at this; exact head_mem.2 this
theorem arrDynG_eq {R : Type} {st : St} {s : S} {r : Nat} {p : Path} {i : Int} {k : Path → Option R} {y : R} : ∀ {n : Nat}, 0 ≤ i → i ≤ (n : Int) → arrDynG st s r p i k n = some y → ∃ m : Nat, i = (m : Int) ∧ arrAt st s r p m k = some y
  | 0, h0, h1, h => ⟨0, by omega, h⟩
  | n + 1, h0, h1, h => by
    unfold arrDynG ifB at h
    split at h
    · rename_i hc
      exact ⟨n + 1, by simpa [pEq] using hc, h⟩
    · rename_i hc
      have : i ≠ ((n + 1 : Nat) : Int) := fun e => hc (by simpa [pEq] using e)
      exact arrDynG_eq h0 (by omega) h
theorem arrDyn_eq {R : Type} {st : St} {s : S} {r : Nat} {p : Path} {i : Int} {k : Path → Option R} {y : R} {n : Nat} (h : arrDyn st s r p i k n = some y) : ∃ m : Nat, i = (m : Int) ∧ arrAt st s r p m k = some y := by
  unfold arrDyn at h
  obtain ⟨h1, h⟩ := ifB_true h
  obtain ⟨h2, h⟩ := ifB_true h
  have h1 : 0 ≤ i := of_decide_eq_true h1
  have h2 : i < (n : Int) := of_decide_eq_true h2
  exact arrDynG_eq h1 (by omega) h
theorem op_indexAddr (hg : tableOk P g.ty = true) (hty : ∀ e s, look g.ty e = some s → True) (hd : a.defers = []) (Rl : Rel Z st a.tmps w) (F : Fr C Z w) {t : TypeId} {x ix : Operand} (ho : o.op = .indexAddr t x ix)
    (h : opSem g st o k = some y) : Ok P C Z st o a w k y := by
  simp only [opSem, ho] at h
  obtain ⟨q, i, hi, h⟩ := asInt?_eq h
  have vi := eval_int Rl hi
  have hr := eval_rel Rl (look g.ty t) x
  unfold evalT at h
  split at h
  · rename_i e0 s0 e1 s xs hs hx
    have ht := tableOk_at hg hs
    rw [hx] at hr
    obtain ⟨ec, h⟩ := castL?_eq h
    subst ec
    obtain ⟨x1, hx1, h⟩ := bindO_eq h
    obtain ⟨h0, h1, h2⟩ := idx_eq hx1
    obtain ⟨ad, cap, hv, hc, hrr⟩ := pv_sl hr
    have hne : xs ≠ [] := by intro e; rw [e] at h1; simp at h1; omega
    obtain ⟨b, off, r, ea, cv, rl⟩ := hrr hne
    subst ea
    obtain ⟨hx', hr', ca, cx, cb, sp, ec, el, rx, _⟩ := RepL_get (Rep_len Z.m s .imm) i.toNat rl h2
    obtain ⟨e1, e2⟩ := sp.e_eq
    subst e1 e2
    refine ok_value hd Rl F h ⟨b, off + i.toNat * s.size, cx, rfl, ?_, rx⟩ ?_
    · intro j v ej
      have hj : j < cx.length := by
        rcases Nat.lt_or_ge j cx.length with q | q
        · exact q
        · rw [List.getElem?_eq_none q] at ej; cases ej
      have := cv (i.toNat * s.size + j) v (by
        rw [ec, List.append_assoc, List.getElem?_append_right (by omega), List.getElem?_append_left (by omega)]
        rw [← ej]; congr 1; omega)
      rw [← this]; congr 1; omega
    · simp [execOp, ho, hv, vi, run_indexAt ht h0 h1]
  · rename_i e0 s0 r p hs hx
    have ht := tableOk_at hg hs
    rw [hx] at hr
    obtain ⟨ob, s', x', t', c, h2, A⟩ := atPlace_eq Rl h
    split at h2
    · rename_i e1 s1 xs
      split at h2
      · rename_i ee _
        subst ee
        obtain ⟨x1, hx1, h2⟩ := bindO_eq h2
        obtain ⟨h0, h1, h3⟩ := idx_eq hx1
        obtain ⟨ad, cap, ec, hc, hrr⟩ := A.slice
        have hne : xs ≠ [] := by intro e; rw [e] at h1; simp at h1; omega
        obtain ⟨b, off, ea⟩ := hrr hne
        subst ea
        have hv := A.ov hr
        rw [ec] at hv
        have hv : a.eval x = .slice (some ⟨b, off, none⟩) xs.length cap := hv
        refine ok_value hd Rl F h2 ⟨ob, s1, b, off + i.toNat * s1.size, A.isOb, ?_, rfl⟩ ?_
        · rw [A.rse, res_app _ _ _ _ A.res]
          have hh := cellsAt_head A.cells (v := .slice (some ⟨b, off, none⟩) xs.length cap) (by rw [ec]; rfl)
          simp only [res, hh, h0, h1, and_self, if_true, res_nil]
        · simp [execOp, ho, hv, vi, run_indexAt ht h0 h1]
      · cases h2
    · cases h2
  · rename_i s r p hs hx
    have ht := tableOk_at hg hs
    rw [hx] at hr
    have hex : ∃ n : Nat, i = (n : Int) ∧ arrAt st s r p n (fun q => k (eff (.ptr r q))) = some y := by
      split at h
      · rename_i n hn
        refine ⟨n, ?_, h⟩
        unfold litIx at hn
        split at hn
        · rename_i q' m
          injection hn with hn; subst hn
          simp only [evalS, constAV, AV.pv.injEq] at hi
          exact (eq_of_heq hi.2).symm
        · cases hn
      · exact arrDyn_eq h
    obtain ⟨n, ein, h⟩ := hex
    unfold arrAt at h
    split at h
    · rename_i s2 sf hsh hsf
      split at h
      · rename_i e _
        subst e
        obtain ⟨hc, h9⟩ := cond_some h
        clear h
        simp only [Bool.and_eq_true] at hc
        obtain ⟨harr, hl⟩ := hc
        obtain ⟨ob, s3, b, off, hob, hres, hv⟩ := hr
        have e2 : s3 = s2 := by
          have := res_shape _ _ _ hres
          unfold St.shp at hsh
          rw [hob] at hsh
          have hsh : shapeAt ob.s p = some s2 := hsh
          rw [this] at hsh; injection hsh
        subst e2
        subst ein
        have hq : ∃ t', res (Z.rs r) s3 (.mem b off) (fpath n) = some (sf, t') ∧ t' = .mem b (off + foff s3 n) := by
          have gen : ∀ (n : Nat) (s : S) (off : Nat), shapeAt s (fpath n) = some sf → res (Z.rs r) s (.mem b off) (fpath n) = some (sf, .mem b (off + foff s n)) := by
            intro n
            induction n with
            | zero => intro s off e; cases s <;> simp_all [fpath, shapeAt, res, res_nil, foff, Top.l]
            | succ n ih => intro s off e; cases s <;> simp_all [fpath, shapeAt, res, foff, Top.r, Nat.add_assoc]
          exact ⟨_, gen n s3 off hsf, rfl⟩
        obtain ⟨t', hq1, hq2⟩ := hq
        subst hq2
        refine ok_value hd Rl F h9 ⟨ob, sf, b, off + foff s3 n, hob, ?_, rfl⟩ ?_
        · rw [res_app _ _ _ _ hres, hq1]
        · simp [execOp, ho, hv, vi, run_indexArr ht harr hsf (Nat.le_of_ble_eq_true hl)]
      · cases h
    · cases h
  · cases h
theorem op_index (hg : tableOk P g.ty = true) (hd : a.defers = []) (Rl : Rel Z st a.tmps w) (F : Fr C Z w) {t : TypeId} {x ix : Operand} (ho : o.op = .index t x ix)
    (h : opSem g st o k = some y) : Ok P C Z st o a w k y := by
  simp only [opSem, ho] at h
  obtain ⟨q, i, hi, h⟩ := asInt?_eq h
  have vi := eval_int Rl hi
  unfold evalT at h
  split at h
  · rename_i s hs hx
    have ht := typeOk_str (tableOk_at hg hs)
    have vx := eval_str Rl hx
    obtain ⟨n, hn, h⟩ := bindO_eq h
    unfold bidx at hn
    split at hn
    · rename_i h0
      cases hb : s.data[i.toNat]? with
      | none => rw [hb] at hn; cases hn
      | some c =>
        rw [hb] at hn
        simp only [Option.map_some, Option.some.injEq] at hn
        subst hn
        refine ok_value hd Rl F h (rel_int.2 rfl) ?_
        have hb2 : s[i.toNat]? = some c := by
          rw [← hb]
          simp only [getElem?_def]
          rfl
        simp [execOp, ho, vi, vx, Instr.index, asIntOf, run_underlying ht, h0, hb2]
    · cases hn
  · cases h
theorem op_extract (hd : a.defers = []) (Rl : Rel Z st a.tmps w) (F : Fr C Z w) {t : Operand} {i : Nat} (ho : o.op = .extract t i)
    (h : opSem g st o k = some y) : Ok P C Z st o a w k y := by
  simp only [opSem, ho] at h
  split at h
  · rename_i n
    have hr := Rl.env n
    split at h
    · rename_i l hl
      rw [hl] at hr
      obtain ⟨vs, hv, al⟩ := hr
      have key : ∀ (l : List AV) (vs : List Value) (i : Nat) (x : AV), All2 (RelAV Z st.ob) l vs → l[i]? = some x → ∃ v, vs[i]? = some v ∧ RelAV Z st.ob x v := by
        intro l
        induction l with
        | nil => intro vs i x _ e; simp at e
        | cons b l ih =>
          intro vs i x al e
          cases vs with
          | nil => exact al.elim
          | cons v vs =>
            cases i with
            | zero => simp at e; subst e; exact ⟨v, rfl, al.1⟩
            | succ i => simp at e; simpa using ih vs i x al.2 e
      split at h
      · cases h
      · rename_i x hne hx
        obtain ⟨v, h1, h2⟩ := key l vs i x al hx
        refine ok_value hd Rl F h h2 ?_
        have hv : a.eval (.tmp n) = .tuple vs.toArray := hv
        simp [execOp, ho, hv, Instr.extract, h1]
      · cases h
    · cases h
  · cases h
theorem capsOf_rel (Rl : Rel Z st a.tmps w) : ∀ (l : List Operand) (cs : List Cap), capsOf st l = some cs → All2 (RelCap Z st.ob) cs (l.map a.eval)
  | [], cs, h => by simp only [capsOf, Option.some.injEq] at h; subst h; trivial
  | x :: l, cs, h => by
    simp only [capsOf] at h
    have hr := eval_rel Rl none x
    split at h
    · rename_i r p cs' hx hl
      injection h with h; subst h
      rw [hx] at hr
      exact ⟨hr, capsOf_rel Rl l cs' hl⟩
    · rename_i s x' cs' hx hl
      injection h with h; subst h
      rw [hx] at hr
      exact ⟨hr, capsOf_rel Rl l cs' hl⟩
    · cases h
theorem op_makeFunc (hd : a.defers = []) (Rl : Rel Z st a.tmps w) (F : Fr C Z w) {fn : Fn} {first caps : Array Operand} (ho : o.op = .makeFunc fn first caps)
    (h : opSem g st o k = some y) : Ok P C Z st o a w k y := by
  simp only [opSem, ho] at h
  split at h
  · rename_i f hf
    split at h
    · rename_i l hl
      have al := capsOf_rel Rl _ _ hl
      refine ok_value hd Rl F h ⟨_, rfl, al⟩ ?_
      have hf' : first = #[] := by
        cases first with
        | mk l => simp at hf; rw [hf]
      subst hf'
      simp [execOp, ho, Instr.makeFunc]
      apply Array.ext'
      simp
    · cases h
  · cases h
end
end Go.AE
namespace Go.AE
theorem RepL_part {A : Type} {R : Hp → List Value → A → Prop} {n : Nat} (hR : ∀ h c x, R h c x → c.length = n) {xs : List A} {h : Hp} {c : List Value} {lo hi : Nat} (h1 : lo ≤ hi) (h2 : hi ≤ xs.length)
    (r : RepL R h c xs) : ∃ c1 c2 c3 k1 k2 k3 k12, c = c1 ++ c2 ++ c3 ∧ c1.length = lo * n ∧ Sp h k12 k3 ∧ Sp k12 k1 k2 ∧ RepL R k2 c2 ((xs.take hi).drop lo) ∧
      RepL R k1 c1 ((xs.take hi).take lo) ∧ RepL R k3 c3 (xs.drop hi) := by
  have e : xs = (xs.take hi).take lo ++ (xs.take hi).drop lo ++ xs.drop hi := by rw [List.take_append_drop, List.take_append_drop]
  rw [e] at r
  obtain ⟨k12, k3, c12, c3, s, ec, r12, r3⟩ := RepL_app r
  obtain ⟨k1, k2, c1, c2, s2, ec2, r1, r2⟩ := RepL_app r12
  refine ⟨c1, c2, c3, k1, k2, k3, k12, by rw [ec, ec2], ?_, s, s2, r2, r1, r3⟩
  rw [RepL_len hR r1]; congr 1; simp; omega
section
variable {P : Program} {tb : Hp} {C : Ctx tb} {Z : Sup} {st : St} {a : Act} {w : World} {g : Cfg} {o : Oper} {R : Type} {k : Eff → Option R} {y : R}
def Reads (Z : Sup) (w : World) (s : S) (q : O) (ad : Option Addr) (xs : List (den s)) : Prop :=
  xs ≠ [] → ∃ b off r hR, ad = some ⟨b, off, none⟩ ∧ (∀ (j : Nat) v, r[j]? = some v → w.cell? ⟨b, off + j, none⟩ = some v) ∧ RepL (Rep Z.m s q) hR r xs
theorem At.reads (Rl : Rel Z st a.tmps w) {r : Nat} {p : Path} {ob : Ob} {e : TypeId} {s : S} {xs : List (den s)} {t : Top} {c : List Value} (A : At Z st r p ob (.sl e s) xs t c) :
    ∃ ad cap, c = [.slice ad xs.length cap] ∧ xs.length ≤ cap ∧ Reads Z w s (maskAt ob.o p).e ad xs := by
  obtain ⟨hR, rr, hle⟩ := A.rep
  cases hm : maskAt ob.o p with
  | own m =>
    rw [hm] at rr
    rcases rr with ⟨e1, e2, _⟩ | ⟨b, off, cap, r1, r2, h2, e2, hc, hl, sp, rl⟩
    · subst e1; exact ⟨none, 0, e2, Nat.le_refl _, fun h => absurd rfl h⟩
    · refine ⟨_, cap, e2, hc, fun _ => ⟨b, off, r1, h2, rfl, fun j v ej => ?_, rl⟩⟩
      refine hat_v.1 (Rl.own r _ _ _ (hle _ _ _ (sp.left _ _ _ ?_))).1
      refine blk_v ?_
      rw [List.getElem?_append_left (by
        rcases Nat.lt_or_ge j r1.length with q | q
        · exact q
        · rw [List.getElem?_eq_none q] at ej; cases ej)]
      exact ej
  | imm =>
    rw [hm] at rr; obtain ⟨_, ad, cap, ec, hc, hr⟩ := rr
    exact ⟨ad, cap, ec, hc, fun h => let ⟨b, off, r, e, cv, rl⟩ := hr h; ⟨b, off, r, Hp.e, e, fun j v ej => hat_v.1 (Rl.imm _ _ _ (cv j v ej)), rl⟩⟩
  | pr _ _ =>
    rw [hm] at rr; obtain ⟨_, ad, cap, ec, hc, hr⟩ := rr
    exact ⟨ad, cap, ec, hc, fun h => let ⟨b, off, r, e, cv, rl⟩ := hr h; ⟨b, off, r, Hp.e, e, fun j v ej => hat_v.1 (Rl.imm _ _ _ (cv j v ej)), rl⟩⟩
theorem Reads.part {s : S} {q : O} {ad : Option Addr} {xs : List (den s)} {lo hi : Int} {cap : Nat} (h : Reads Z w s q ad xs) (h0 : 0 ≤ lo) (h1 : lo ≤ hi) (h2 : hi ≤ xs.length) (hc : xs.length ≤ cap) :
    Reads Z w s q (if cap = lo.toNat then ad else ad.map (·.add (lo.toNat * s.size))) (sub xs lo hi) := by
  intro hne
  have hne2 : xs ≠ [] := by intro e; subst e; exact hne (by simp [sub])
  obtain ⟨b, off, r, hR, ea, hcell, rl⟩ := h hne2
  have hlen : 0 < (sub xs lo hi).length := List.length_pos_iff.2 hne
  rw [sub_len h0 h1 h2] at hlen
  have hcap : ¬ cap = lo.toNat := by omega
  obtain ⟨c1, c2, c3, k1, k2, k3, k12, ec, el, _, _, r2, _, _⟩ := RepL_part (Rep_len Z.m s q) (lo := lo.toNat) (hi := hi.toNat) (by omega) (by omega) rl
  refine ⟨b, off + lo.toNat * s.size, c2, k2, ?_, ?_, r2⟩
  · rw [if_neg hcap, ea]; simp [addr_add]
  · intro j v ej
    have hj : j < c2.length := by
      rcases Nat.lt_or_ge j c2.length with q | q
      · exact q
      · rw [List.getElem?_eq_none q] at ej; cases ej
    have := hcell (lo.toNat * s.size + j) v (by
      rw [ec, List.append_assoc, List.getElem?_append_right (by omega), List.getElem?_append_left (by omega)]
      rw [← ej]; congr 1; omega)
    rw [← this]; congr 2; omega
theorem osub_at {r : Nat} {p : Path} {ob : Ob} {e : TypeId} {s : S} {xs : List (den s)} {t : Top} {c : List Value} (A : At Z st r p ob (.sl e s) xs t c) {lo hi : Int} {v : Value} (h : RelAV Z st.ob (.osub r p lo hi) v) :
    ∃ ad cap, c = [.slice ad xs.length cap] ∧ xs.length ≤ cap ∧ 0 ≤ lo ∧ lo ≤ hi ∧ hi ≤ xs.length ∧
      v = .slice (if cap = lo.toNat then ad else ad.map (·.add (lo.toNat * s.size))) (hi.toNat - lo.toNat) (cap - lo.toNat) := by
  obtain ⟨o, e', s', t', ad, len, cap, h1, h2, h3, h4, h5, h6, h7, h8⟩ := h
  rw [A.isOb] at h1; injection h1 with h1; subst h1
  rw [A.res] at h2; injection h2 with h2; injection h2 with h2 h2'
  injection h2 with h2a h2b; subst h2a h2b h2'
  obtain ⟨ad', cap', ec, hc, _⟩ := A.slice
  have := cellsAt_uniq (n := 1) A.cells h3
  rw [ec] at this
  simp only [List.cons.injEq, Value.slice.injEq, and_true] at this
  obtain ⟨e1, e2, e3⟩ := this
  subst e1 e2 e3
  exact ⟨_, _, ec, hc, h4, h5, by exact_mod_cast h6, h8⟩
theorem slOf_eq (Rl : Rel Z st a.tmps w) {x : AV} {kk : (e : TypeId) → (s : S) → O → List (den s) → Option R} (h : slOf st x kk = some y) {v : Value} (hv : RelAV Z st.ob x v) :
    ∃ e s q xs, kk e s q xs = some y ∧ ∃ ad cap, v = .slice ad xs.length cap ∧ Reads Z w s q ad xs := by
  unfold slOf at h
  split at h
  · rename_i e s xs
    obtain ⟨ad, cap, hv, hc, hr⟩ := pv_sl hv
    exact ⟨e, s, .imm, xs, h, ad, cap, hv, fun hne => let ⟨b, off, r, e, cv, rl⟩ := hr hne; ⟨b, off, r, Hp.e, e, fun j v ej => hat_v.1 (Rl.imm _ _ _ (cv j v ej)), rl⟩⟩
  · rename_i e s
    exact ⟨e, s, .imm, [], h, none, 0, hv, fun h => absurd rfl h⟩
  · rename_i r p
    obtain ⟨ob, s', x', t', c, h2, A⟩ := atPlace_eq Rl h
    split at h2
    · rename_i e s xs
      obtain ⟨ad, cap, ec, hc, hr⟩ := A.reads Rl
      have := A.ov hv
      rw [ec] at this
      exact ⟨e, s, _, xs, h2, ad, cap, this, hr⟩
    · cases h2
  · rename_i r p lo hi
    obtain ⟨ob, s', x', t', c, h2, A⟩ := atPlace_eq Rl h
    split at h2
    · rename_i e s xs
      obtain ⟨ad, cap, ec, hc, h4, h5, h6, h7⟩ := osub_at A hv
      obtain ⟨ad', cap', ec', hc', hr⟩ := A.reads Rl
      rw [ec] at ec'
      simp only [List.cons.injEq, Value.slice.injEq, and_true, true_and] at ec'
      obtain ⟨e1, e2⟩ := ec'
      subst e1 e2
      refine ⟨e, s, _, _, h2, _, cap - lo.toNat, ?_, hr.part h4 h5 h6 hc⟩
      rw [sub_len h4 h5 h6]; exact h7
    · cases h2
  · cases h
theorem boundK_eq (Rl : Rel Z st a.tmps w) {x : Option Operand} {d : Int} {kk : Int → Option R} (h : boundK st x d kk = some y) :
    ∃ n, kk n = some y ∧ ((x.map a.eval = none ∧ n = d) ∨ ∃ q, x.map a.eval = some (.int q n)) := by
  unfold boundK at h
  split at h
  · exact ⟨d, h, .inl ⟨rfl, rfl⟩⟩
  · rename_i op
    obtain ⟨q, n, hn, h⟩ := asInt?_eq h
    exact ⟨n, h, .inr ⟨q, by simp [eval_int Rl hn]⟩⟩
theorem run_bounds {sl : Bool} {len cap : Nat} {low high : Option Value} {l h : Int} (hlow : (low = none ∧ l = 0) ∨ ∃ q, low = some (.int q l)) (hhigh : (high = none ∧ h = len) ∨ ∃ q, high = some (.int q h))
    (h0 : 0 ≤ l) (h1 : l ≤ h) (h2 : h ≤ cap) : (Instr.sliceBounds sl len cap low high none).run P w = .ok (l.toNat, h.toNat, cap) w := by
  unfold Instr.sliceBounds
  rcases hlow with ⟨e1, e2⟩ | ⟨q, e1⟩ <;> rcases hhigh with ⟨e3, e4⟩ | ⟨q', e3⟩ <;> subst e1 e3
  · subst e2 e4; simp
  · subst e2
    have hh0 : 0 ≤ h := by omega
    simp [Instr.sliceBound, asIntOf, hh0, h2]
  · subst e4; simp [Instr.sliceBound, asIntOf, h0, h1]
  · have hh0 : 0 ≤ h := by omega
    have hl : l ≤ (h.toNat : Int) := by omega
    simp [Instr.sliceBound, asIntOf, hh0, h2, h0, hl]
    omega
theorem op_slice (hg : tableOk P g.ty = true) (hd : a.defers = []) (Rl : Rel Z st a.tmps w) (F : Fr C Z w) {t : TypeId} {x : Operand} {lo hi mx : Option Operand} (ho : o.op = .slice t x lo hi mx)
    (h : opSem g st o k = some y) : Ok P C Z st o a w k y := by
  cases mx with
  | some m => simp [opSem, ho] at h
  | none =>
  simp only [opSem, ho] at h
  have hr := eval_rel Rl (look g.ty t) x
  unfold evalT at h
  split at h
  · rename_i b hs hx
    have ht := typeOk_str (tableOk_at hg hs)
    have vx := eval_str Rl hx
    obtain ⟨l, h, hl⟩ := boundK_eq Rl h
    obtain ⟨n, h, hn⟩ := boundK_eq Rl h
    obtain ⟨c1, h⟩ := ifB_true h
    obtain ⟨c2, h⟩ := ifB_true h
    obtain ⟨c3, h⟩ := ifB_true h
    replace c1 : 0 ≤ l := of_decide_eq_true c1
    replace c2 : l ≤ n := of_decide_eq_true c2
    replace c3 : n ≤ (ByteArray.size b : Int) := of_decide_eq_true c3
    refine ok_value hd Rl F h (rel_str.2 rfl) ?_
    simp only [execOp, ho, vx, Instr.sliceAt, Instr.slice, Sem.run_bind, run_underlying ht, Result.andThen_ok, Option.map_none, Option.isSome_none, Bool.false_eq_true, if_false, Sem.run_pure]
    rw [run_bounds hl hn c1 c2 c3]
    rfl
  · rename_i e0 s0 e s xs hs hx
    have ht := tableOk_at hg hs
    obtain ⟨hu, hi', _⟩ := typeOk_sl ht
    rw [hx] at hr
    obtain ⟨ec, h⟩ := castL?_eq h
    subst ec
    obtain ⟨l, h, hl⟩ := boundK_eq Rl h
    obtain ⟨n, h, hn⟩ := boundK_eq Rl h
    obtain ⟨c1, h⟩ := ifB_true h
    obtain ⟨c2, h⟩ := ifB_true h
    obtain ⟨c3, h⟩ := ifB_true h
    replace c1 : 0 ≤ l := of_decide_eq_true c1
    replace c2 : l ≤ n := of_decide_eq_true c2
    replace c3 : n ≤ (List.length xs : Int) := of_decide_eq_true c3
    obtain ⟨ad, cap, hv, hc, hrr⟩ := pv_sl hr
    have hn' : (hi.map a.eval = none ∧ n = (xs.length : Nat)) ∨ ∃ q, hi.map a.eval = some (.int q n) := hn
    refine ok_value hd Rl F h (v := .slice (if cap = l.toNat then ad else ad.map (·.add (l.toNat * s.size))) (n.toNat - l.toNat) (cap - l.toNat)) ?_ ?_
    · refine ⟨[.slice (if cap = l.toNat then ad else ad.map (·.add (l.toNat * s.size))) (n.toNat - l.toNat) (cap - l.toNat)], rfl, rfl, _, _, by rw [sub_len c1 c2 c3], by rw [sub_len c1 c2 c3]; omega, ?_⟩
      intro hne
      have hne2 : xs ≠ [] := by intro e; subst e; exact hne (by simp [sub])
      obtain ⟨b, off, r, ea, cv, rl⟩ := hrr hne2
      have hlen : 0 < (sub xs l n).length := List.length_pos_iff.2 hne
      rw [sub_len c1 c2 c3] at hlen
      have hcap : ¬ cap = l.toNat := by omega
      obtain ⟨d1, d2, d3, e3, el, r2⟩ := RepL_sub (Rep_len Z.m s .imm) (lo := l.toNat) (hi := n.toNat) (by omega) (by omega) rl
      refine ⟨b, off + l.toNat * s.size, d2, ?_, ?_, r2⟩
      · rw [if_neg hcap, ea]; simp [addr_add]
      · intro j v ej
        have hj : j < d2.length := by
          rcases Nat.lt_or_ge j d2.length with q | q
          · exact q
          · rw [List.getElem?_eq_none q] at ej; cases ej
        have := cv (l.toNat * s.size + j) v (by
          rw [e3, List.append_assoc, List.getElem?_append_right (by omega), List.getElem?_append_left (by omega)]
          rw [← ej]; congr 1; omega)
        rw [← this]; congr 1; omega
    · simp only [execOp, ho, hv, Instr.sliceAt, Instr.slice, Sem.run_bind, run_underlying hu, Result.andThen_ok, Option.map_none, Sem.run_pure]
      rw [run_bounds hl hn' c1 c2 (by omega)]
      simp only [Result.andThen_ok, hi'.size]
  · rename_i e0 s0 r p hs hx
    have ht := tableOk_at hg hs
    obtain ⟨hu, hi', _⟩ := typeOk_sl ht
    rw [hx] at hr
    obtain ⟨ob, s', x', t', c, h2, A⟩ := atPlace_eq Rl h
    split at h2
    · rename_i e1 s1 xs
      split at h2
      · rename_i ee _
        subst ee
        obtain ⟨l, h2, hl⟩ := boundK_eq Rl h2
        obtain ⟨n, h2, hn⟩ := boundK_eq Rl h2
        obtain ⟨c1, h2⟩ := ifB_true h2
        obtain ⟨c2, h2⟩ := ifB_true h2
        obtain ⟨c3, h2⟩ := ifB_true h2
        replace c1 : 0 ≤ l := of_decide_eq_true c1
        replace c2 : l ≤ n := of_decide_eq_true c2
        replace c3 : n ≤ (List.length xs : Int) := of_decide_eq_true c3
        obtain ⟨ad, cap, ec, hc, hrr⟩ := A.slice
        have hv := A.ov hr
        rw [ec] at hv
        have hv : a.eval x = .slice ad xs.length cap := hv
        have hn' : (hi.map a.eval = none ∧ n = (xs.length : Nat)) ∨ ∃ q, hi.map a.eval = some (.int q n) := hn
        refine ok_value hd Rl F h2 (v := .slice (if cap = l.toNat then ad else ad.map (·.add (l.toNat * s1.size))) (n.toNat - l.toNat) (cap - l.toNat)) ?_ ?_
        · refine ⟨ob, e1, s1, t', ad, xs.length, cap, A.isOb, A.res, ?_, c1, c2, c3, hc, rfl⟩
          have := A.cells
          rw [ec] at this; exact this
        · simp only [execOp, ho, hv, Instr.sliceAt, Instr.slice, Sem.run_bind, run_underlying hu, Result.andThen_ok, Option.map_none, Sem.run_pure]
          rw [run_bounds hl hn' c1 c2 (by omega)]
          simp only [Result.andThen_ok, hi'.size]
      · cases h2
    · cases h2
  · rename_i e0 s0 e s hs hx
    have ht := tableOk_at hg hs
    obtain ⟨hu, hi', _⟩ := typeOk_sl ht
    rw [hx] at hr
    split at h
    · rename_i q1 q2 _ _
      subst q1 q2
      obtain ⟨l, h, hl⟩ := boundK_eq Rl h
      obtain ⟨n, h, hn⟩ := boundK_eq Rl h
      obtain ⟨c1, h⟩ := ifB_true h
      obtain ⟨c2, h⟩ := ifB_true h
      replace c1 : l = 0 := by simpa [pEq] using c1
      replace c2 : n = 0 := by simpa [pEq] using c2
      subst c1 c2
      have hv : a.eval x = .slice none 0 0 := hr
      have hn' : (hi.map a.eval = none ∧ (0 : Int) = (0 : Nat)) ∨ ∃ q, hi.map a.eval = some (.int q 0) := hn
      refine ok_value hd Rl F h (v := .slice none 0 0) rfl ?_
      simp only [execOp, ho, hv, Instr.sliceAt, Instr.slice, Sem.run_bind, run_underlying hu, Result.andThen_ok, Option.map_none, Sem.run_pure]
      rw [run_bounds hl hn' (by omega) (by omega) (by omega)]
      simp only [Result.andThen_ok, hi'.size]
      rfl
    · cases h
  · cases h
theorem foldl_bytes (xs : List Int) : xs.foldl (fun r n => r.push (UInt8.ofNat n.toNat)) ByteArray.empty = bytesOf xs := by
  have : ∀ (xs : List Int) (s : ByteArray), xs.foldl (fun r n => r.push (UInt8.ofNat n.toNat)) s = ⟨s.data ++ (xs.map fun n => UInt8.ofNat n.toNat).toArray⟩ := by
    intro xs
    induction xs with
    | nil => intro s; simp
    | cons x xs ih =>
      intro s
      rw [List.foldl_cons, ih]
      congr 1
      apply Array.ext'
      simp [ByteArray.push]
  rw [this]; simp [bytesOf]
theorem RepL_ints {m : Hp} {q : O} {kd : IntKind} : ∀ {xs : List Int} {h c}, RepL (Rep m (.int kd) q) h c xs → c = xs.map (Value.int kd)
  | [], _, _, r => r.2
  | x :: xs, _, _, ⟨h1, h2, c1, c2, s, e, r, rl⟩ => by rw [e, r.2, RepL_ints rl]; rfl
theorem op_convert (hg : tableOk P g.ty = true) (hd : a.defers = []) (Rl : Rel Z st a.tmps w) (F : Fr C Z w) {src dst : TypeId} {x : Operand} (ho : o.op = .convert src dst x) (hs : strB g src dst (evalT g st src x) = none)
    (h : opSem g st o k = some y) : Ok P C Z st o a w k y := by
  simp only [opSem, ho, hs] at h
  have hr := eval_rel Rl (look g.ty src) x
  unfold evalT at h
  split at h
  · rename_i q1 q q2 n h1 h2 hx
    have t1 := typeOk_int (tableOk_at hg h1)
    have t2 := typeOk_int (tableOk_at hg h2)
    have vx := eval_int Rl hx
    exact ok_value hd Rl F h (rel_int.2 rfl) (by simp [execOp, ho, vx, convert, run_underlying t1, run_underlying t2, Conv.intToInt, pConv])
  · rename_i b h1 h2 hx
    have t1 := typeOk_str (tableOk_at hg h1)
    have t2 := typeOk_str (tableOk_at hg h2)
    have vx := eval_str Rl hx
    exact ok_value hd Rl F h (rel_str.2 rfl) (by simp [execOp, ho, vx, convert, run_underlying t1, run_underlying t2])
  · rename_i e h1 h2
    have t1 := tableOk_at hg h1
    have t2 := typeOk_str (tableOk_at hg h2)
    obtain ⟨hu, _, _⟩ := typeOk_sl t1
    split at h
    · rename_i he
      have te := typeOk_int (tableOk_at hg he)
      obtain ⟨e1, s1, q, xs, h, ad, cap, hv, hrd⟩ := slOf_eq Rl h hr
      obtain ⟨ec, h⟩ := castL?_eq h
      subst ec
      refine ok_value hd Rl F h (rel_str.2 rfl) ?_
      simp only [execOp, ho, hv, Sem.run_bind, run_convert_bytes_string w src dst e ad _ cap hu te t2]
      by_cases hne : xs = []
      · subst hne
        cases ad with
        | none => simp [Conv.bytesToString, bytesOf]; rfl
        | some ad =>
          rw [run_bytesToString w ad _ cap [] (by simp [loadCells, loadCellsFrom])]
          rfl
      · obtain ⟨b, off, r, hR, ea, hcell, rl⟩ := hrd hne
        subst ea
        have er := RepL_ints rl
        rw [run_bytesToString w _ _ cap xs, foldl_bytes]
        · rfl
        · have := run_loadCells_list (P := P) w ⟨b, off, none⟩ r (fun j v e => by rw [addr_add]; exact hcell j v e)
          rw [er] at this
          simpa using this
    · cases h
  · cases h
end
end Go.AE
namespace Go.AE
theorem own_sub {m : Hp} {e : TypeId} {s : S} {q : O} {hR : Hp} {ad : Option Addr} {cap : Nat} {xs : List (den s)} {lo hi : Int} (h0 : 0 ≤ lo) (h1 : lo ≤ hi) (h2 : hi ≤ xs.length) (hc : xs.length ≤ cap)
    (r : Rep m (.sl e s) (.own q) hR [.slice ad xs.length cap] xs) :
    ∃ hR', Le hR' hR ∧ Rep m (.sl e s) (.own q) hR' [.slice (if cap = lo.toNat then ad else ad.map (·.add (lo.toNat * s.size))) (hi.toNat - lo.toNat) (cap - lo.toNat)] (sub xs lo hi) := by
  rcases r with ⟨e1, e2, e3⟩ | ⟨b, off, cap', r1, r2, k2, e2, hcap, hlen, sp, rl⟩
  · subst e1
    simp only [List.length_nil, List.cons.injEq, Value.slice.injEq, and_true] at e2
    obtain ⟨q1, q2⟩ := e2
    subst q1
    have q3 : cap = 0 := q2.2
    subst q3
    have : lo.toNat = 0 := by simp at h2; omega
    refine ⟨Hp.e, Le.e _, .inl ⟨by simp [sub], ?_, rfl⟩⟩
    simp at h2
    have : hi.toNat = 0 := by omega
    simp [*]
  · simp only [List.cons.injEq, Value.slice.injEq, and_true, true_and] at e2
    obtain ⟨q1, q2⟩ := e2
    subst q1 q2
    have hsl := sub_len h0 h1 h2
    by_cases hcl : cap = lo.toNat
    · have : hi.toNat - lo.toNat = 0 := by omega
      have hnil : sub xs lo hi = [] := List.eq_nil_of_length_eq_zero (by omega)
      refine ⟨Hp.e, Le.e _, .inr ⟨b, off, 0, [], [], Hp.e, ?_, by rw [hnil]; simp, by simp, by rw [List.append_nil, blk_nil]; exact Sp.e_left _, by rw [hnil]; exact ⟨rfl, rfl⟩⟩⟩
      rw [if_pos hcl, hnil, this]
      simp [hcl]
    · obtain ⟨d1, d2, d3, k1', k2', k3', k12', ed, el, s1, s2, rr2, _, _⟩ := RepL_part (Rep_len m s q) (lo := lo.toNat) (hi := hi.toNat) (by omega) (by omega) rl
      subst ed
      have sA := blk_append b off d1 (d2 ++ (d3 ++ r2))
      have eA : d1 ++ d2 ++ d3 ++ r2 = d1 ++ (d2 ++ (d3 ++ r2)) := by simp
      rw [eA] at sp
      have lek : Le k2' k2 := s2.right.trans s1.left
      have dj : Dj (blk b (off + d1.length) (d2 ++ (d3 ++ r2))) k2' := sp.dj.le sA.right lek
      refine ⟨Un (blk b (off + d1.length) (d2 ++ (d3 ++ r2))) k2', ?_, .inr ⟨b, off + d1.length, cap - lo.toNat, d2, d3 ++ r2, k2', ?_, ?_, ?_, Un.sp dj, rr2⟩⟩
      · intro x y v hv
        rcases (Un.sp dj).some hv with z | z
        · exact sp.left _ _ _ (sA.right _ _ _ z)
        · exact sp.right _ _ _ (lek _ _ _ z)
      · rw [if_neg hcl, hsl, el]; simp [addr_add]
      · rw [hsl]; omega
      · simp only [List.length_append] at hlen ⊢
        rw [Nat.sub_mul, ← hlen, el]; omega
end Go.AE
namespace Go.AE
structure Ext (w w' : World) : Prop where
  os : w'.os = w.os
  tape : w'.tape = w.tape
  output : w'.output = w.output
  size : w.heap.size ≤ w'.heap.size
  block : ∀ b, b < w.heap.size → w'.heap[b]? = w.heap[b]?
theorem Ext.refl (w : World) : Ext w w := ⟨rfl, rfl, rfl, Nat.le_refl _, fun _ _ => rfl⟩
theorem Ext.trans {a b c : World} (h : Ext a b) (k : Ext b c) : Ext a c :=
  ⟨k.os.trans h.os, k.tape.trans h.tape, k.output.trans h.output, Nat.le_trans h.size k.size, fun i hi => (k.block i (Nat.lt_of_lt_of_le hi h.size)).trans (h.block i hi)⟩
theorem Ext.alloc (w : World) (o : Obj) : Ext w (w.alloc o) :=
  ⟨rfl, rfl, rfl, by simp, fun b hb => by show (w.heap.push o)[b]? = _; rw [Array.getElem?_push, if_neg (by omega)]⟩
theorem Ext.drew (w : World) : Ext w w.drew := ⟨rfl, rfl, rfl, Nat.le_refl _, fun _ _ => rfl⟩
theorem cell_of_heap {w w' : World} {b o : Nat} (h : w'.heap[b]? = w.heap[b]?) : hat w' b o = hat w b o := hat_of_heap h
theorem frozen_of_heap {w w' : World} {b o : Nat} (h : w'.heap[b]? = w.heap[b]?) : w'.frozen? ⟨b, o, none⟩ = w.frozen? ⟨b, o, none⟩ := by
  unfold World.frozen?; rw [h]
theorem shape_of_heap {w w' : World} {b : Nat} (h : w'.heap[b]? = w.heap[b]?) : w'.shape? b = w.shape? b := by
  unfold World.shape?; rw [h]
theorem shape_lt {w : World} {b : Nat} {x} (h : w.shape? b = some x) : b < w.heap.size := by
  rcases Nat.lt_or_ge b w.heap.size with q | q
  · exact q
  · simp [World.shape?, Array.getElem?_eq_none q] at h
theorem cell_lt {w : World} {b o : Nat} {v : Cel} (h : hat w b o = some v) : b < w.heap.size := hat_lt h
theorem Ext.cell {w w' : World} (h : Ext w w') {b o : Nat} (hb : b < w.heap.size) : hat w' b o = hat w b o := cell_of_heap (h.block b hb)
theorem Ext.frz {w w' : World} (h : Ext w w') {b o : Nat} (hb : b < w.heap.size) : w'.frozen? ⟨b, o, none⟩ = w.frozen? ⟨b, o, none⟩ := frozen_of_heap (h.block b hb)
theorem Ext.shp {w w' : World} (h : Ext w w') {b : Nat} (hb : b < w.heap.size) : w'.shape? b = w.shape? b := shape_of_heap (h.block b hb)
theorem MkAt.keep {n : Nat} {w w' : World} (hs : ∀ b, b < w.heap.size → w'.shape? b = w.shape? b) {b : Nat} {z : Nat × Nat × Nat × Nat} (h : MkAt n w b z) : MkAt n w' b z :=
  ⟨by rw [hs b (shape_lt h.1)]; exact h.1, h.2.imp id fun k => ⟨by rw [hs _ (shape_lt k.1)]; exact k.1, k.2⟩⟩
theorem mk_keep {n : Nat} {w w' : World} {Z Z' : Sup} (hs : ∀ b, b < w.heap.size → w'.shape? b = w.shape? b)
    (hk : ∀ r b off v z, Z.pd r = some (b, off, v) → markOf v = some z → MkAt n w b z)
    (hp : ∀ r b off v z, Z'.pd r = some (b, off, v) → markOf v = some z → (∃ r', Z.pd r' = some (b, off, v)) ∨ MkAt n w' b z) :
    ∀ r b off v z, Z'.pd r = some (b, off, v) → markOf v = some z → MkAt n w' b z := by
  intro r b off v z h1 h2
  rcases hp r b off v z h1 h2 with ⟨r', h3⟩ | h3
  · exact (hk r' b off v z h3 h2).keep hs
  · exact h3
theorem NF.ext {w w' : World} {b : Nat} (n : NF w b) (h : Ext w w') (hb : b < w.heap.size) : NF w' b := n.same (fun o => h.frz hb) (h.shp hb)
def uH (hs : Nat → Hp) : List Nat → Hp
  | [] => Hp.e
  | r :: l => Un (hs r) (uH hs l)
theorem memNat_iff {a : Nat} : ∀ {l : List Nat}, memNat a l = true ↔ a ∈ l
  | [] => by simp [memNat]
  | b :: l => by simp [memNat, memNat_iff (l := l)]
theorem memNat_false {a : Nat} {l : List Nat} : memNat a l = false ↔ a ∉ l := by
  rw [← memNat_iff]; simp
theorem uH_some {hs : Nat → Hp} {b o : Nat} {v : Cel} : ∀ {l : List Nat}, uH hs l b o = some v → ∃ r ∈ l, hs r b o = some v
  | [], h => by cases h
  | r :: l, h => by
    simp only [uH, Un] at h
    cases hr : hs r b o with
    | some u => rw [hr] at h; exact ⟨r, by simp, by simpa [hr] using h⟩
    | none =>
      rw [hr] at h
      obtain ⟨r', h1, h2⟩ := uH_some (l := l) (by simpa using h)
      exact ⟨r', by simp [h1], h2⟩
theorem uH_none {hs : Nat → Hp} {b o : Nat} : ∀ {l : List Nat}, (∀ r ∈ l, hs r b o = none) → uH hs l b o = none
  | [], _ => rfl
  | r :: l, h => by simp [uH, Un, h r (by simp), uH_none (l := l) (fun r hr => h r (by simp [hr]))]
theorem uH_dj {hs : Nat → Hp} {k : Hp} {l : List Nat} (h : ∀ r ∈ l, Dj (hs r) k) : Dj (uH hs l) k := fun b o => by
  cases hk : k b o with
  | none => exact .inr rfl
  | some v => left; exact uH_none fun r hr => by rcases h r hr b o with q | q; · exact q
                                                 · rw [hk] at q; cases q
theorem look_drop : ∀ (l : List (Nat × Ob)) (m r : Nat), look (dropOb l m) r = if r = m then none else look l r
  | [], m, r => by simp [dropOb, look]
  | (n, a) :: l, m, r => by
    simp only [dropOb]
    cases h : Nat.beq n m with
    | true =>
      have := Nat.eq_of_beq_eq_true h
      subst this
      rw [cond_true, look_drop l n r]
      by_cases hr : r = n
      · simp [hr]
      · simp only [hr, if_false, look]
        have : Nat.beq n r = false := by
          cases hh : Nat.beq n r
          · rfl
          · exact absurd (Nat.eq_of_beq_eq_true hh).symm hr
        rw [this]; rfl
    | false =>
      rw [cond_false]
      simp only [look]
      cases h2 : Nat.beq n r with
      | true =>
        have := Nat.eq_of_beq_eq_true h2
        subst this
        have : ¬ n = m := fun e => by subst e; simp at h
        simp [this]
      | false => simp only [cond_false]; exact look_drop l m r
theorem look_put : ∀ (l : List (Nat × Ob)) (m r : Nat) (b : Ob), look (putOb l m b) r = if r = m then some b else look l r
  | [], m, r, b => by
    simp only [putOb, look]
    by_cases h : r = m
    · subst h; simp
    · have : Nat.beq m r = false := by
        cases hh : Nat.beq m r
        · rfl
        · exact absurd (Nat.eq_of_beq_eq_true hh).symm h
      simp [h, this]
  | (n, a) :: l, m, r, b => by
    simp only [putOb]
    cases h : Nat.beq n m with
    | true =>
      have := Nat.eq_of_beq_eq_true h
      subst this
      simp only [cond_true, look]
      by_cases hr : r = n
      · subst hr; simp
      · have : Nat.beq n r = false := by
          cases hh : Nat.beq n r
          · rfl
          · exact absurd (Nat.eq_of_beq_eq_true hh).symm hr
        simp [hr, this]
    | false =>
      simp only [cond_false]
      cases hle : Nat.ble (m + 1) n with
      | true =>
        simp only [cond_true]
        by_cases hr : r = m
        · subst hr; simp [look]
        · have : Nat.beq m r = false := by
            cases hh : Nat.beq m r
            · rfl
            · exact absurd (Nat.eq_of_beq_eq_true hh).symm hr
          rw [if_neg hr]
          simp only [look, this, cond_false]
      | false =>
        simp only [cond_false, look]
        cases h2 : Nat.beq n r with
        | true =>
          have := Nat.eq_of_beq_eq_true h2
          subst this
          have : ¬ n = m := fun e => by subst e; simp at h
          simp [this]
        | false => simp only [cond_false]; exact look_put l m r b
theorem upds_app : ∀ (u v : List (Nat × Option Ob)) (l : List (Nat × Ob)), upds (u ++ v) l = upds v (upds u l)
  | [], v, l => rfl
  | (r, none) :: u, v, l => by simp only [List.cons_append, upds]; exact upds_app u v _
  | (r, some b) :: u, v, l => by simp only [List.cons_append, upds]; exact upds_app u v _
theorem look_gone : ∀ (gone : List Nat) (l : List (Nat × Ob)) (r : Nat), look (upds (goneU gone) l) r = if r ∈ gone then none else look l r
  | [], l, r => by simp [goneU, upds]
  | n :: gone, l, r => by
    simp only [goneU, upds]
    rw [look_gone gone, look_drop]
    by_cases h : r ∈ gone
    · simp [h]
    · by_cases h2 : r = n
      · simp [h2]
      · simp [h, h2]
theorem hle_none {H A B : Hp} {b o : Nat} (h : ∀ b o v, H b o = some v → A b o = some v ∨ B b o = some v) (h1 : A b o = none) (h2 : B b o = none) : H b o = none := by
  cases e : H b o with
  | none => rfl
  | some v =>
    rcases h b o v e with z | z
    · rw [h1] at z; cases z
    · rw [h2] at z; cases z
def newSup (Z : Sup) (id : Nat) (gone : List Nat) (h : Hp) (t : Top) : Sup :=
  { Z with hs := fun r => if r = id then h else if r ∈ gone then Hp.e else Z.hs r, tops := fun r => if r = id then t else Z.tops r, rs := fun r => if r = id then h else Z.rs r }
theorem hit_all_false {r : Nat} {a : AV} (h : hit r .all a = false) (r' : Nat) :
    (∀ p, a = .ptr r' p → r' ≠ r) ∧ (∀ p, a = .ov r' p → r' ≠ r) ∧ (∀ p lo hi, a = .osub r' p lo hi → r' ≠ r) ∧ (∀ p, a = .app r' p → r' ≠ r) ∧ (∀ p, a = .bx r' p → r' ≠ r) := by
  refine ⟨fun p e => ?_, fun p e => ?_, fun p lo hi e => ?_, fun p e => ?_, fun p e => ?_⟩ <;> subst e <;> intro e <;> subst e <;> simp [hit, hitPtr, hitOv] at h
theorem anyCap_false {r : Nat} {k : KK} : ∀ {l : List Cap}, anyCap r k l = false → ∀ c ∈ l, hitCap r k c = false
  | [], _, _, h => by cases h
  | b :: l, e, c, h => by
    simp only [anyCap, Bool.or_eq_false_iff] at e
    cases h with
    | head => exact e.1
    | tail _ h => exact anyCap_false e.2 c h
theorem rel_keep {Z Z' : Sup} {ob ob' : Obs} {bad : Nat → Prop} (hm : Le Z.m Z'.m) (hob : ∀ r, ¬ bad r → ob' r = ob r) (hhs : ∀ r, ¬ bad r → Z'.hs r = Z.hs r)
    (htop : ∀ r, ¬ bad r → Z'.tops r = Z.tops r) (hpd : ∀ r, ¬ bad r → Z'.pd r = Z.pd r) (hrs : ∀ r, ¬ bad r → Z'.rs r = Z.rs r) {a : AV} {v : Value} (h : ∀ r, bad r → hit r .all a = false)
    (hv : RelAV Z ob a v) : RelAV Z' ob' a v := by
  have ptr : ∀ r p v, ¬ bad r → isPtr Z ob r p v → isPtr Z' ob' r p v := by
    intro r p v hr ⟨o, s', b, off, e1, e2, e3⟩
    exact ⟨o, s', b, off, by rw [hob r hr]; exact e1, by rw [hrs r hr, htop r hr]; exact e2, e3⟩
  have rp : ∀ s (x : den s) v, isRp Z s x v → isRp Z' s x v := by
    intro s x v ⟨b, off, c, e1, e2, e3⟩
    exact ⟨b, off, c, e1, e2.mono hm, Rep_mono hm _ _ _ _ _ e3⟩
  cases a with
  | pv s x => obtain ⟨c, e, r⟩ := hv; exact ⟨c, e, Rep_mono hm _ _ _ _ _ r⟩
  | rp s x => exact rp s x v hv
  | z s => exact hv
  | dead => trivial
  | ptr r p =>
    have hr : ¬ bad r := fun hb => (hit_all_false (h r hb) r).1 p rfl rfl
    exact ptr r p v hr hv
  | ov r p =>
    have hr : ¬ bad r := fun hb => (hit_all_false (h r hb) r).2.1 p rfl rfl
    obtain ⟨o, s', t, c, e1, e2, e3, e4⟩ := hv
    exact ⟨o, s', t, c, by rw [hob r hr]; exact e1, by rw [hhs r hr, htop r hr]; exact e2, by rw [hhs r hr]; exact e3, e4⟩
  | bx r p =>
    have hr : ¬ bad r := fun hb => (hit_all_false (h r hb) r).2.2.2.2 p rfl rfl
    obtain ⟨o, s', t, c, b, off, e1, e2, e3, e4, e5, e6⟩ := hv
    exact ⟨o, s', t, c, b, off, by rw [hob r hr]; exact e1, by rw [hhs r hr, htop r hr]; exact e2, by rw [hhs r hr]; exact e3, e4, e5, e6.mono hm⟩
  | osub r p lo hi =>
    have hr : ¬ bad r := fun hb => (hit_all_false (h r hb) r).2.2.1 p lo hi rfl rfl
    obtain ⟨o, e, s', t, ad, len, cap, e1, e2, e3, e4⟩ := hv
    exact ⟨o, e, s', t, ad, len, cap, by rw [hob r hr]; exact e1, by rw [hhs r hr, htop r hr]; exact e2, by rw [hhs r hr]; exact e3, e4⟩
  | app r p =>
    have hr : ¬ bad r := fun hb => (hit_all_false (h r hb) r).2.2.2.1 p rfl rfl
    obtain ⟨o, b, off, e1, e2, e3⟩ := hv
    exact ⟨o, b, off, by rw [hob r hr]; exact e1, e2, by rw [hpd r hr]; exact e3⟩
  | fn f caps =>
    obtain ⟨vs, e, al⟩ := hv
    refine ⟨vs, e, al.imp fun c hc v hcv => ?_⟩
    have hcap : ∀ r, bad r → hitCap r .all c = false := fun r hb => anyCap_false (h r hb) c hc
    cases c with
    | cp r p =>
      have hr : ¬ bad r := fun hb => by have := hcap r hb; simp [hitCap, hitPtr] at this
      exact ptr r p v hr hcv
    | cr s x => exact rp s x v hcv
theorem RelOb_keep {Z Z' : Sup} {r : Nat} {o : Ob} (hm : Le Z.m Z'.m) (hhs : Z'.hs r = Z.hs r) (htop : Z'.tops r = Z.tops r) (hpd : Z'.pd r = Z.pd r) (hrs : Z'.rs r = Z.rs r) (h : RelOb Z r o) : RelOb Z' r o := by
  have rt : ∀ {s q h t} {x : den s}, RepT Z.m s q h t x → RepT Z'.m s q h t x := by
    intro s q h t x r
    cases t with
    | flt c => exact Rep_mono hm _ _ _ _ _ r
    | mem b off => obtain ⟨c, h2, sp, r⟩ := r; exact ⟨c, h2, sp, Rep_mono hm _ _ _ _ _ r⟩
  obtain ⟨h1, h2⟩ := h
  refine ⟨by rw [htop]; exact h1, ?_⟩
  cases hp : o.pend with
  | none => rw [hp] at h2; rw [hhs, htop]; exact rt h2
  | some p =>
    rw [hp] at h2
    obtain ⟨b, off, v, et, s', e1, e2, e3, e4, e5⟩ := h2
    exact ⟨b, off, v, et, s', by rw [hpd]; exact e1, by rw [hhs]; exact e2, by rw [hhs, htop]; exact rt e3, by rw [hrs, htop]; exact e4, e5.imp fun _ h => h.imp fun _ h => h.imp fun _ h => ⟨h.1, fun t e q => by
      have := h.2 t e q
      unfold BltOk at *
      rw [hhs, htop]; exact this⟩⟩
section
variable {P : Program} {tb : Hp} {C : Ctx tb} {Z : Sup} {st : St} {a : Act} {w w' : World} {g : Cfg} {o : Oper} {R : Type} {k : Eff → Option R} {y : R}
theorem goneU_mem {gone : List Nat} : ∀ {r : Nat}, r ∈ gone → (r, (none : Option Ob)) ∈ goneU gone := by
  induction gone with
  | nil => intro r h; cases h
  | cons n l ih =>
    intro r h
    cases h with
    | head => simp [goneU]
    | tail _ h => simp [goneU, ih h]
theorem goneK_mem {gone : List Nat} : ∀ {r : Nat}, r ∈ gone → (r, KK.all) ∈ goneK gone := by
  induction gone with
  | nil => intro r h; cases h
  | cons n l ih =>
    intro r h
    cases h with
    | head => simp [goneK]
    | tail _ h => simp [goneK, ih h]
theorem inv_new (hd : a.defers = []) (Rl : Rel Z st a.tmps w) (F : Fr C Z w) (E : Ext w w') {d : Option Tmp} {mem : Bool} {s : S} {q : O} {x : den s} {gone : List Nat} {H Hn : Hp} {t : Top} {v : Value}
    (hle : ∀ b o v, H b o = some v → Hn b o = some v ∨ uH Z.hs gone b o = some v) (rep : RepT Z.m s q H t x)
    (hn : ∀ b o v, Hn b o = some v → hat w' b o = some v ∧ NF w' b ∧ w.heap.size ≤ b)
    (hv : (mem = true ∧ ∃ b off, t = .mem b off ∧ v = .pointer (some ⟨b, off, none⟩)) ∨ (mem = false ∧ ∃ c, t = .flt c ∧ v = mkVal s c)) :
    InvK C Z st d (effNew d mem s q x gone) (a.put d v) w' := by
  refine ⟨by rw [put_defers]; exact hd, newSup Z (newId (d.getD 0)) gone H t, ?_, ?_, Le.refl _, fun r hr => ?_⟩
  rotate_left 2
  · have h1 : r ≠ newId (d.getD 0) := fun e => hr (newId (d.getD 0), some { s, o := q, x, mem }) (by simp [effNew]) e.symm
    have h2 : r ∉ gone := fun q => hr (r, none) (List.mem_append_left _ (goneU_mem q)) rfl
    simp [newSup, h1, h2]
  · generalize hid : newId (d.getD 0) = id
    have eff_eq : effNew d mem s q x gone = { av := .one (bif mem then .ptr id [] else .ov id []), upd := goneU gone ++ [(id, some { s, o := q, x, mem })], kill := goneK gone ++ [(id, .all)] } := by
      unfold effNew; rw [hid]
    have oblk : ∀ r, (st.apply d (effNew d mem s q x gone)).ob r = if r = id then some { s, o := q, x, mem } else if r ∈ gone then none else st.ob r := by
      intro r
      rw [eff_eq]
      show look (upds (goneU gone ++ [(id, some _)]) st.objs) r = _
      rw [upds_app]
      show look (putOb (upds (goneU gone) st.objs) id _) r = _
      rw [look_put, look_gone]
      rfl
    have cells : ∀ r b o v, Z.hs r b o = some v → hat w' b o = some v ∧ NF w' b := by
      intro r b o v e
      have := Rl.own r b o v e
      have hb := cell_lt this.1
      rw [E.cell hb]; exact ⟨this.1, this.2.ext E hb⟩
    have hnz : ∀ r, Dj Hn (Z.hs r) := by
      intro r b o
      cases h1 : Hn b o with
      | none => exact .inl rfl
      | some v1 =>
        right
        cases h2 : Z.hs r b o with
        | none => rfl
        | some v2 =>
          have := cell_lt (Rl.own r b o v2 h2).1
          have := (hn b o v1 h1).2.2
          omega
    have Hdj : ∀ r, r ∉ gone → Dj H (Z.hs r) := by
      intro r hr b o
      cases h2 : Z.hs r b o with
      | none => exact .inr rfl
      | some v2 =>
        left
        have h1 : Hn b o = none := by rcases hnz r b o with z | z; · exact z
                                      · rw [h2] at z; cases z
        have h3 : uH Z.hs gone b o = none := uH_none fun r' hr' => by
          rcases Rl.dj r' r (fun e => hr (e ▸ hr')) b o with z | z
          · exact z
          · rw [h2] at z; cases z
        exact hle_none hle h1 h3
    rw [show (st.apply d (effNew d mem s q x gone)) = st.apply d { av := .one (bif mem then .ptr id [] else .ov id []), upd := goneU gone ++ [(id, some { s, o := q, x, mem })], kill := goneK gone ++ [(id, .all)] } from by rw [eff_eq]]
    refine Rl.apply (e := { av := .one (bif mem then .ptr id [] else .ov id []), upd := goneU gone ++ [(id, some { s, o := q, x, mem })], kill := goneK gone ++ [(id, .all)] }) ?_ ?_ ?_ ?_ ?_ ?_ ?_ ?_ ?_
    · intro b o v e
      have := Rl.imm b o v e
      rw [E.cell (cell_lt this)]; exact this
    · intro r b o v e
      simp only [newSup] at e
      split at e
      · rcases hle b o v e with e | e
        · exact ⟨(hn b o v e).1, (hn b o v e).2.1⟩
        · obtain ⟨r', _, e⟩ := uH_some e
          exact cells r' b o v e
      · split at e
        · cases e
        · exact cells r b o v e
    · intro r
      show Dj Z.m (if r = id then H else if r ∈ gone then Hp.e else Z.hs r)
      split
      · intro b o
        cases hm : Z.m b o with
        | none => exact .inl rfl
        | some v =>
          right
          have hb := cell_lt (Rl.imm b o v hm)
          have h1 : Hn b o = none := by
            cases h1 : Hn b o with
            | none => rfl
            | some v1 => have := (hn b o v1 h1).2.2; omega
          have h3 : uH Z.hs gone b o = none := uH_none fun r' _ => by
            rcases Rl.mdj r' b o with z | z
            · rw [hm] at z; cases z
            · exact z
          exact hle_none hle h1 h3
      · split
        · exact Dj.e _
        · exact Rl.mdj r
    · intro r r' hne
      show Dj (if r = id then H else if r ∈ gone then Hp.e else Z.hs r) (if r' = id then H else if r' ∈ gone then Hp.e else Z.hs r')
      by_cases c1 : r = id
      · have c2 : ¬ r' = id := fun e => hne (c1.trans e.symm)
        rw [if_pos c1, if_neg c2]
        by_cases c3 : r' ∈ gone
        · rw [if_pos c3]; exact Dj.e _
        · rw [if_neg c3]; exact Hdj _ c3
      · rw [if_neg c1]
        by_cases c2 : r' = id
        · rw [if_pos c2]
          by_cases c3 : r ∈ gone
          · rw [if_pos c3]; exact (Dj.e _).symm
          · rw [if_neg c3]; exact (Hdj _ c3).symm
        · rw [if_neg c2]
          by_cases c3 : r ∈ gone
          · rw [if_pos c3]; exact (Dj.e _).symm
          · rw [if_neg c3]
            by_cases c4 : r' ∈ gone
            · rw [if_pos c4]; exact Dj.e _
            · rw [if_neg c4]; exact Rl.dj r r' hne
    · intro r ob he
      rw [← eff_eq] at he
      rw [oblk] at he
      split at he
      · rename_i hr
        injection he with he
        subst he hr
        refine ⟨?_, ?_⟩
        · show mem = true ↔ ∃ b off, (if r = r then t else _) = _
          rw [if_pos rfl]
          rcases hv with ⟨e1, b, off, e2, _⟩ | ⟨e1, c, e2, _⟩
          · simp [e1, e2]
          · simp [e1, e2]
        · show RepT Z.m s q (if r = r then H else _) (if r = r then t else _) x
          rw [if_pos rfl, if_pos rfl]; exact rep
      · split at he
        · cases he
        · rename_i h1 h2
          exact RelOb_keep (Z := Z) (Le.refl Z.m) (by simp [newSup, h1, h2]) (by simp [newSup, h1]) rfl (by simp [newSup, h1]) (Rl.obs r ob he)
    · intro z u hun hz
      refine rel_keep (Z := Z) (Z' := newSup Z id gone H t) (bad := fun r => r = id ∨ r ∈ gone) (Le.refl Z.m) ?_ ?_ ?_ ?_ ?_ ?_ hz
      · intro r hr
        rw [← eff_eq, oblk]
        simp only [not_or] at hr
        simp [hr.1, hr.2]
      · intro r hr; simp only [not_or] at hr; simp [newSup, hr.1, hr.2]
      · intro r hr; simp only [not_or] at hr; simp [newSup, hr.1]
      · intro r hr; rfl
      · intro r hr; simp only [not_or] at hr; simp [newSup, hr.1]
      · rintro r (hr | hr)
        · subst hr; exact hun (r, .all) (by simp)
        · exact hun (r, .all) (by simp [goneK_mem hr])
    · have hob : (st.apply d { av := .one (bif mem then .ptr id [] else .ov id []), upd := goneU gone ++ [(id, some { s, o := q, x, mem })], kill := goneK gone ++ [(id, .all)] }).ob id = some { s, o := q, x, mem } := by
        rw [← eff_eq, oblk]; simp
      rcases hv with ⟨e1, b, off, e2, e3⟩ | ⟨e1, c, e2, e3⟩
      · subst e1
        exact ⟨_, s, b, off, hob, by simp [newSup, res_nil, e2], e3⟩
      · subst e1
        exact ⟨_, s, .flt c, c, hob, by simp [newSup, res_nil, e2], rfl, e3⟩
    · intro r ob he hpn
      rw [← eff_eq] at he
      rw [oblk] at he
      split at he
      · rename_i hr; simp [newSup, hr]
      · split at he
        · cases he
        · rename_i h1 h2; simp [newSup, h1, h2]; exact Rl.rse r ob he hpn
    · intro r ob he hlt hmf
      rw [← eff_eq] at he
      rw [oblk] at he
      split at he
      · rename_i hr; exfalso; rw [hr, ← hid] at hlt; unfold newId at hlt; omega
      · split at he
        · cases he
        · rename_i h1 h2; simp only [newSup, h1, if_false]; exact Rl.pin r ob he hlt hmf
  · refine ⟨E.os.trans F.os, E.tape.trans F.tape, E.output.trans F.output, Nat.le_trans F.size E.size, ?_, ?_, ?_, F.m, ?_, F.mf, F.ptop, fun b hb => (E.shp (Nat.lt_of_lt_of_le hb F.size)).trans (F.shp b hb), mk_keep (fun b hb => E.shp hb) F.blt ?mkp⟩
    case mkp =>
      intro r b off v z h1 h2
      exact .inl ⟨r, by simpa [newSup] using h1⟩
    · intro b hb ho; rw [E.block b (Nat.lt_of_lt_of_le hb F.size)]; exact F.block b hb ho
    · intro b o hb ho; rw [E.cell (Nat.lt_of_lt_of_le hb F.size)]; exact F.cell b o hb ho
    · intro b o hb; rw [E.frz (Nat.lt_of_lt_of_le hb F.size)]; exact F.frz b o hb
    · intro r b o he
      simp only [newSup] at he
      split at he
      · cases h1 : Hn b o with
        | some v1 => right; exact Nat.le_trans F.size (hn b o v1 h1).2.2
        | none =>
          cases h2 : uH Z.hs gone b o with
          | none => exact absurd (hle_none hle h1 h2) he
          | some v2 =>
            obtain ⟨r', _, h3⟩ := uH_some h2
            exact F.hs r' b o (by rw [h3]; simp)
      · split at he
        · exact absurd rfl he
        · exact F.hs r b o he
theorem partOf_eq (Rl : Rel Z st a.tmps w) {x : AV} {kk : (s : S) → O → den s → List Nat → Option R} (h : partOf g st x kk = some y) {v : Value} (hv : RelAV Z st.ob x v) :
    ∃ s q x' c, kk s q x' c = some y ∧ (c = [] ∨ ∃ r, c = [r]) ∧ ∃ cs, v = mkVal s cs ∧ ∃ H, Le H (uH Z.hs c) ∧ Rep Z.m s q H cs x' := by
  unfold partOf at h
  split at h
  · rename_i s x'
    obtain ⟨cs, e, r⟩ := hv
    exact ⟨s, .imm, x', [], h, .inl rfl, cs, e, _, Le.e _, r⟩
  · rename_i s
    exact ⟨s, zmask g s, s.zero, [], h, .inl rfl, _, hv, _, Le.e _, Rep_zero _ _ _⟩
  · rename_i r p
    split at h
    · rename_i ob hob
      cases hf : ob.fixed with
      | true => rw [hf] at h; cases h
      | false =>
        rw [hf, cond_false] at h
        obtain ⟨ob2, s, x', t, c, h2, A⟩ := atPlace_eq Rl h
        have ev := A.ov hv
        obtain ⟨hR, rep, hle⟩ := A.rep
        refine ⟨s, _, x', [r], h2, .inr ⟨r, rfl⟩, c, ev, hR, ?_, rep⟩
        have : uH Z.hs [r] = Z.hs r := funext fun b => funext fun o => by simp [uH, Un, Hp.e]
        rw [this]; exact hle
    · cases h
  · rename_i r lo hi
    split at h
    · rename_i ob0 hob0
      split at h
      · obtain ⟨ob, s, x, t, c, h2, A⟩ := atPlace_eq Rl h
        split at h2
        · rename_i e s o1 xs hmk
          obtain ⟨ad, cap, ec, hc, h4, h5, h6, h7⟩ := osub_at A hv
          obtain ⟨hR, rep, hle⟩ := A.rep
          rw [hmk, ec] at rep
          obtain ⟨hB, hBle, rb⟩ := own_sub h4 h5 h6 hc rep
          have : uH Z.hs [r] = Z.hs r := funext fun b => funext fun o => by simp [uH, Un, Hp.e]
          exact ⟨_, _, _, [r], h2, .inr ⟨r, rfl⟩, [.slice (if cap = lo.toNat then ad else ad.map (·.add (lo.toNat * s.size))) (hi.toNat - lo.toNat) (cap - lo.toNat)], h7, hB, by rw [this]; exact hBle.trans hle, rb⟩
        · cases h2
      · cases h
    · cases h
  · cases h
theorem inv_imm (hd : a.defers = []) (Rl : Rel Z st a.tmps w) (F : Fr C Z w) (E : Ext w w') {d : Option Tmp} {x : AV} {v : Value} {Hn : Hp}
    (hn : ∀ b o v, Hn b o = some v → hat w' b o = some v ∧ w.heap.size ≤ b) (hx : RelAV { Z with m := Un Z.m Hn } st.ob x v) :
    InvK C Z st d (eff x) (a.put d v) w' := by
  have hle : Le Z.m (Un Z.m Hn) := Un.le_left _ _
  have hun : ∀ b o v, Un Z.m Hn b o = some v → Z.m b o = some v ∨ Hn b o = some v := by
    intro b o v e
    unfold Un at e
    cases hz : Z.m b o with
    | none => rw [hz] at e; exact .inr (by simpa using e)
    | some u => rw [hz] at e; exact .inl (by simpa using e)
  have heq : (st.apply d (eff x)).ob = st.ob := by cases d <;> rfl
  refine ⟨by rw [put_defers]; exact hd, { Z with m := Un Z.m Hn }, ?_, ?_, hle, fun r _ => ⟨rfl, rfl, rfl, rfl⟩⟩
  · refine Rl.apply (e := eff x) ?_ ?_ ?_ Rl.dj ?_ ?_ (by rw [heq]; exact hx) ?_ ?_
    · intro b o v e
      rcases hun b o v e with q | q
      · have := Rl.imm b o v q
        rw [E.cell (cell_lt this)]; exact this
      · exact (hn b o v q).1
    · intro r b o v e
      have := Rl.own r b o v e
      rw [E.cell (cell_lt this.1)]; exact ⟨this.1, this.2.ext E (cell_lt this.1)⟩
    · intro r b o
      cases h2 : Z.hs r b o with
      | none => exact .inr rfl
      | some v2 =>
        left
        show Un Z.m Hn b o = none
        cases hq : Un Z.m Hn b o with
        | none => rfl
        | some u =>
          exfalso
          rcases hun b o u hq with q | q
          · rcases Rl.mdj r b o with z | z
            · rw [q] at z; cases z
            · rw [h2] at z; cases z
          · have h3 := (hn b o u q).2
            have := cell_lt (Rl.own r b o v2 h2).1
            omega
    · intro r o e
      rw [heq] at e
      exact RelOb_keep hle rfl rfl rfl rfl (Rl.obs r o e)
    · intro y u _ hv
      rw [heq]
      exact rel_keep (Z := Z) (Z' := { Z with m := Un Z.m Hn }) (bad := fun _ => False) hle (fun _ _ => rfl) (fun _ _ => rfl) (fun _ _ => rfl) (fun _ _ => rfl) (fun _ _ => rfl) (fun _ h => h.elim) hv
    · intro r o e; rw [heq] at e; exact Rl.rse r o e
    · intro r o e; rw [heq] at e; exact Rl.pin r o e
  · refine ⟨E.os.trans F.os, E.tape.trans F.tape, E.output.trans F.output, Nat.le_trans F.size E.size, fun b hb hz => ?_, fun b o hb hz => ?_, fun b o hb => ?_, F.m.trans hle, F.hs, fun b o e => ?_, F.ptop, fun b hb => (E.shp (Nat.lt_of_lt_of_le hb F.size)).trans (F.shp b hb), mk_keep (fun b hb => E.shp hb) F.blt (fun r b off v z h1 h2 => .inl ⟨r, h1⟩)⟩
    · rw [E.block b (Nat.lt_of_lt_of_le hb F.size)]; exact F.block b hb hz
    · rw [E.cell (Nat.lt_of_lt_of_le hb F.size)]; exact F.cell b o hb hz
    · rw [E.frz (Nat.lt_of_lt_of_le hb F.size)]; exact F.frz b o hb
    · have e : Un Z.m Hn b o ≠ none := e
      cases hq : Un Z.m Hn b o with
      | none => exact absurd hq e
      | some u =>
        rcases hun b o u hq with q | q
        · exact F.mf b o (by rw [q]; simp)
        · exact .inr (.inr (Nat.le_trans F.size (hn b o u q).2))
end
end Go.AE
namespace Go.AE
theorem RepL_one {A : Type} {R : Hp → List Value → A → Prop} (hR : ∀ h c x, R h c x → ∀ v ∈ c, v.oneCell' = true) : ∀ {xs : List A} {h c}, RepL R h c xs → ∀ v ∈ c, v.oneCell' = true
  | [], _, _, ⟨_, e⟩, v, hv => by rw [e] at hv; cases hv
  | x :: xs, _, _, ⟨h1, h2, c1, c2, _, e, r, rl⟩, v, hv => by
    rw [e] at hv
    rcases List.mem_append.1 hv with q | q
    · exact hR _ _ _ r v q
    · exact RepL_one hR rl v q
theorem Rep_one (m : Hp) : ∀ (s : S) (o : O) (h : Hp) (c : List Value) (x : den s), Rep m s o h c x → ∀ v ∈ c, v.oneCell' = true
  | .int _, _, _, _, _, ⟨_, e⟩, v, hv => by rw [e] at hv; simp at hv; rw [hv]; rfl
  | .bool, _, _, _, _, ⟨_, e⟩, v, hv => by rw [e] at hv; simp at hv; rw [hv]; rfl
  | .str, _, _, _, _, ⟨_, e⟩, v, hv => by rw [e] at hv; simp at hv; rw [hv]; rfl
  | .unit, _, _, _, _, ⟨_, e⟩, v, hv => by rw [e] at hv; simp at hv
  | .pair a b, o, h, c, x, ⟨h1, h2, c1, c2, _, e, r1, r2⟩, v, hv => by
    rw [e] at hv
    rcases List.mem_append.1 hv with q | q
    · exact Rep_one m a _ _ _ _ r1 v q
    · exact Rep_one m b _ _ _ _ r2 v q
  | .sl _ s, .own o, h, c, xs, r, v, hv => by
    rcases r with ⟨_, e, _⟩ | ⟨b, off, cap, r1, r2, h2, e, _⟩ <;> (rw [e] at hv; simp at hv; rw [hv]; rfl)
  | .sl _ s, .imm, h, c, xs, ⟨_, a, cap, e, _⟩, v, hv => by rw [e] at hv; simp at hv; rw [hv]; rfl
  | .sl _ s, .pr _ _, h, c, xs, ⟨_, a, cap, e, _⟩, v, hv => by rw [e] at hv; simp at hv; rw [hv]; rfl
  | .map _, .own o, h, c, xs, r, v, hv => by
    rcases r with ⟨_, e, _⟩ | ⟨b, l, _, e, _⟩ <;> (rw [e] at hv; simp at hv; rw [hv]; rfl)
  | .map _, .imm, h, c, xs, ⟨_, r⟩, v, hv => by
    rcases r with ⟨_, e⟩ | ⟨b, l, _, e, _⟩ <;> (rw [e] at hv; simp at hv; rw [hv]; rfl)
  | .map _, .pr _ _, h, c, xs, ⟨_, r⟩, v, hv => by
    rcases r with ⟨_, e⟩ | ⟨b, l, _, e, _⟩ <;> (rw [e] at hv; simp at hv; rw [hv]; rfl)
theorem size_one {s : S} (h : s.isAgg = false) : s.size = 1 := by cases s <;> simp_all [S.isAgg, S.size]
theorem mkVal_cells {m : Hp} {s : S} {o : O} {h : Hp} {c : List Value} {x : den s} (r : Rep m s o h c x) : (mkVal s c).cells = c.toArray := by
  unfold mkVal
  cases hs : s.isAgg with
  | true => simp [Value.cells]
  | false =>
    have hl := Rep_len _ _ _ _ _ _ r
    rw [size_one hs] at hl
    match c, hl with
    | [v], _ =>
      have := Rep_one _ _ _ _ _ _ r v (by simp)
      simp only [Bool.false_eq_true, if_false, List.headD_cons]
      cases v <;> first | rfl | (simp [Value.oneCell'] at this)
section
variable {P : Program} {tb : Hp} {C : Ctx tb} {Z : Sup} {st : St} {a : Act} {w w' : World} {g : Cfg} {o : Oper} {R : Type} {k : Eff → Option R} {y : R}
theorem alloc_cells (w : World) (c : List Value) (t : TypeId) : ∀ b o v, blk w.heap.size 0 c b o = some v →
    hat (w.alloc (.cells c.toArray t)) b o = some v ∧ NF (w.alloc (.cells c.toArray t)) b ∧ w.heap.size ≤ b := by
  intro b o v h
  obtain ⟨e, _, u, hu, h2⟩ := blk_some h
  subst e hu
  refine ⟨hat_v.2 ?_, ?_, Nat.le_refl _⟩
  · rw [World.cell?_alloc_new]
    simpa using h2
  · intro o'; first | (rw [World.frozen?_alloc_new]; done) | (simp; done) | (simp [World.frozen?, World.alloc]; done)
theorem run_newVar (t : TypeId) (v : Value) : (newVar t v).run P w = .ok ⟨w.heap.size, 0, none⟩ (w.alloc (.cells v.cells t)) := by
  simp [newVar, newRow]
theorem op_alloc (hg : tableOk P g.ty = true) (hd : a.defers = []) (Rl : Rel Z st a.tmps w) (F : Fr C Z w) {t : TypeId} (ho : o.op = .alloc t) {s : S} (hs : look g.ty t = some s)
    (h : opSem g st o k = some y) : Ok P C Z st o a w k y := by
  simp only [opSem, ho, hs] at h
  · have ht := tableOk_at hg hs
    have rz := Rep_zero Z.m s (bif memNat (o.dst.getD 0) g.flt then .imm else zmask g s)
    refine ⟨_, h, fun K Q hk => wp_value (v := .pointer (some ⟨w.heap.size, 0, none⟩)) (w' := w.alloc (.cells s.zcells.toArray t)) ?_ (hk _ _ ?_)⟩
    · simp [execOp, ho, Instr.alloc, (typeOk_info ht).zero, run_newVar, mkVal_cells rz]
    · exact inv_new hd Rl F (Ext.alloc _ _) (gone := []) (H := blk w.heap.size 0 s.zcells) (Hn := blk w.heap.size 0 s.zcells) (t := .mem w.heap.size 0)
        (fun b o v e => .inl e) ⟨_, _, Sp.e_right _, rz⟩ (alloc_cells w _ _) (.inl ⟨rfl, _, _, rfl, rfl⟩)
theorem uH_lt (Rl : Rel Z st a.tmps w) {l : List Nat} {b o : Nat} {v : Cel} (h : uH Z.hs l b o = some v) : b < w.heap.size := by
  obtain ⟨r, _, h⟩ := uH_some h
  exact cell_lt (Rl.own r _ _ _ h).1
theorem blk_uH_dj (Rl : Rel Z st a.tmps w) (c : List Value) (l : List Nat) : Dj (blk w.heap.size 0 c) (uH Z.hs l) := fun b o => by
  cases h : uH Z.hs l b o with
  | none => exact .inr rfl
  | some v =>
    left
    have := uH_lt Rl h
    unfold blk
    rw [if_neg (by omega)]
theorem op_box (hg : tableOk P g.ty = true) (hd : a.defers = []) (Rl : Rel Z st a.tmps w) (F : Fr C Z w) {t : TypeId} {x : Operand} (ho : o.op = .box t x)
    (h : opSem g st o k = some y) : Ok P C Z st o a w k y := by
  simp only [opSem, ho] at h
  split at h
  · rename_i s hs
    have hr := eval_rel Rl (some s) x
    split at h
    · rename_i r p hfx
      have hx : evalS st (some s) x = .ov r p := by
        unfold fixedAt at hfx
        split at hfx
        · rename_i r' p' he
          split at hfx
          · rename_i ob hob
            cases hf : ob.fixed with
            | true => rw [hf] at hfx; simp only [cond_true, Option.some.injEq, Prod.mk.injEq] at hfx; obtain ⟨e1, e2⟩ := hfx; subst e1 e2; exact he
            | false => rw [hf] at hfx; cases hfx
          · cases hfx
        · cases hfx
      rw [hx] at hr
      obtain ⟨ob, s', x', t', c, h2, A⟩ := atPlace_eq Rl h
      clear h
      split at h2
      · rename_i e _
        subst e
        have hv := A.ov hr
        obtain ⟨hR, rep, _⟩ := A.rep
        have hl := Rep_len _ _ _ _ _ _ rep
        refine ⟨_, h2, fun K Q hk => wp_value (v := .pointer (some ⟨w.heap.size, 0, none⟩)) (w' := w.alloc (.cells c.toArray t)) ?_ (hk _ _ ?_)⟩
        · simp [execOp, ho, Instr.box, hv, run_newVar, mkVal_cells rep]
        · refine inv_imm hd Rl F (Ext.alloc _ _) (Hn := blk w.heap.size 0 c) (fun b o v e => ⟨(alloc_cells w c t b o v e).1, (alloc_cells w c t b o v e).2.2⟩)
            ⟨ob, s', t', c, w.heap.size, 0, A.isOb, A.res, A.cells, rfl, hl, fun j v e => ?_⟩
          refine Un.le_right (fun b o => ?_) _ _ _ (blk_v e)
          cases hz : Z.m b o with
          | none => exact .inl rfl
          | some u =>
            right
            have := cell_lt (Rl.imm b o u hz)
            unfold blk
            rw [if_neg (by omega)]
      · cases h2
    cases hflt : memNat (o.dst.getD 0) g.flt with
    | true =>
      rw [hflt, cond_true] at h
      split at h
      · rename_i s' x' he
        rw [he] at hr
        obtain ⟨c, hv, rep⟩ := hr
        obtain ⟨e, h⟩ := cast?_eq h
        subst e
        refine ⟨_, h, fun K Q hk => wp_value (v := .pointer (some ⟨w.heap.size, 0, none⟩)) (w' := w.alloc (.cells c.toArray t)) ?_ (hk _ _ ?_)⟩
        · simp [execOp, ho, Instr.box, hv, run_newVar, mkVal_cells rep]
        · refine inv_imm hd Rl F (Ext.alloc _ _) (Hn := blk w.heap.size 0 c) (fun b o v e => ⟨(alloc_cells w c t b o v e).1, (alloc_cells w c t b o v e).2.2⟩)
            ⟨w.heap.size, 0, c, rfl, fun j v e => ?_, Rep_mono (Un.le_left _ _) _ _ _ _ _ rep⟩
          refine Un.le_right (fun b o => ?_) _ _ _ (blk_v e)
          cases hz : Z.m b o with
          | none => exact .inl rfl
          | some u =>
            right
            have := cell_lt (Rl.imm b o u hz)
            unfold blk
            rw [if_neg (by omega)]
      · cases h
    | false =>
    rw [hflt, cond_false] at h
    obtain ⟨s', q, x', c, h, hc, cs, hv, H0, hle0, rep⟩ := partOf_eq Rl h hr
    obtain ⟨e, h⟩ := cast?_eq h
    subst e
    refine ⟨_, h, fun K Q hk => wp_value (v := .pointer (some ⟨w.heap.size, 0, none⟩)) (w' := w.alloc (.cells cs.toArray t)) ?_ (hk _ _ ?_)⟩
    · simp [execOp, ho, Instr.box, hv, run_newVar, mkVal_cells rep]
    · have dj : Dj (blk w.heap.size 0 cs) H0 := (blk_uH_dj Rl cs c).le (Le.refl _) hle0
      exact inv_new hd Rl F (Ext.alloc _ _) (gone := c) (H := Un (blk w.heap.size 0 cs) H0) (Hn := blk w.heap.size 0 cs) (t := .mem w.heap.size 0)
        (fun b o v e => ((Un.sp dj).some e).imp id (hle0 b o v)) ⟨_, _, Un.sp dj, rep⟩ (alloc_cells w _ _) (.inl ⟨rfl, _, _, rfl, rfl⟩)
  · cases h
theorem Rep_setf {m : Hp} : ∀ (n : Nat) (s : S) (q : O) (h : Hp) (c : List Value) (x : den s) (s' : S), Rep m s q h c x → shapeAt s (fpath n) = some s' →
    ∀ (q' : O) (h' : Hp) (c' : List Value) (v : den s') (o2 : O), Rep m s' q' h' c' v → Dj h h' → setMask q (fpath n) q' = some o2 →
    ∀ {R : Type} (kk : den s → Option R) (y : R), setK s x (fpath n) s' v kk = some y →
    ∃ x2 hh, kk x2 = some y ∧ Rep m s o2 hh (c.take (foff s n) ++ c' ++ c.drop (foff s n + s'.size)) x2 ∧ ∀ b o v, hh b o = some v → h b o = some v ∨ h' b o = some v
  | 0, .pair a b, q, h, c, x, s', r, e, q', h', c', v, o2, r', dj, hm, R, kk, y, hk => by
    simp only [fpath, shapeAt, Option.some.injEq] at e; subst e
    obtain ⟨h1, h2, c1, c2, sp, ec, r1, r2⟩ := r
    have hl := Rep_len _ _ _ _ _ _ r1
    have hm : o2 = mkPr q' q.r := by
      have : setMask q (fpath 0) q' = some (mkPr q' q.r) := by cases q <;> simp [fpath, setMask]
      rw [this] at hm; injection hm with hm; exact hm.symm
    subst hm
    have hk : cast? a a v (fun y => kk (y, x.2)) = some y := by
      have : setK (.pair a b) x (fpath 0) a v kk = setK a x.1 [] a v (fun y => kk (y, x.2)) := by simp [fpath, setK]
      rw [this] at hk
      cases a <;> simpa only [setK] using hk
    obtain ⟨_, hk⟩ := cast?_eq hk
    have d2 : Dj h' h2 := dj.symm.le (Le.refl _) sp.right
    refine ⟨(v, x.2), Un h' h2, hk, ⟨h', h2, c', c2, Un.sp d2, ?_, by rw [mkPr_l]; exact r', by rw [mkPr_r]; exact r2⟩, ?_⟩
    · rw [ec]; simp [foff, ← hl]
    · intro b o v e
      rcases (Un.sp d2).some e with e | e
      · exact .inr e
      · exact .inl (sp.right _ _ _ e)
  | n + 1, .pair a b, q, h, c, x, s', r, e, q', h', c', v, o2, r', dj, hm, R, kk, y, hk => by
    simp only [fpath, shapeAt] at e
    obtain ⟨h1, h2, c1, c2, sp, ec, r1, r2⟩ := r
    have hl := Rep_len _ _ _ _ _ _ r1
    have hm : ∃ o3, setMask q.r (fpath n) q' = some o3 ∧ o2 = mkPr q.l o3 := by
      have : setMask q (fpath (n + 1)) q' = (match setMask q.r (fpath n) q' with | some b => some (mkPr q.l b) | none => none) := by cases q <;> rfl
      rw [this] at hm
      split at hm
      · rename_i o3 h3; exact ⟨o3, h3, by injection hm with hm; exact hm.symm⟩
      · cases hm
    obtain ⟨o3, hm3, e3⟩ := hm
    subst e3
    have hk : setK b x.2 (fpath n) s' v (fun y => kk (x.1, y)) = some y := by simpa [fpath, setK] using hk
    obtain ⟨x2, hh, g1, g2, g3⟩ := Rep_setf n b q.r h2 c2 x.2 s' r2 e q' h' c' v o3 r' (dj.le sp.right (Le.refl _)) hm3 _ _ hk
    have d1 : Dj h1 hh := fun b o => by
      cases e1 : h1 b o with
      | none => exact .inl rfl
      | some v1 =>
        right
        cases e2 : hh b o with
        | none => rfl
        | some v2 =>
          rcases g3 b o v2 e2 with z | z
          · rcases sp.dj b o with u | u
            · rw [e1] at u; cases u
            · rw [z] at u; cases u
          · rcases dj b o with u | u
            · rw [sp.left _ _ _ e1] at u; cases u
            · rw [z] at u; cases u
    refine ⟨(x.1, x2), Un h1 hh, g1, ⟨h1, hh, c1, _, Un.sp d1, ?_, by rw [mkPr_l]; exact r1, by rw [mkPr_r]; exact g2⟩, ?_⟩
    · rw [ec]
      simp only [foff, ← hl]
      rw [show c1.length + foff b n = c1.length + foff b n from rfl, List.take_length_add_append, Nat.add_assoc, List.drop_length_add_append]
      simp
    · intro b o v e
      rcases (Un.sp d1).some e with e | e
      · exact .inl (sp.left _ _ _ e)
      · rcases g3 b o v e with z | z
        · exact .inl (sp.right _ _ _ z)
        · exact .inr z
  | 0, .int _, _, _, _, _, _, _, e, _, _, _, _, _, _, _, _, _, _, _, _ => by simp [fpath, shapeAt] at e
  | 0, .bool, _, _, _, _, _, _, e, _, _, _, _, _, _, _, _, _, _, _, _ => by simp [fpath, shapeAt] at e
  | 0, .str, _, _, _, _, _, _, e, _, _, _, _, _, _, _, _, _, _, _, _ => by simp [fpath, shapeAt] at e
  | 0, .unit, _, _, _, _, _, _, e, _, _, _, _, _, _, _, _, _, _, _, _ => by simp [fpath, shapeAt] at e
  | 0, .sl _ _, _, _, _, _, _, _, e, _, _, _, _, _, _, _, _, _, _, _, _ => by simp [fpath, shapeAt] at e
  | 0, .map _, _, _, _, _, _, _, e, _, _, _, _, _, _, _, _, _, _, _, _ => by simp [fpath, shapeAt] at e
  | _ + 1, .int _, _, _, _, _, _, _, e, _, _, _, _, _, _, _, _, _, _, _, _ => by simp [fpath, shapeAt] at e
  | _ + 1, .bool, _, _, _, _, _, _, e, _, _, _, _, _, _, _, _, _, _, _, _ => by simp [fpath, shapeAt] at e
  | _ + 1, .str, _, _, _, _, _, _, e, _, _, _, _, _, _, _, _, _, _, _, _ => by simp [fpath, shapeAt] at e
  | _ + 1, .unit, _, _, _, _, _, _, e, _, _, _, _, _, _, _, _, _, _, _, _ => by simp [fpath, shapeAt] at e
  | _ + 1, .sl _ _, _, _, _, _, _, _, e, _, _, _, _, _, _, _, _, _, _, _, _ => by simp [fpath, shapeAt] at e
  | _ + 1, .map _, _, _, _, _, _, _, e, _, _, _, _, _, _, _, _, _, _, _, _ => by simp [fpath, shapeAt] at e
end
end Go.AE
namespace Go.AE
theorem foldl_set : ∀ (l : List Value) (k off : Nat) (pre mid post : List Value), mid.length = l.length → pre.length = off + k →
    (l.zipIdx k).foldl (fun (cs : Array Value) (x : Value × Nat) => cs.setIfInBounds (off + x.2) x.1) (pre ++ mid ++ post).toArray = (pre ++ l ++ post).toArray
  | [], k, off, pre, mid, post, hm, hp => by
    have : mid = [] := by simpa using hm
    subst this; simp
  | v :: l, k, off, pre, mid, post, hm, hp => by
    match mid, hm with
    | m0 :: mid, hm =>
      have e : (pre ++ m0 :: mid ++ post).toArray.setIfInBounds (off + k) v = ((pre ++ [v]) ++ mid ++ post).toArray := by
        apply Array.ext'
        rw [← hp]
        simp [List.set_append]
      rw [List.zipIdx_cons, List.foldl_cons]
      show List.foldl _ ((pre ++ m0 :: mid ++ post).toArray.setIfInBounds (off + k) v) _ = _
      rw [e, foldl_set l (k + 1) off (pre ++ [v]) mid post (by simpa using hm) (by simp [hp, Nat.add_assoc])]
      simp
theorem fill_step {place : Nat → Option (Nat × Nat)} {c c' : List Value} {i off : Nat} {v : Value} {rest : List (Nat × Value)} (hp : place i = some (off, c'.length)) (hv : v.cells = c'.toArray) (hl : off + c'.length ≤ c.length) :
    Instr.fill place c.toArray ((i, v) :: rest) = Instr.fill place (c.take off ++ c' ++ c.drop (off + c'.length)).toArray rest := by
  have hs : v.cells.size = c'.length := by rw [hv]; simp
  have hno : ¬ (v.cells.size ≠ c'.length ∨ off + v.cells.size > c.toArray.size) := by
    rw [hs]; simp; omega
  rw [Instr.fill, hp]
  simp only []
  have hno2 : (decide (v.cells.size ≠ c'.length) || decide (off + v.cells.size > c.toArray.size)) = false := by
    rw [hs]; simp; omega
  rw [if_neg (by simpa using hno)]
  congr 1
  rw [hv, ← Array.foldl_toList, Array.toList_zipIdx]
  have h0 : (c.take off).length = off := by simp; omega
  have e : c = c.take off ++ (c.drop off).take c'.length ++ c.drop (off + c'.length) := by
    rw [← List.drop_drop, List.append_assoc, List.take_append_drop, List.take_append_drop]
  have := foldl_set c' 0 off (c.take off) ((c.drop off).take c'.length) (c.drop (off + c'.length)) (by simp; omega) (by omega)
  rw [← e] at this
  exact this
theorem fieldsOk_mem {P : Program} : ∀ (s : S) (off : Nat) (fs : List Field), fieldsOk P s off fs = true → ∀ f ∈ fs, ∃ i, P.info? f.type = some i
  | .pair a b, off, f :: fs, h, f', hf => by
    simp only [fieldsOk, Bool.and_eq_true] at h
    rcases List.mem_cons.1 hf with e | e
    · subst e; obtain ⟨i, hi, _⟩ := (okInfo_ok h.1.1.1.2).ex; exact ⟨i, hi⟩
    · exact fieldsOk_mem b _ fs h.2 f' e
  | .pair a b, off, [], h, f', hf => by cases hf
  | .unit, off, [], h, f', hf => by cases hf
  | .unit, off, f :: fs, h, f', hf => by simp [fieldsOk] at h
  | .int _, off, fs, h, f', hf => by simp [fieldsOk] at h
  | .bool, off, fs, h, f', hf => by simp [fieldsOk] at h
  | .str, off, fs, h, f', hf => by simp [fieldsOk] at h
  | .sl _ _, off, fs, h, f', hf => by simp [fieldsOk] at h
  | .map _, off, fs, h, f', hf => by simp [fieldsOk] at h
section
variable {P : Program} {tb : Hp} {C : Ctx tb} {Z : Sup} {st : St} {a : Act} {w w' : World} {g : Cfg} {o : Oper} {R : Type} {k : Eff → Option R} {y : R}
theorem run_mapM_places (fs : List Field) (h : ∀ f ∈ fs, ∃ i, P.info? f.type = some i) :
    (fs.mapM fun f => do pure (f.offset, ← sizeOf f.type) : Sem (List (Nat × Nat))).run P w = .ok (fs.map fun f => (f.offset, ((P.info? f.type).map (·.size)).getD 0)) w := by
  induction fs with
  | nil => simp
  | cons f fs ih =>
    obtain ⟨i, hi⟩ := h f (by simp)
    have hF : (do pure (f.offset, ← sizeOf f.type) : Sem (Nat × Nat)).run P w = .ok (f.offset, i.size) w := by
      simp only [Sem.run_bind, sizeOf, run_typeInfo w hi, Result.andThen_ok, Sem.run_pure]
    have ih' := ih (fun f hf => h f (by simp [hf]))
    rw [List.mapM_cons, Sem.run_bind, hF, Result.andThen_ok, Sem.run_bind, ih', Result.andThen_ok, Sem.run_pure]
    simp [hi]
theorem uH_uH_dj (Rl : Rel Z st a.tmps w) {l l' : List Nat} (h : ∀ r ∈ l, r ∉ l') : Dj (uH Z.hs l) (uH Z.hs l') :=
  uH_dj fun r hr => (Dj.symm (uH_dj fun r' hr' => Rl.dj r' r (fun e => h r hr (e ▸ hr'))))
theorem disjN_iff : ∀ {l m : List Nat}, disjN l m = true → ∀ r ∈ l, r ∉ m
  | [], _, _, _, h => by cases h
  | b :: l, m, e, r, h => by
    simp only [disjN, Bool.and_eq_true, Bool.not_eq_true'] at e
    cases h with
    | head => exact memNat_false.1 e.1
    | tail _ h => exact disjN_iff e.2 r h
theorem uH_app {hs : Nat → Hp} {b o : Nat} {v : Cel} {l m : List Nat} (h : uH hs l b o = some v) (dj : Dj (uH hs l) (uH hs m)) : uH hs (l ++ m) b o = some v := by
  induction l with
  | nil => cases h
  | cons r l ih =>
    simp only [List.cons_append, uH, Un] at h ⊢
    cases hr : hs r b o with
    | some u => rw [hr] at h; simpa [hr] using h
    | none =>
      rw [hr] at h
      simp only [Option.none_or] at h ⊢
      refine ih h fun x y => ?_
      rcases dj x y with z | z
      · left
        simp only [uH, Un] at z
        cases hx : hs r x y with
        | none => rw [hx] at z; simpa using z
        | some u => rw [hx] at z; simp at z
      · exact .inr z
theorem uH_app' {hs : Nat → Hp} {b o : Nat} {v : Cel} {l m : List Nat} (h : uH hs m b o = some v) (dj : Dj (uH hs l) (uH hs m)) : uH hs (l ++ m) b o = some v := by
  have h0 : uH hs l b o = none := by
    rcases dj b o with z | z
    · exact z
    · rw [h] at z; cases z
  clear dj
  induction l with
  | nil => exact h
  | cons r l ih =>
    simp only [List.cons_append, uH, Un] at h0 ⊢
    cases hr : hs r b o with
    | some u => rw [hr] at h0; simp at h0
    | none => rw [hr] at h0; simp only [Option.none_or] at h0 ⊢; exact ih h0
theorem buildK_eq (Rl : Rel Z st a.tmps w) {s : S} {place : Nat → Option (Nat × Nat)} (hpl : ∀ i sf, shapeAt s (fpath i) = some sf → 1 ≤ sf.size → place i = some (foff s i, sf.size)) :
    ∀ (parts : List (Nat × Operand)) (x : den s) (q : O) (cons : List Nat) (c : List Value) (hh : Hp) {kk : den s → O → List Nat → Option R},
      Rep Z.m s q hh c x → (∀ b o v, hh b o = some v → uH Z.hs cons b o = some v) → buildK g st s parts x q cons kk = some y →
      ∃ x2 q2 cons2 c2 hh2, kk x2 q2 cons2 = some y ∧ Rep Z.m s q2 hh2 c2 x2 ∧ (∀ b o v, hh2 b o = some v → uH Z.hs cons2 b o = some v) ∧
        Instr.fill place c.toArray (parts.map fun p => (p.1, a.eval p.2)) = some c2.toArray
  | [], x, q, cons, c, hh, kk, rep, hle, h => ⟨x, q, cons, c, hh, h, rep, hle, rfl⟩
  | (i, op) :: ps, x, q, cons, c, hh, kk, rep, hle, h => by
    simp only [buildK] at h
    split at h
    · cases h
    · rename_i sf hsf
      obtain ⟨s', q', x', c', h2, _, cs, hv, H0, hle0, rep'⟩ := partOf_eq Rl h (eval_rel Rl (some sf) op)
      obtain ⟨hdj, h3⟩ := cond_some h2
      simp only [Bool.and_eq_true] at hdj
      obtain ⟨hdj, hpos⟩ := hdj
      have hpos := Nat.le_of_ble_eq_true hpos
      clear h h2
      split at h3
      · rename_i e o2 _ hset
        subst e
        have dj : Dj (uH Z.hs c') (uH Z.hs cons) := uH_uH_dj Rl (disjN_iff hdj)
        have dj2 : Dj hh H0 := dj.symm.le hle hle0
        obtain ⟨x2, hh2, h4, rep2, hle2⟩ := Rep_setf i s q hh c x s' rep hsf q' _ cs x' o2 rep' dj2 hset _ y h3
        have hl := Rep_len _ _ _ _ _ _ rep'
        obtain ⟨x3, q3, cons3, c3, hh3, g1, g2, g3, g4⟩ := buildK_eq Rl hpl ps x2 o2 (c' ++ cons) _ hh2 rep2 (by
          intro b o v e
          rcases hle2 b o v e with z | z
          · exact uH_app' (hle _ _ _ z) dj
          · exact uH_app (hle0 _ _ _ z) dj) h4
        refine ⟨x3, q3, cons3, c3, hh3, g1, g2, g3, ?_⟩
        rw [List.map_cons, fill_step (c' := cs) (by rw [hl]; exact hpl i s' hsf hpos) (by rw [hv]; exact mkVal_cells rep') (by rw [hl, Rep_len _ _ _ _ _ _ rep]; exact foff_le i s s' hsf)]
        rw [hl]; exact g4
      · cases h3
theorem op_build (hg : tableOk P g.ty = true) (hd : a.defers = []) (Rl : Rel Z st a.tmps w) (F : Fr C Z w) {t : TypeId} {parts : Array (Nat × Operand)} (ho : o.op = .build t parts)
    (h : opSem g st o k = some y) : Ok P C Z st o a w k y := by
  simp only [opSem, ho] at h
  split at h
  · rename_i s hs
    have ht := tableOk_at hg hs
    obtain ⟨hagg, h⟩ := cond_some h
    have hplace : ∃ place : Nat → Option (Nat × Nat), (∀ i sf, shapeAt s (fpath i) = some sf → 1 ≤ sf.size → place i = some (foff s i, sf.size)) ∧
        ∀ c2 : List Value, Instr.fill place s.zcells.toArray (parts.toList.map fun p => (p.1, a.eval p.2)) = some c2.toArray → (execOp a.eval o).run P w = .ok (.value (mkVal s c2)) w := by
      have rz := Rep_zero Z.m s (zmask g s)
      have e1 : (parts.map fun (i, x) => (i, a.eval x)).toList = parts.toList.map fun p => (p.1, a.eval p.2) := by simp
      rcases typeOk_aggCases ht hagg with ⟨_, fs, hu, hf⟩ | ⟨_, n, e, hu, hf⟩
      · refine ⟨fun i => (fs.toList.map fun f => (f.offset, ((P.info? f.type).map (·.size)).getD 0))[i]?, ?_, ?_⟩
        · intro i sf e _
          obtain ⟨f, h1, h2, h3, _⟩ := fieldsOk_at s 0 fs.toList i sf hf e
          obtain ⟨inf, hi, hsz, _⟩ := h3.ex
          simp [h1, h2, hi, hsz]
        · intro c2 hfill
          have hm : (Array.mapM (fun (f : Field) => do pure (f.offset, ← sizeOf f.type)) fs : Sem (Array (Nat × Nat))).run P w = .ok (fs.toList.map fun f => (f.offset, ((P.info? f.type).map (·.size)).getD 0)).toArray w := by
            rw [Array.mapM_eq_mapM_toList, Sem.run_map, run_mapM_places fs.toList (fieldsOk_mem s 0 _ hf)]
            rfl
          simp only [execOp, ho, Instr.build, Sem.run_bind, (typeOk_info ht).zero, Result.andThen_ok, mkVal_cells rz, run_underlying hu]
          rw [hm]
          simp only [Result.andThen_ok, e1]
          have : (fun (x : Nat) => (fs.toList.map fun f => (f.offset, ((P.info? f.type).map (·.size)).getD 0)).toArray[x]?) = fun (x : Nat) => (fs.toList.map fun f => (f.offset, ((P.info? f.type).map (·.size)).getD 0))[x]? := by
            funext x; simp
          rw [this, hfill]
          simp [mkVal, hagg]
      · obtain ⟨n1, hf⟩ := hf
        obtain ⟨a0, ia⟩ := arrOk_head hf n1
        refine ⟨fun i => some (i * a0.size, a0.size), ?_, ?_⟩
        · intro i sf e1 e2
          obtain ⟨_, h2, h3, _⟩ := arrOk_at s n i sf hf e1 e2
          rw [h2, info_size ia h3]
        · intro c2 hfill
          simp only [execOp, ho, Instr.build, Sem.run_bind, (typeOk_info ht).zero, Result.andThen_ok, mkVal_cells rz, run_underlying hu, ia.size, e1]
          rw [hfill]
          simp [mkVal, hagg]
    obtain ⟨place, hpl, hrun0⟩ := hplace
    obtain ⟨x2, q2, cons, c2, hh, h, rep, hle, hfill⟩ := buildK_eq (a := a) Rl hpl parts.toList s.zero (bif memNat (o.dst.getD 0) g.flt then .imm else zmask g s) [] s.zcells Hp.e (Rep_zero _ _ _) (fun b o v e => by cases e) h
    have hrun := hrun0 c2 hfill
    unfold effMade at h
    cases hc : clean s q2 with
    | true =>
      rw [hc] at h
      exact ok_value hd Rl F h ⟨c2, rfl, (Rep_clean _ _ _ _ _ hc rep).2⟩ hrun
    | false =>
      rw [hc] at h
      exact ⟨_, h, fun K Q hk => wp_value hrun (hk _ _ (inv_new hd Rl F (Ext.refl w) (Hn := Hp.e) (t := .flt c2) (fun b o v e => .inr (hle b o v e)) rep (fun b o v e => by cases e) (.inr ⟨rfl, c2, rfl, rfl⟩)))⟩
  · cases h
end
end Go.AE
namespace Go.AE
def zrow (z : List Value) : Nat → List Value
  | 0 => []
  | n + 1 => zrow z n ++ z
theorem zrow_len (z : List Value) : ∀ n, (zrow z n).length = n * z.length
  | 0 => by simp [zrow]
  | n + 1 => by simp [zrow, zrow_len z n, Nat.succ_mul]
theorem zrow_eq (z : List Value) (hz : 0 < z.length) : ∀ n, (List.range (n * z.length)).map (fun i => z.toArray[i % z.toArray.size]!) = zrow z n
  | 0 => by simp [zrow]
  | n + 1 => by
    rw [Nat.succ_mul, List.range_add, List.map_append, zrow_eq z hz n, zrow]
    congr 1
    rw [List.map_map]
    apply List.ext_getElem?
    intro j
    by_cases hj : j < z.length
    · simp [hj, Nat.add_mod, Nat.mod_eq_of_lt hj]
    · simp [hj]
theorem zrow_zero_len {z : List Value} (hz : z.length = 0) (n : Nat) : zrow z n = [] := by
  have : (zrow z n).length = 0 := by rw [zrow_len, hz]; simp
  exact List.eq_nil_of_length_eq_zero this
theorem RepL_snoc {A : Type} {R : Hp → List Value → A → Prop} {xs : List A} {c c' : List Value} {x : A} (r : RepL R Hp.e c xs) (h : R Hp.e c' x) : RepL R Hp.e (c ++ c') (xs ++ [x]) :=
  RepL_cat (Sp.e_left _) r ⟨Hp.e, Hp.e, c', [], Sp.e_left _, by simp, h, rfl, rfl⟩
theorem replic_succ {α : Type} (x : α) : ∀ n, replic x (n + 1) = replic x n ++ [x]
  | 0 => rfl
  | n + 1 => by
    show x :: replic x (n + 1) = (x :: replic x n) ++ [x]
    rw [replic_succ x n]; rfl
theorem replic_eq {α : Type} (x : α) (n : Nat) : replic x n = List.replicate n x := by
  induction n with
  | zero => rfl
  | succ n ih => show x :: replic x n = _; rw [ih]; rfl
def RZ (m : Hp) (s : S) (cur : Option O) (h : Hp) (c : List Value) (x : den s) : Prop :=
  (∃ q, cur = some q ∧ Rep m s q h c x) ∨ (h = Hp.e ∧ c = s.zcells ∧ x = s.zero)
theorem RZ_len {m : Hp} {s : S} {cur : Option O} {h : Hp} {c : List Value} {x : den s} (r : RZ m s cur h c x) : c.length = s.size := by
  rcases r with ⟨q, _, r⟩ | ⟨_, e, _⟩
  · exact Rep_len _ _ _ _ _ _ r
  · rw [e, zcells_len]
theorem RepL_zrow (m : Hp) (s : S) (R : Hp → List Value → den s → Prop) (hR : R Hp.e s.zcells s.zero) : ∀ n, RepL R Hp.e (zrow s.zcells n) (replic s.zero n)
  | 0 => ⟨rfl, rfl⟩
  | n + 1 => by
    rw [replic_succ]
    exact RepL_snoc (RepL_zrow m s R hR n) hR
theorem RepL_setl {A : Type} {R : Hp → List Value → A → Prop} {n : Nat} (hR : ∀ h c x, R h c x → c.length = n) : ∀ (xs : List A) (i : Nat) (h h' : Hp) (c c' : List Value) (v : A), RepL R h c xs → i < xs.length → R h' c' v → Dj h h' →
    ∃ hh, RepL R hh (c.take (i * n) ++ c' ++ c.drop (i * n + n)) (setNth xs i v) ∧ ∀ b o v, hh b o = some v → h b o = some v ∨ h' b o = some v
  | [], i, h, h', c, c', v, r, hi, r', dj => by simp at hi
  | x :: xs, 0, h, h', c, c', v, ⟨h1, h2, c1, c2, sp, ec, r1, r2⟩, hi, r', dj => by
    have hl := hR _ _ _ r1
    have d2 : Dj h' h2 := dj.symm.le (Le.refl _) sp.right
    refine ⟨Un h' h2, ⟨h', h2, c', c2, Un.sp d2, ?_, r', r2⟩, ?_⟩
    · rw [ec]; simp [← hl]
    · intro b o v e
      rcases (Un.sp d2).some e with e | e
      · exact .inr e
      · exact .inl (sp.right _ _ _ e)
  | x :: xs, i + 1, h, h', c, c', v, ⟨h1, h2, c1, c2, sp, ec, r1, r2⟩, hi, r', dj => by
    have hl := hR _ _ _ r1
    obtain ⟨hh, g1, g3⟩ := RepL_setl hR xs i h2 h' c2 c' v r2 (by simpa using hi) r' (dj.le sp.right (Le.refl _))
    have d1 : Dj h1 hh := fun b o => by
      cases e1 : h1 b o with
      | none => exact .inl rfl
      | some v1 =>
        right
        cases e2 : hh b o with
        | none => rfl
        | some v2 =>
          rcases g3 b o v2 e2 with z | z
          · rcases sp.dj b o with u | u
            · rw [e1] at u; cases u
            · rw [z] at u; cases u
          · rcases dj b o with u | u
            · rw [sp.left _ _ _ e1] at u; cases u
            · rw [z] at u; cases u
    refine ⟨Un h1 hh, ⟨h1, hh, c1, _, Un.sp d1, ?_, r1, g1⟩, ?_⟩
    · rw [ec, Nat.succ_mul]
      generalize i * n = p
      subst hl
      rw [Nat.add_comm p c1.length, List.take_length_add_append, Nat.add_assoc, List.drop_length_add_append]
      simp
      omega
    · intro b o v e
      rcases (Un.sp d1).some e with e | e
      · exact .inl (sp.left _ _ _ e)
      · rcases g3 b o v e with z | z
        · exact .inl (sp.right _ _ _ z)
        · exact .inr z
theorem setNth_len {A : Type} : ∀ (xs : List A) (i : Nat) (v : A), (setNth xs i v).length = xs.length
  | [], _, _ => rfl
  | _ :: _, 0, _ => rfl
  | _ :: l, i + 1, v => by simp [setNth, setNth_len l i v]
section
variable {P : Program} {tb : Hp} {C : Ctx tb} {Z : Sup} {st : St} {a : Act} {w w' : World} {g : Cfg} {o : Oper} {R : Type} {k : Eff → Option R} {y : R}
theorem partsK_eq (Rl : Rel Z st a.tmps w) {s : S} {n : Nat} :
    ∀ (parts : List (Nat × Operand)) (xs : List (den s)) (cur : Option O) (cons : List Nat) (c : List Value) (hh : Hp) {kk : List (den s) → Option O → List Nat → Option R},
      xs.length = n → RepL (RZ Z.m s cur) hh c xs → (∀ b o v, hh b o = some v → uH Z.hs cons b o = some v) → partsK g st s parts xs cur cons kk = some y →
      ∃ xs2 cur2 cons2 c2 hh2, kk xs2 cur2 cons2 = some y ∧ xs2.length = n ∧ RepL (RZ Z.m s cur2) hh2 c2 xs2 ∧ (∀ b o v, hh2 b o = some v → uH Z.hs cons2 b o = some v) ∧
        Instr.fill (fun i => some (i * s.size, s.size)) c.toArray (parts.map fun p => (p.1, a.eval p.2)) = some c2.toArray
  | [], xs, cur, cons, c, hh, kk, hn, rep, hle, h => ⟨xs, cur, cons, c, hh, h, hn, rep, hle, rfl⟩
  | (i, op) :: ps, xs, cur, cons, c, hh, kk, hn, rep, hle, h => by
    have hcl := RepL_len (fun _ _ _ r => RZ_len r) rep
    have hr := eval_rel Rl (some s) op
    simp only [partsK] at h
    split at h
    · rename_i s' hx
      rw [hx] at hr
      obtain ⟨e, h2⟩ := cast?_eq h
      subst e
      obtain ⟨hb, h3⟩ := cond_some h2
      clear h h2
      have hi : i < xs.length := Nat.le_of_ble_eq_true hb
      obtain ⟨hh2, g1, g2⟩ := RepL_setl (fun _ _ _ r => RZ_len r) xs i hh Hp.e c s'.zcells s'.zero rep hi (.inr ⟨rfl, rfl, rfl⟩) (Dj.e _)
      obtain ⟨xs3, cur3, cons3, c3, hh3, k1, k2, k3, k4, k5⟩ := partsK_eq (n := n) Rl ps (setNth xs i s'.zero) cur cons _ hh2 (by rw [setNth_len]; exact hn) g1 (by
        intro b o v e
        rcases g2 b o v e with z | z
        · exact hle _ _ _ z
        · cases z) h3
      refine ⟨xs3, cur3, cons3, c3, hh3, k1, k2, k3, k4, ?_⟩
      have hzl := zcells_len s'
      rw [List.map_cons, fill_step (c' := s'.zcells) (off := i * s'.size) (by rw [hzl]) (by rw [hr]; exact mkVal_cells (Rep_zero Hp.e s' .imm)) (by rw [hzl, hcl]; have := Nat.mul_le_mul_right s'.size hi; rw [Nat.succ_mul] at this; exact this)]
      rw [hzl]; exact k5
    · obtain ⟨s', q', x', c', h2, _, cs, hv, H0, hle0, rep'⟩ := partOf_eq Rl h hr
      obtain ⟨e, h3⟩ := cast?_eq h2
      subst e
      obtain ⟨hb, h4⟩ := cond_some h3
      clear h h2 h3
      simp only [Bool.and_eq_true] at hb
      obtain ⟨⟨hdj, hb⟩, hq⟩ := hb
      have hi : i < xs.length := Nat.le_of_ble_eq_true hb
      have dj : Dj (uH Z.hs c') (uH Z.hs cons) := uH_uH_dj Rl (disjN_iff hdj)
      have dj2 : Dj hh H0 := dj.symm.le hle hle0
      have rep2 : RepL (RZ Z.m s' (some q')) hh c xs := by
        refine RepL_imp (fun h c x r => ?_) rep
        rcases r with ⟨q, e, r⟩ | r
        · subst e
          have := O.beq_eq hq
          subst this
          exact .inl ⟨q, rfl, r⟩
        · exact .inr r
      obtain ⟨hh2, g1, g2⟩ := RepL_setl (fun _ _ _ r => RZ_len r) xs i hh _ c cs x' rep2 hi (.inl ⟨q', rfl, rep'⟩) dj2
      have hl := Rep_len _ _ _ _ _ _ rep'
      obtain ⟨xs3, cur3, cons3, c3, hh3, k1, k2, k3, k4, k5⟩ := partsK_eq (n := n) Rl ps (setNth xs i x') (some q') (c' ++ cons) _ hh2 (by rw [setNth_len]; exact hn) g1 (by
        intro b o v e
        rcases g2 b o v e with z | z
        · exact uH_app' (hle _ _ _ z) dj
        · exact uH_app (hle0 _ _ _ z) dj) h4
      refine ⟨xs3, cur3, cons3, c3, hh3, k1, k2, k3, k4, ?_⟩
      rw [List.map_cons, fill_step (c' := cs) (off := i * s'.size) (by rw [hl]) (by rw [hv]; exact mkVal_cells rep') (by rw [hl, hcl]; have := Nat.mul_le_mul_right s'.size hi; rw [Nat.succ_mul] at this; exact this)]
      rw [hl]; exact k5
theorem inv_row (hd : a.defers = []) (Rl : Rel Z st a.tmps w) (F : Fr C Z w) {d : Option Tmp} {e : TypeId} {s : S} {q : O} {xs : List (den s)} {gone : List Nat} {hh : Hp} {c r2 : List Value} {cap : Nat}
    (rep : RepL (Rep Z.m s q) hh c xs) (hle : ∀ b o v, hh b o = some v → uH Z.hs gone b o = some v) (hcap : xs.length ≤ cap) (hl : (c ++ r2).length = cap * s.size) {w1 : World} (E : Ext w w1)
    (hw : ∀ b o v, blk w.heap.size 0 (c ++ r2) b o = some v → hat w1 b o = some v ∧ NF w1 b ∧ w.heap.size ≤ b) :
    InvK C Z st d (effNew d false (.sl e s) (.own q) xs gone) (a.put d (.slice (some ⟨w.heap.size, 0, none⟩) xs.length cap)) w1 := by
  have dj : Dj (blk w.heap.size 0 (c ++ r2)) hh := (blk_uH_dj Rl _ gone).le (Le.refl _) hle
  refine inv_new hd Rl F E (Hn := blk w.heap.size 0 (c ++ r2)) (H := Un (blk w.heap.size 0 (c ++ r2)) hh) (t := .flt [.slice (some ⟨w.heap.size, 0, none⟩) xs.length cap]) ?_ ?_ hw (.inr ⟨rfl, _, rfl, rfl⟩)
  · intro b o v e
    rcases (Un.sp dj).some e with z | z
    · exact .inl z
    · exact .inr (hle _ _ _ z)
  · exact .inr ⟨w.heap.size, 0, cap, c, r2, hh, rfl, hcap, hl, Un.sp dj, rep⟩
theorem op_buildSlice (hg : tableOk P g.ty = true) (hd : a.defers = []) (Rl : Rel Z st a.tmps w) (F : Fr C Z w) {t : TypeId} {n : Nat} {parts : Array (Nat × Operand)} (ho : o.op = .buildSlice t n parts)
    (h : opSem g st o k = some y) : Ok P C Z st o a w k y := by
  simp only [opSem, ho] at h
  split at h
  · rename_i e s hs
    have ht := tableOk_at hg hs
    obtain ⟨hu, hi, _⟩ := typeOk_sl ht
    obtain ⟨hb, h⟩ := cond_some h
    have hb : n * s.size ≤ 16777216 := Nat.le_of_ble_eq_true hb
    have hrl : (replic s.zero n).length = n := by rw [replic_eq]; simp
    obtain ⟨xs, cur, cons, c, hh, h2, hn, rep, hle, hfill⟩ := partsK_eq (a := a) Rl parts.toList (replic s.zero n) none [] (zrow s.zcells n) Hp.e hrl (RepL_zrow Z.m s _ (.inr ⟨rfl, rfl, rfl⟩) n) (fun b o v e => by cases e) h
    have rep2 : RepL (Rep Z.m s (cur.getD (g.elmOf e))) hh c xs := by
      refine RepL_imp (fun h c x r => ?_) rep
      rcases r with ⟨q, e, r⟩ | ⟨e1, e2, e3⟩
      · subst e; exact r
      · subst e1 e2 e3; exact Rep_zero _ _ _
    have hcl : c.length = n * s.size := by rw [RepL_len (Rep_len Z.m s _) rep2, hn]
    refine ⟨_, h2, fun K Q hk => wp_value (v := .slice (some ⟨w.heap.size, 0, none⟩) xs.length n) (w' := w.alloc (.cells c.toArray e)) ?_ (hk _ _ ?_)⟩
    · have hnot : ¬ n * s.size > 2 ^ 24 := by omega
      have e1 : (parts.map fun (i, x) => (i, a.eval x)).toList = parts.toList.map fun p => (p.1, a.eval p.2) := by simp
      simp only [execOp, ho, Instr.buildSlice, Sem.run_bind, run_underlying hu, Result.andThen_ok, hi.size, hnot, if_false]
      by_cases hz : n * s.size = 0
      · have hl0 : zrow s.zcells n = [] := List.eq_nil_of_length_eq_zero (by rw [zrow_len, zcells_len, hz])
        rw [hl0] at hfill
        have e2 : (Array.map (fun x => (#[] : Array Value)[x % (#[] : Array Value).size]!) (Array.range (n * s.size))) = ([] : List Value).toArray := by rw [hz]; simp
        rw [if_pos hz]
        simp only [Sem.run_bind, Sem.run_pure, Result.andThen_ok]
        rw [e2, e1, hfill]
        simp [newRow, hn]
      · have hz2 : 0 < s.zcells.length := by
          rw [zcells_len]
          rcases Nat.eq_zero_or_pos s.size with q | q
          · rw [q] at hz; simp at hz
          · exact q
        have e2 : (Array.map (fun x => s.zcells.toArray[x % s.zcells.toArray.size]!) (Array.range (n * s.size))) = (zrow s.zcells n).toArray := by
          apply Array.ext'
          have := zrow_eq s.zcells hz2 n
          rw [zcells_len] at this
          simpa using this
        rw [if_neg hz]
        simp only [Sem.run_bind, hi.zero, Sem.run_pure, Result.andThen_ok, mkVal_cells (Rep_zero Hp.e s .imm)]
        rw [e2, e1, hfill]
        simp [newRow, hn]
    · have := inv_row (d := o.dst) (e := e) (cap := n) (r2 := []) hd Rl F rep2 hle (by omega) (by simpa using hcl) (Ext.alloc w (.cells c.toArray e)) (by simpa using alloc_cells w c e)
      exact this
  · cases h
theorem wrap_small {n : Int} (h0 : 0 ≤ n) (h1 : n ≤ 68719476736) : IntKind.i64.wrap n = n := by
  have hb : (IntKind.i64.bits) = 64 := rfl
  have hs : IntKind.i64.signed = true := rfl
  unfold IntKind.wrap
  rw [hb, hs]
  have : n % (2 ^ 64 : Int) = n := Int.emod_eq_of_lt h0 (by omega)
  rw [this]
  have h2 : ¬ (n ≥ (2 ^ (64 - 1) : Int)) := by omega
  rw [if_neg (by simp only [Bool.true_and, decide_eq_true_eq]; exact h2)]
theorem pRepl_eq {s : S} {n : Int} : pRepl n s.zero = replic s.zero n.toNat := by rw [replic_eq]; rfl
theorem op_makeSlice (hg : tableOk P g.ty = true) (hd : a.defers = []) (Rl : Rel Z st a.tmps w) (F : Fr C Z w) {t : TypeId} {l c : Operand} (ho : o.op = .makeSlice t l c)
    (h : opSem g st o k = some y) : Ok P C Z st o a w k y := by
  simp only [opSem, ho] at h
  split at h
  · rename_i e s hs
    have ht := tableOk_at hg hs
    obtain ⟨hu, hi, _⟩ := typeOk_sl ht
    obtain ⟨q1, n, hl, h1⟩ := asInt?_eq h
    obtain ⟨q2, m, hc, h2⟩ := asInt?_eq h1
    obtain ⟨c1, h3⟩ := ifB_true h2
    obtain ⟨c2, h4⟩ := ifB_true h3
    obtain ⟨c3, hk0⟩ := ifB_true h4
    clear h h1 h2 h3 h4
    replace c1 : n = m := by simpa [pEq] using c1
    replace c2 : 0 ≤ n := of_decide_eq_true c2
    replace c3 : n ≤ 68719476736 := of_decide_eq_true c3
    subst c1
    have vl := eval_int Rl hl
    have vc := eval_int Rl hc
    have hw := wrap_small c2 c3
    rw [pRepl_eq] at hk0
    have rz : RepL (Rep Z.m s (g.elmOf e)) Hp.e (zrow s.zcells n.toNat) (replic s.zero n.toNat) := RepL_zrow Z.m s _ (Rep_zero _ _ _) _
    have hrl : (replic s.zero n.toNat).length = n.toNat := by rw [replic_eq]; simp
    refine ⟨_, hk0, fun K Q hk => wp_value (v := .slice (some ⟨w.heap.size, 0, none⟩) n.toNat n.toNat) (w' := w.alloc (.cells (zrow s.zcells n.toNat).toArray e)) ?_ (hk _ _ ?_)⟩
    · obtain ⟨i, hi1, hi2, hi3, hi4⟩ := hi.ex
      have hinf : (typeInfo e).run P w = .ok i w := run_typeInfo w hi1
      have big : ¬ ((i.bytes : Int) * n > 2 ^ 48) := by
        have : (i.bytes : Int) * n ≤ 2048 * 68719476736 := Int.mul_le_mul (by omega) c3 c2 (by omega)
        omega
      have c2' : ¬ n < 0 := Int.not_lt.2 c2
      simp only [execOp, ho, vl, vc, Instr.makeSlice, asInt, asIntOf, Sem.run_bind, run_underlying hu, Result.andThen_ok, Sem.run_pure, hinf, hw]
      rw [if_neg (by simp [c2']; exact Int.not_lt.1 big)]
      simp only [run_askRoom, Sem.run_bind, Result.andThen_ok, hi.size]
      by_cases hz : n.toNat * s.size = 0
      · have hl0 : zrow s.zcells n.toNat = [] := List.eq_nil_of_length_eq_zero (by rw [zrow_len, zcells_len, hz])
        have e2 : (Array.map (fun x => (#[] : Array Value)[x % (#[] : Array Value).size]!) (Array.range (n.toNat * s.size))) = ([] : List Value).toArray := by rw [hz]; simp
        rw [if_pos hz, hl0]
        simp only [Sem.run_bind, Sem.run_pure, Result.andThen_ok]
        rw [e2]
        simp [newRow]
      · have hz2 : 0 < s.zcells.length := by
          rw [zcells_len]
          rcases Nat.eq_zero_or_pos s.size with q | q
          · rw [q] at hz; simp at hz
          · exact q
        have e2 : (Array.map (fun x => s.zcells.toArray[x % s.zcells.toArray.size]!) (Array.range (n.toNat * s.size))) = (zrow s.zcells n.toNat).toArray := by
          apply Array.ext'
          have := zrow_eq s.zcells hz2 n.toNat
          rw [zcells_len] at this
          simpa using this
        rw [if_neg hz]
        simp only [Sem.run_bind, hi.zero, Sem.run_pure, Result.andThen_ok, mkVal_cells (Rep_zero Hp.e s .imm)]
        rw [e2]
        simp [newRow]
    · have := inv_row (d := o.dst) (e := e) (cap := n.toNat) (r2 := []) (gone := []) hd Rl F rz (fun b o v e => by cases e) (by omega) (by simp [zrow_len, zcells_len]) (Ext.alloc w (.cells (zrow s.zcells n.toNat).toArray e)) (by simpa using alloc_cells w (zrow s.zcells n.toNat) e)
      rw [hrl] at this
      exact this
  · cases h
end
end Go.AE
namespace Go.AE
structure Mod (h : Hp) (w w' : World) : Prop where
  os : w'.os = w.os
  tape : w'.tape = w.tape
  output : w'.output = w.output
  size : w.heap.size ≤ w'.heap.size
  block : ∀ b, b < w.heap.size → (∀ o, h b o = none) → w'.heap[b]? = w.heap[b]?
  cell : ∀ b o, b < w.heap.size → h b o = none → hat w' b o = hat w b o
  frz : ∀ b o, b < w.heap.size → w'.frozen? ⟨b, o, none⟩ = w.frozen? ⟨b, o, none⟩
  shp : ∀ b, b < w.heap.size → w'.shape? b = w.shape? b
theorem Mod.refl (h : Hp) (w : World) : Mod h w w := ⟨rfl, rfl, rfl, Nat.le_refl _, fun _ _ _ => rfl, fun _ _ _ _ => rfl, fun _ _ _ => rfl, fun _ _ => rfl⟩
theorem NF.mod {w w' : World} {h : Hp} {b : Nat} (n : NF w b) (M : Mod h w w') (hb : b < w.heap.size) : NF w' b := n.same (fun o => M.frz b o hb) (M.shp b hb)
theorem Mod.ext {h : Hp} {w w' : World} (e : Ext w w') : Mod h w w' :=
  ⟨e.os, e.tape, e.output, e.size, fun b hb _ => e.block b hb, fun b o hb _ => e.cell hb, fun b o hb => e.frz hb, fun b hb => e.shp hb⟩
theorem Mod.trans {h : Hp} {a b c : World} (m : Mod h a b) (n : Mod h b c) : Mod h a c :=
  ⟨n.os.trans m.os, n.tape.trans m.tape, n.output.trans m.output, Nat.le_trans m.size n.size,
   fun k hk ho => (n.block k (Nat.lt_of_lt_of_le hk m.size) ho).trans (m.block k hk ho),
   fun k o hk ho => (n.cell k o (Nat.lt_of_lt_of_le hk m.size) ho).trans (m.cell k o hk ho),
   fun k o hk => (n.frz k o (Nat.lt_of_lt_of_le hk m.size)).trans (m.frz k o hk),
   fun k hk => (n.shp k (Nat.lt_of_lt_of_le hk m.size)).trans (m.shp k hk)⟩
theorem cell_set_ne {w : World} {b o b' o' : Nat} {v : Value} (h : ¬ (b' = b ∧ o' = o)) : (w.setCell ⟨b, o, none⟩ v).cell? ⟨b', o', none⟩ = w.cell? ⟨b', o', none⟩ := by
  apply World.cell?_setCell_other
  intro e
  injection e with e1 e2
  exact h ⟨e1.symm, e2.symm⟩
theorem hat_set_ne {w : World} {b o b' o' : Nat} {v : Value} (h : ¬ (b' = b ∧ o' = o)) : hat (w.setCell ⟨b, o, none⟩ v) b' o' = hat w b' o' := by
  refine hat_ext (fun es cl => ?_) (cell_set_ne h)
  unfold World.setCell
  simp only [Array.getElem?_modify]
  by_cases q : b = b'
  · subst q
    rw [if_pos rfl]
    cases e : w.heap[b]? with
    | none => simp
    | some ob => cases ob <;> simp
  · rw [if_neg q]
theorem cell_set_eq {w : World} {b o : Nat} {v u : Value} (h : w.cell? ⟨b, o, none⟩ = some u) : (w.setCell ⟨b, o, none⟩ v).cell? ⟨b, o, none⟩ = some v := by
  apply World.cell?_setCell_same
  exact h
theorem shape_setCell (w : World) (a : Addr) (v : Value) (b : Nat) : (w.setCell a v).shape? b = w.shape? b := by
  unfold World.shape? World.setCell
  simp only [Array.getElem?_modify]
  by_cases h : a.block = b
  · subst h
    rw [if_pos rfl]
    cases e : w.heap[a.block]? with
    | none => rfl
    | some o =>
      cases o with
      | cells c elem fr => by_cases q : a.spot.isSome = true <;> simp [q]
      | _ => rfl
  · rw [if_neg h]
theorem Mod.setCell {h : Hp} {w : World} {b o : Nat} {v : Value} (hb : h b o ≠ none) : Mod h w (w.setCell ⟨b, o, none⟩ v) := by
  refine ⟨rfl, rfl, rfl, by simp, ?_, ?_, fun b' o' _ => by simp, fun b' _ => shape_setCell _ _ _ _⟩
  · intro b' _ ho
    have : b' ≠ b := fun e => by subst e; exact hb (ho o)
    simp only [World.setCell, Array.getElem?_modify]
    rw [if_neg (fun e => this e.symm)]
  · intro b' o' _ ho
    refine hat_set_ne fun e => ?_
    obtain ⟨e1, e2⟩ := e
    subst e1 e2
    exact hb ho
def setCells : World → Nat → Nat → List Value → World
  | w, _, _, [] => w
  | w, b, o, v :: vs => setCells (w.setCell ⟨b, o, none⟩ v) b (o + 1) vs
theorem Mod.setCells {h : Hp} : ∀ (vs : List Value) (w : World) (b o : Nat), (∀ j, j < vs.length → h b (o + j) ≠ none) → Mod h w (setCells w b o vs)
  | [], w, b, o, _ => Mod.refl _ _
  | v :: vs, w, b, o, hh => (Mod.setCell (by simpa using hh 0 (by simp))).trans (Mod.setCells vs _ b (o + 1) fun j hj => by
      have := hh (j + 1) (by simpa using hj)
      rwa [show o + (j + 1) = o + 1 + j by omega] at this)
theorem setCells_cell : ∀ (vs : List Value) (w : World) (b o : Nat), (∀ j, j < vs.length → (w.cell? ⟨b, o + j, none⟩).isSome = true) → ∀ (j : Nat) v, vs[j]? = some v → (setCells w b o vs).cell? ⟨b, o + j, none⟩ = some v
  | [], _, _, _, _, j, v, e => by simp at e
  | u :: vs, w, b, o, hh, j, v, e => by
    have hex : ∀ j, j < vs.length → ((w.setCell ⟨b, o, none⟩ u).cell? ⟨b, o + 1 + j, none⟩).isSome = true := by
      intro j hj
      rw [cell_set_ne (by omega)]
      have := hh (j + 1) (by simpa using hj)
      rwa [show o + (j + 1) = o + 1 + j by omega] at this
    cases j with
    | succ j =>
      have := setCells_cell vs (w.setCell ⟨b, o, none⟩ u) b (o + 1) hex j v (by simpa using e)
      rwa [show o + (j + 1) = o + 1 + j by omega]
    | zero =>
      simp at e; subst e
      have h0 := hh 0 (by simp)
      obtain ⟨z, hz⟩ := Option.isSome_iff_exists.1 h0
      have hs : (w.setCell ⟨b, o, none⟩ u).cell? ⟨b, o, none⟩ = some u := cell_set_eq (by simpa using hz)
      have key : ∀ (l : List Value) (w1 : World) (o1 : Nat), o < o1 → (setCells w1 b o1 l).cell? ⟨b, o, none⟩ = w1.cell? ⟨b, o, none⟩ := by
        intro l
        induction l with
        | nil => intro w1 o1 _; rfl
        | cons x l ih =>
          intro w1 o1 ho
          show (setCells (w1.setCell ⟨b, o1, none⟩ x) b (o1 + 1) l).cell? _ = _
          rw [ih _ _ (by omega), cell_set_ne (by omega)]
      show (setCells (w.setCell ⟨b, o, none⟩ u) b (o + 1) vs).cell? ⟨b, o + 0, none⟩ = some u
      have hk := key vs (w.setCell ⟨b, o, none⟩ u) (o + 1) (by omega)
      rw [hs] at hk
      exact hk
section
variable {P : Program} {tb : Hp} {C : Ctx tb} {Z : Sup} {st : St} {a : Act} {w w' : World} {g : Cfg} {o : Oper} {R : Type} {k : Eff → Option R} {y : R}
theorem run_storeCells : ∀ (vs : List Value) (i : Nat) (w : World) (b off : Nat), (∀ v ∈ vs, v.oneCell' = true) →
    (∀ j, j < vs.length → (w.cell? ⟨b, off + i + j, none⟩).isSome = true ∧ w.frozen? ⟨b, off + i + j, none⟩ = false) →
    (storeCells ⟨b, off, none⟩ vs i).run P w = .ok () (setCells w b (off + i) vs)
  | [], i, w, b, off, _, _ => rfl
  | v :: vs, i, w, b, off, h1, h2 => by
    have h0 := h2 0 (by simp)
    rw [Nat.add_zero] at h0
    obtain ⟨z, hz⟩ := Option.isSome_iff_exists.1 h0.1
    have ih := run_storeCells vs (i + 1) (w.setCell ⟨b, off + i, none⟩ v) b off (fun u hu => h1 u (by simp [hu])) (by
      intro j hj
      have := h2 (j + 1) (by simpa using hj)
      rw [show off + i + (j + 1) = off + (i + 1) + j by omega] at this
      rw [cell_set_ne (by omega)]
      exact ⟨this.1, by rw [World.frozen?_setCell]; exact this.2⟩)
    rw [storeCells, addr_add]
    simp only [Sem.run_bind, run_store P w ⟨b, off + i, none⟩ v .plain (h1 v (by simp)), hz, h0.2]
    simp only [Bool.false_eq_true, if_false, Result.andThen_ok, ih]
    rw [show off + (i + 1) = off + i + 1 by omega]
    rfl
theorem run_storeVar {t : TypeId} {s : S} (ht : typeOk P t s = true) {b off : Nat} {v : Value} {c : List Value} (hv : v.cells = c.toArray) (hl : c.length = s.size) (h1 : ∀ v ∈ c, v.oneCell' = true)
    (h2 : ∀ j, j < c.length → (w.cell? ⟨b, off + j, none⟩).isSome = true ∧ w.frozen? ⟨b, off + j, none⟩ = false) :
    (storeVar t ⟨b, off, none⟩ v).run P w = .ok () (setCells w b off c) := by
  have hsz : ¬ (v.cells.size ≠ s.size) := by rw [hv]; simp [hl]
  unfold storeVar
  simp only [Sem.run_bind, (typeOk_info ht).size, Result.andThen_ok, hsz, if_false]
  rw [hv]
  have := run_storeCells (P := P) c 0 w b off h1 (by simpa using h2)
  simpa using this
theorem Fr.mod (F : Fr C Z w) {h : Hp} (M : Mod h w w') (hh : ∀ b o, h b o ≠ none → C.h b o ≠ none ∨ C.w.heap.size ≤ b) {Z' : Sup} (hm : Le Z.m Z'.m)
    (hpt : Z'.ptop = Z.ptop) (hs : ∀ r b o, Z'.hs r b o ≠ none → C.h b o ≠ none ∨ C.w.heap.size ≤ b) (mf : ∀ b o, Z'.m b o ≠ none → C.m b o ≠ none ∨ C.h b o ≠ none ∨ C.w.heap.size ≤ b)
    (hpd : ∀ r b off v z, Z'.pd r = some (b, off, v) → markOf v = some z → (∃ r', Z.pd r' = some (b, off, v)) ∨ MkAt C.w.heap.size w' b z) : Fr C Z' w' := by
  refine ⟨M.os.trans F.os, M.tape.trans F.tape, M.output.trans F.output, Nat.le_trans F.size M.size, ?_, ?_, ?_, F.m.trans hm, hs, mf, hpt.trans F.ptop, fun b hb => (M.shp b (Nat.lt_of_lt_of_le hb F.size)).trans (F.shp b hb), mk_keep M.shp F.blt hpd⟩
  · intro b hb ho
    rw [M.block b (Nat.lt_of_lt_of_le hb F.size), F.block b hb ho]
    intro o
    cases e : h b o with
    | none => rfl
    | some v =>
      rcases hh b o (by rw [e]; simp) with z | z
      · exact absurd (ho o) z
      · omega
  · intro b o hb ho
    rw [M.cell b o (Nat.lt_of_lt_of_le hb F.size), F.cell b o hb ho]
    cases e : h b o with
    | none => rfl
    | some v =>
      rcases hh b o (by rw [e]; simp) with z | z
      · exact absurd ho z
      · omega
  · intro b o hb
    rw [M.frz b o (Nat.lt_of_lt_of_le hb F.size), F.frz b o hb]
def updSup (Z : Sup) (r : Nat) (gone : List Nat) (m' H : Hp) (t' : Top) (pv' : Option (Nat × Nat × Value)) (rs' : Hp) : Sup :=
  { ptop := Z.ptop, rs := fun x => if x = r then rs' else Z.rs x, m := m', hs := fun x => if x = r then H else if x ∈ gone then Hp.e else Z.hs x, tops := fun x => if x = r then t' else Z.tops x, pd := fun x => if x = r then pv' else Z.pd x }
theorem upd_pd {r : Nat} {gone : List Nat} {m' H : Hp} {t' : Top} {pv' : Option (Nat × Nat × Value)} {rs' : Hp}
    (h : ∀ b off v z, pv' = some (b, off, v) → markOf v = some z → (∃ r', Z.pd r' = some (b, off, v)) ∨ MkAt C.w.heap.size w' b z) :
    ∀ x b off v z, (updSup Z r gone m' H t' pv' rs').pd x = some (b, off, v) → markOf v = some z → (∃ r', Z.pd r' = some (b, off, v)) ∨ MkAt C.w.heap.size w' b z := by
  intro x b off v z h1 h2
  simp only [updSup] at h1
  split at h1
  · exact h b off v z h1 h2
  · exact .inl ⟨x, h1⟩
theorem inv_obj (hd : a.defers = []) (Rl : Rel Z st a.tmps w) {d : Option Tmp} {e : Eff} {v : Value} {r : Nat} {ob' : Ob} {gone : List Nat} {m' H : Hp} {t' : Top} {pv' : Option (Nat × Nat × Value)} {rs' : Hp}
    (hob : ∀ x, (st.apply d e).ob x = if x = r then some ob' else if x ∈ gone then none else st.ob x)
    (hm : Le Z.m m') (himm : ∀ b o v, m' b o = some v → hat w' b o = some v)
    (hH : ∀ b o v, H b o = some v → hat w' b o = some v ∧ NF w' b)
    (hold : ∀ x b o v, x ≠ r → x ∉ gone → Z.hs x b o = some v → hat w' b o = some v ∧ NF w' b)
    (hmH : Dj m' H) (hmo : ∀ x, x ≠ r → x ∉ gone → Dj m' (Z.hs x)) (hHo : ∀ x, x ≠ r → x ∉ gone → Dj H (Z.hs x))
    (hRel : RelOb (updSup Z r gone m' H t' pv' rs') r ob')
    (henv : ∀ x u, untouched e.kill x → RelAV Z st.ob x u → RelAV (updSup Z r gone m' H t' pv' rs') (st.apply d e).ob x u)
    (hv : RelSV (updSup Z r gone m' H t' pv' rs') (st.apply d e).ob e.av v) (hF : Fr C (updSup Z r gone m' H t' pv' rs') w') (hrs : ob'.pend = none → rs' = H) (hup : ∀ x, (∀ z ∈ e.upd, z.1 ≠ x) → x ≠ r ∧ x ∉ gone) (hpin : r < 50 → (ob'.mem = true ∨ ob'.fixed = true) → t' = Z.ptop r) : InvK C Z st d e (a.put d v) w' := by
  refine ⟨by rw [put_defers]; exact hd, updSup Z r gone m' H t' pv' rs', ?_, hF, hm, fun x hx => ?_⟩
  rotate_left 1
  · obtain ⟨h1, h2⟩ := hup x hx
    simp [updSup, h1, h2]
  refine Rl.apply himm ?_ ?_ ?_ ?_ henv hv ?_ ?_
  · intro x b o u hu
    simp only [updSup] at hu
    split at hu
    · exact hH b o u hu
    · split at hu
      · cases hu
      · exact hold x b o u (by assumption) (by assumption) hu
  · intro x
    show Dj m' (if x = r then H else if x ∈ gone then Hp.e else Z.hs x)
    split
    · exact hmH
    · split
      · exact Dj.e _
      · exact hmo x (by assumption) (by assumption)
  · intro x x' hne
    show Dj (if x = r then H else if x ∈ gone then Hp.e else Z.hs x) (if x' = r then H else if x' ∈ gone then Hp.e else Z.hs x')
    by_cases c1 : x = r
    · have c2 : ¬ x' = r := fun e => hne (c1.trans e.symm)
      rw [if_pos c1, if_neg c2]
      by_cases c3 : x' ∈ gone
      · rw [if_pos c3]; exact Dj.e _
      · rw [if_neg c3]; exact hHo x' c2 c3
    · rw [if_neg c1]
      by_cases c2 : x' = r
      · rw [if_pos c2]
        by_cases c3 : x ∈ gone
        · rw [if_pos c3]; exact (Dj.e _).symm
        · rw [if_neg c3]; exact (hHo x c1 c3).symm
      · rw [if_neg c2]
        by_cases c3 : x ∈ gone
        · rw [if_pos c3]; exact (Dj.e _).symm
        · rw [if_neg c3]
          by_cases c4 : x' ∈ gone
          · rw [if_pos c4]; exact Dj.e _
          · rw [if_neg c4]; exact Rl.dj x x' hne
  · intro x ob hx
    rw [hob] at hx
    split at hx
    · rename_i hr
      injection hx with hx
      subst hx hr
      exact hRel
    · rename_i h1
      split at hx
      · cases hx
      · rename_i h2
        exact RelOb_keep (Z := Z) (Z' := updSup Z r gone m' H t' pv' rs') hm (by simp [updSup, h1, h2]) (by simp [updSup, h1]) (by simp [updSup, h1]) (by simp [updSup, h1]) (Rl.obs x ob hx)
  · intro x ob hx hpn
    rw [hob] at hx
    split at hx
    · rename_i hr
      injection hx with hx
      subst hx hr
      simp [updSup, hrs hpn]
    · rename_i h1
      split at hx
      · cases hx
      · rename_i h2; simp [updSup, h1, h2]; exact Rl.rse x ob hx hpn
  · intro x ob hx hlt hmf
    rw [hob] at hx
    split at hx
    · rename_i hr
      injection hx with hx
      subst hx hr
      simp [updSup, hpin hlt hmf]
    · rename_i h1
      split at hx
      · cases hx
      · rename_i h2; simp only [updSup, h1, if_false]; exact Rl.pin x ob hx hlt hmf
theorem res_noix : ∀ (p : Path) (h h' : Hp) (s : S) (t : Top), hasIx p = false → res h s t p = res h' s t p
  | [], h, h', s, t, _ => by rw [res_nil, res_nil]
  | .L :: p, h, h', s, t, e => by cases s <;> simp only [res] <;> exact res_noix p h h' _ _ (by simpa [hasIx] using e)
  | .R :: p, h, h', s, t, e => by cases s <;> simp only [res] <;> exact res_noix p h h' _ _ (by simpa [hasIx] using e)
  | .ix i :: p, h, h', s, t, e => by simp [hasIx] at e
theorem res_flt_noix : ∀ (p : Path) (h : Hp) (s : S) (c : List Value) {s' t'}, hasIx p = false → res h s (.flt c) p = some (s', t') → ∃ c', t' = .flt c'
  | [], h, s, c, s', t', _, e => by rw [res_nil] at e; injection e with e; injection e with _ e; exact ⟨c, e.symm⟩
  | .L :: p, h, s, c, s', t', hp, e => by cases s <;> simp only [res] at e <;> first | (cases e; done) | exact res_flt_noix p h _ _ (by simpa [hasIx] using hp) e
  | .R :: p, h, s, c, s', t', hp, e => by cases s <;> simp only [res] at e <;> first | (cases e; done) | exact res_flt_noix p h _ _ (by simpa [hasIx] using hp) e
  | .ix i :: p, h, s, c, s', t', hp, e => by simp [hasIx] at hp
theorem rel_wr {Z' : Sup} {ob ob' : Obs} {r : Nat} {b : Bool} {bad : Nat → Prop} (hm : Le Z.m Z'.m) (hob : ∀ x, ¬ bad x → x ≠ r → ob' x = ob x) (hhs : ∀ x, ¬ bad x → x ≠ r → Z'.hs x = Z.hs x)
    (htop : ∀ x, ¬ bad x → x ≠ r → Z'.tops x = Z.tops x) (hpd : ∀ x, ¬ bad x → x ≠ r → Z'.pd x = Z.pd x) (hrs : ∀ x, ¬ bad x → x ≠ r → Z'.rs x = Z.rs x)
    {o o' : Ob} (ho : ob r = some o) (ho' : ob' r = some o') (hs : o'.s = o.s) (ht : Z'.tops r = Z.tops r) (hflt : b = true → ∃ c, Z.tops r = .flt c) (hnb : ¬ bad r)
    {x : AV} {v : Value} (hbad : ∀ y, bad y → hit y .all x = false) (hr : hit r (.wr b) x = false) (hv : RelAV Z ob x v) : RelAV Z' ob' x v := by
  have ptr : ∀ y p v, (y ≠ r → ¬ bad y) → (y = r → hasIx p = false) → isPtr Z ob y p v → isPtr Z' ob' y p v := by
    intro y p v h1 h2 ⟨q, s', b', off, e1, e2, e3⟩
    by_cases hy : y = r
    · subst hy
      rw [ho] at e1; injection e1 with e1; subst e1
      exact ⟨o', s', b', off, ho', by rw [hs, ht, ← res_noix p (Z.rs y) (Z'.rs y) _ _ (h2 rfl)]; exact e2, e3⟩
    · exact ⟨q, s', b', off, by rw [hob y (h1 hy) hy]; exact e1, by rw [hrs y (h1 hy) hy, htop y (h1 hy) hy]; exact e2, e3⟩
  have rp : ∀ s (x : den s) v, isRp Z s x v → isRp Z' s x v := by
    intro s x v ⟨b, off, c, e1, e2, e3⟩
    exact ⟨b, off, c, e1, e2.mono hm, Rep_mono hm _ _ _ _ _ e3⟩
  cases x with
  | pv s x => obtain ⟨c, e, r⟩ := hv; exact ⟨c, e, Rep_mono hm _ _ _ _ _ r⟩
  | rp s x => exact rp s x v hv
  | z s => exact hv
  | dead => trivial
  | ptr y p =>
    have h1 : ¬ bad y := fun hb => (hit_all_false (hbad y hb) y).1 p rfl rfl
    have h2 : y = r → hasIx p = false := by intro e; subst e; simpa [hit, hitPtr] using hr
    exact ptr y p v (fun _ => h1) h2 hv
  | ov y p =>
    have h1 : ¬ bad y := fun hb => (hit_all_false (hbad y hb) y).2.1 p rfl rfl
    obtain ⟨q, s', t, c, e1, e2, e3, e4⟩ := hv
    by_cases hy : y = r
    · subst hy
      have h2 : b = true ∧ hasIx p = false := by simpa [hit, hitOv] using hr
      obtain ⟨cf, hcf⟩ := hflt h2.1
      rw [ho] at e1; injection e1 with e1; subst e1
      have e2' := e2
      rw [hcf] at e2
      obtain ⟨c', et⟩ := res_flt_noix p _ _ _ h2.2 e2
      subst et
      exact ⟨o', s', .flt c', c, ho', by rw [hs, ht, ← res_noix p (Z.hs y) (Z'.hs y) _ _ h2.2]; exact e2', e3, e4⟩
    · exact ⟨q, s', t, c, by rw [hob y h1 hy]; exact e1, by rw [hhs y h1 hy, htop y h1 hy]; exact e2, by rw [hhs y h1 hy]; exact e3, e4⟩
  | bx y p =>
    have h1 : ¬ bad y := fun hb => (hit_all_false (hbad y hb) y).2.2.2.2 p rfl rfl
    obtain ⟨q, s', t, c, b0, f0, e1, e2, e3, e4, e5, e6⟩ := hv
    by_cases hy : y = r
    · subst hy
      have h2 : b = true ∧ hasIx p = false := by simpa [hit, hitOv] using hr
      obtain ⟨cf, hcf⟩ := hflt h2.1
      rw [ho] at e1; injection e1 with e1; subst e1
      have e2' := e2
      rw [hcf] at e2
      obtain ⟨c', et⟩ := res_flt_noix p _ _ _ h2.2 e2
      subst et
      exact ⟨o', s', .flt c', c, b0, f0, ho', by rw [hs, ht, ← res_noix p (Z.hs y) (Z'.hs y) _ _ h2.2]; exact e2', e3, e4, e5, e6.mono hm⟩
    · exact ⟨q, s', t, c, b0, f0, by rw [hob y h1 hy]; exact e1, by rw [hhs y h1 hy, htop y h1 hy]; exact e2, by rw [hhs y h1 hy]; exact e3, e4, e5, e6.mono hm⟩
  | osub y p lo hi =>
    have h1 : ¬ bad y := fun hb => (hit_all_false (hbad y hb) y).2.2.1 p lo hi rfl rfl
    have hy : y ≠ r := fun e => by subst e; simp [hit] at hr
    obtain ⟨q, e, s', t, ad, len, cap, e1, e2, e3, e4⟩ := hv
    exact ⟨q, e, s', t, ad, len, cap, by rw [hob y h1 hy]; exact e1, by rw [hhs y h1 hy, htop y h1 hy]; exact e2, by rw [hhs y h1 hy]; exact e3, e4⟩
  | app y p =>
    have h1 : ¬ bad y := fun hb => (hit_all_false (hbad y hb) y).2.2.2.1 p rfl rfl
    have hy : y ≠ r := fun e => by subst e; simp [hit] at hr
    obtain ⟨q, b', off, e1, e2, e3⟩ := hv
    exact ⟨q, b', off, by rw [hob y h1 hy]; exact e1, e2, by rw [hpd y h1 hy]; exact e3⟩
  | fn f caps =>
    obtain ⟨vs, e, al⟩ := hv
    refine ⟨vs, e, al.imp fun c hc v hcv => ?_⟩
    cases c with
    | cp y p =>
      have h1 : ¬ bad y := fun hb => by have := anyCap_false (hbad y hb) _ hc; simp [hitCap, hitPtr] at this
      have h2 : y = r → hasIx p = false := by intro e; subst e; have := anyCap_false hr _ hc; simpa [hitCap, hitPtr] using this
      exact ptr y p v (fun _ => h1) h2 hcv
    | cr s x => exact rp s x v hcv
theorem rel_wp {Z' : Sup} {ob ob' : Obs} {r : Nat} {b : Bool} {bad : Nat → Prop} (hm : Le Z.m Z'.m) (hob : ∀ x, ¬ bad x → x ≠ r → ob' x = ob x) (hhs : ∀ x, ¬ bad x → x ≠ r → Z'.hs x = Z.hs x)
    (htop : ∀ x, ¬ bad x → x ≠ r → Z'.tops x = Z.tops x) (hpd : ∀ x, ¬ bad x → x ≠ r → Z'.pd x = Z.pd x) (hrs : ∀ x, ¬ bad x → x ≠ r → Z'.rs x = Z.rs x)
    {o o' : Ob} (ho : ob r = some o) (ho' : ob' r = some o') (hs : o'.s = o.s) (ht : Z'.tops r = Z.tops r) (hflt : b = true → ∃ c, Z.tops r = .flt c) (hnb : ¬ bad r)
    {P : Path} {O : O}
    (hasd : ∀ (q : Path) (y : S × Top) (c : List Value), aside P q = true → ownP O q = true → res (Z.hs r) o.s (Z.tops r) q = some y → cellsAt (Z.hs r) y.2 y.1.size c → res (Z'.hs r) o.s (Z.tops r) q = some y ∧ cellsAt (Z'.hs r) y.2 y.1.size c)
    {x : AV} {v : Value} (hbad : ∀ y, bad y → hit y .all x = false) (hr : hit r (.wp b P O) x = false) (hv : RelAV Z ob x v) : RelAV Z' ob' x v := by
  have ptr : ∀ y p v, (y ≠ r → ¬ bad y) → (y = r → hasIx p = false) → isPtr Z ob y p v → isPtr Z' ob' y p v := by
    intro y p v h1 h2 ⟨q, s', b', off, e1, e2, e3⟩
    by_cases hy : y = r
    · subst hy
      rw [ho] at e1; injection e1 with e1; subst e1
      exact ⟨o', s', b', off, ho', by rw [hs, ht, ← res_noix p (Z.rs y) (Z'.rs y) _ _ (h2 rfl)]; exact e2, e3⟩
    · exact ⟨q, s', b', off, by rw [hob y (h1 hy) hy]; exact e1, by rw [hrs y (h1 hy) hy, htop y (h1 hy) hy]; exact e2, e3⟩
  have rp : ∀ s (x : den s) v, isRp Z s x v → isRp Z' s x v := by
    intro s x v ⟨b, off, c, e1, e2, e3⟩
    exact ⟨b, off, c, e1, e2.mono hm, Rep_mono hm _ _ _ _ _ e3⟩
  cases x with
  | pv s x => obtain ⟨c, e, r⟩ := hv; exact ⟨c, e, Rep_mono hm _ _ _ _ _ r⟩
  | rp s x => exact rp s x v hv
  | z s => exact hv
  | dead => trivial
  | ptr y p =>
    have h1 : ¬ bad y := fun hb => (hit_all_false (hbad y hb) y).1 p rfl rfl
    have h2 : y = r → hasIx p = false := by intro e; subst e; simpa [hit, hitPtr] using hr
    exact ptr y p v (fun _ => h1) h2 hv
  | ov y p =>
    have h1 : ¬ bad y := fun hb => (hit_all_false (hbad y hb) y).2.1 p rfl rfl
    obtain ⟨q, s', t, c, e1, e2, e3, e4⟩ := hv
    by_cases hy : y = r
    · subst hy
      have h2 : (b = true ∧ hasIx p = false) ∨ (aside P p = true ∧ ownP O p = true) := by
        simp only [hit, hitOv, Nat.beq_refl, Bool.true_and, Bool.and_eq_false_iff, Bool.not_eq_false', Bool.and_eq_true, Bool.not_eq_true'] at hr
        exact hr
      rw [ho] at e1; injection e1 with e1; subst e1
      rcases h2 with h2 | h2
      case inr =>
        obtain ⟨z1, z2⟩ := hasd p (s', t) c h2.1 h2.2 e2 e3
        exact ⟨o', s', t, c, ho', by rw [hs, ht]; exact z1, z2, e4⟩
      obtain ⟨cf, hcf⟩ := hflt h2.1
      have e2' := e2
      rw [hcf] at e2
      obtain ⟨c', et⟩ := res_flt_noix p _ _ _ h2.2 e2
      subst et
      exact ⟨o', s', .flt c', c, ho', by rw [hs, ht, ← res_noix p (Z.hs y) (Z'.hs y) _ _ h2.2]; exact e2', e3, e4⟩
    · exact ⟨q, s', t, c, by rw [hob y h1 hy]; exact e1, by rw [hhs y h1 hy, htop y h1 hy]; exact e2, by rw [hhs y h1 hy]; exact e3, e4⟩
  | bx y p =>
    have h1 : ¬ bad y := fun hb => (hit_all_false (hbad y hb) y).2.2.2.2 p rfl rfl
    obtain ⟨q, s', t, c, b0, f0, e1, e2, e3, e4, e5, e6⟩ := hv
    by_cases hy : y = r
    · subst hy
      have h2 : (b = true ∧ hasIx p = false) ∨ (aside P p = true ∧ ownP O p = true) := by
        simp only [hit, hitOv, Nat.beq_refl, Bool.true_and, Bool.and_eq_false_iff, Bool.not_eq_false', Bool.and_eq_true, Bool.not_eq_true'] at hr
        exact hr
      rw [ho] at e1; injection e1 with e1; subst e1
      rcases h2 with h2 | h2
      case inr =>
        obtain ⟨z1, z2⟩ := hasd p (s', t) c h2.1 h2.2 e2 e3
        exact ⟨o', s', t, c, b0, f0, ho', by rw [hs, ht]; exact z1, z2, e4, e5, e6.mono hm⟩
      obtain ⟨cf, hcf⟩ := hflt h2.1
      have e2' := e2
      rw [hcf] at e2
      obtain ⟨c', et⟩ := res_flt_noix p _ _ _ h2.2 e2
      subst et
      exact ⟨o', s', .flt c', c, b0, f0, ho', by rw [hs, ht, ← res_noix p (Z.hs y) (Z'.hs y) _ _ h2.2]; exact e2', e3, e4, e5, e6.mono hm⟩
    · exact ⟨q, s', t, c, b0, f0, by rw [hob y h1 hy]; exact e1, by rw [hhs y h1 hy, htop y h1 hy]; exact e2, by rw [hhs y h1 hy]; exact e3, e4, e5, e6.mono hm⟩
  | osub y p lo hi =>
    have h1 : ¬ bad y := fun hb => (hit_all_false (hbad y hb) y).2.2.1 p lo hi rfl rfl
    have hy : y ≠ r := fun e => by subst e; simp [hit] at hr
    obtain ⟨q, e, s', t, ad, len, cap, e1, e2, e3, e4⟩ := hv
    exact ⟨q, e, s', t, ad, len, cap, by rw [hob y h1 hy]; exact e1, by rw [hhs y h1 hy, htop y h1 hy]; exact e2, by rw [hhs y h1 hy]; exact e3, e4⟩
  | app y p =>
    have h1 : ¬ bad y := fun hb => (hit_all_false (hbad y hb) y).2.2.2.1 p rfl rfl
    have hy : y ≠ r := fun e => by subst e; simp [hit] at hr
    obtain ⟨q, b', off, e1, e2, e3⟩ := hv
    exact ⟨q, b', off, by rw [hob y h1 hy]; exact e1, e2, by rw [hpd y h1 hy]; exact e3⟩
  | fn f caps =>
    obtain ⟨vs, e, al⟩ := hv
    refine ⟨vs, e, al.imp fun c hc v hcv => ?_⟩
    cases c with
    | cp y p =>
      have h1 : ¬ bad y := fun hb => by have := anyCap_false (hbad y hb) _ hc; simp [hitCap, hitPtr] at this
      have h2 : y = r → hasIx p = false := by intro e; subst e; have := anyCap_false hr _ hc; simpa [hitCap, hitPtr] using this
      exact ptr y p v (fun _ => h1) h2 hcv
    | cr s x => exact rp s x v hcv
end
end Go.AE
namespace Go.AE
theorem blk_dom {b off : Nat} {c d : List Value} (h : c.length = d.length) {x y : Nat} (e : blk b off c x y ≠ none) : blk b off d x y ≠ none := by
  unfold blk at e ⊢
  split at e
  · rename_i g
    rw [if_pos g]
    intro z
    apply e
    simp only [Option.map_eq_none_iff, List.getElem?_eq_none_iff] at z ⊢
    omega
  · exact absurd rfl e
theorem setK_shape {R : Type} : ∀ (p : Path) (s : S) (x : den s) (s' : S) (v : den s') (k : den s → Option R) (y : R), setK s x p s' v k = some y → shapeAt s p = some s'
  | [], s, x, s', v, k, y, h => by
    have h : cast? s' s v k = some y := by cases s <;> simpa only [setK] using h
    obtain ⟨e, _⟩ := cast?_eq h
    subst e; cases s' <;> rfl
  | .L :: p, s, x, s', v, k, y, h => by cases s <;> simp only [setK] at h <;> first | (cases h; done) | exact setK_shape p _ _ s' v _ y h
  | .R :: p, s, x, s', v, k, y, h => by cases s <;> simp only [setK] at h <;> first | (cases h; done) | exact setK_shape p _ _ s' v _ y h
  | .ix i :: p, s, x, s', v, k, y, h => by
    cases s <;> simp only [setK] at h <;> first | (cases h; done) | skip
    obtain ⟨x1, _, h⟩ := bindO_eq h
    exact setK_shape p _ _ s' v _ y h
theorem setK_getK {R : Type} : ∀ (p : Path) (s : S) (x : den s) (s' : S) (v : den s') (k : den s → Option R) (y : R), setK s x p s' v k = some y → getK s x p (fun _ _ => some ()) = some ()
  | [], s, x, s', v, k, y, h => by rw [getK_nil]
  | .L :: p, s, x, s', v, k, y, h => by cases s <;> simp only [setK] at h <;> first | (cases h; done) | exact setK_getK p _ _ s' v _ y h
  | .R :: p, s, x, s', v, k, y, h => by cases s <;> simp only [setK] at h <;> first | (cases h; done) | exact setK_getK p _ _ s' v _ y h
  | .ix i :: p, s, x, s', v, k, y, h => by
    cases s <;> simp only [setK] at h <;> first | (cases h; done) | skip
    obtain ⟨x1, hx, h⟩ := bindO_eq h
    simp only [getK, hx]
    exact setK_getK p _ _ s' v _ y h
theorem pathEqK_eq {R : Type} : ∀ {p q : Path} {k : Option R} {y : R}, pathEqK p q k = some y → p = q ∧ k = some y
  | [], [], k, y, h => ⟨rfl, h⟩
  | .L :: p, .L :: q, k, y, h => by obtain ⟨e, h⟩ := pathEqK_eq (p := p) (q := q) h; exact ⟨by rw [e], h⟩
  | .R :: p, .R :: q, k, y, h => by obtain ⟨e, h⟩ := pathEqK_eq (p := p) (q := q) h; exact ⟨by rw [e], h⟩
  | .ix i :: p, .ix j :: q, k, y, h => by
    obtain ⟨hij, h⟩ := ifB_true (by simpa only [pathEqK] using h)
    obtain ⟨e, h⟩ := pathEqK_eq (p := p) (q := q) h
    have : i = j := by simpa [pEq] using hij
    exact ⟨by rw [e, this], h⟩
  | [], .L :: _, _, _, h => by simp [pathEqK] at h
  | [], .R :: _, _, _, h => by simp [pathEqK] at h
  | [], .ix _ :: _, _, _, h => by simp [pathEqK] at h
  | .L :: _, [], _, _, h => by simp [pathEqK] at h
  | .L :: _, .R :: _, _, _, h => by simp [pathEqK] at h
  | .L :: _, .ix _ :: _, _, _, h => by simp [pathEqK] at h
  | .R :: _, [], _, _, h => by simp [pathEqK] at h
  | .R :: _, .L :: _, _, _, h => by simp [pathEqK] at h
  | .R :: _, .ix _ :: _, _, _, h => by simp [pathEqK] at h
  | .ix _ :: _, [], _, _, h => by simp [pathEqK] at h
  | .ix _ :: _, .L :: _, _, _, h => by simp [pathEqK] at h
  | .ix _ :: _, .R :: _, _, _, h => by simp [pathEqK] at h
section
variable {P : Program} {tb : Hp} {C : Ctx tb} {Z : Sup} {st : St} {a : Act} {w w' : World} {g : Cfg} {o : Oper} {R : Type} {k : Eff → Option R} {y : R}
theorem upd_ids {cons : List Nat} {r : Nat} {ob' : Option Ob} : ∀ x, (∀ z ∈ goneU cons ++ [(r, ob')], z.1 ≠ x) → x ≠ r ∧ x ∉ cons :=
  fun x h => ⟨fun e => h (r, ob') (by simp) e.symm, fun e => h (x, none) (List.mem_append_left _ (goneU_mem e)) rfl⟩
def stEff (cons : List Nat) (r : Nat) (ob' : Ob) (b : Bool) (p : Path) (o : O) : Eff :=
  { av := .one .dead, upd := goneU cons ++ [(r, some ob')], kill := goneK cons ++ [(r, .wp b p o)] }
theorem stEff_ob {d : Option Tmp} {cons : List Nat} {r : Nat} {ob' : Ob} {av : SV} {kl : List (Nat × KK)} (x : Nat) :
    (st.apply d { av := av, upd := goneU cons ++ [(r, some ob')], kill := kl }).ob x = if x = r then some ob' else if x ∈ cons then none else st.ob x := by
  show look (upds (goneU cons ++ [(r, some ob')]) st.objs) x = _
  rw [upds_app]
  show look (putOb (upds (goneU cons) st.objs) r ob') x = _
  rw [look_put, look_gone]
  rfl
theorem not_mem_flt (Rl : Rel Z st a.tmps w) {r : Nat} {ob : Ob} (hob : st.ob r = some ob) (h : ob.mem = false) : ∃ c, Z.tops r = .flt c := by
  have := (Rl.obs r ob hob).1
  cases ht : Z.tops r with
  | flt c => exact ⟨c, rfl⟩
  | mem b off => exact absurd (this.2 ⟨b, off, ht⟩) (by rw [h]; simp)
theorem store_core (hd : a.defers = []) (Rl : Rel Z st a.tmps w) (F : Fr C Z w) {d : Option Tmp} {r : Nat} {p : Path} {ob : Ob} {s : S} {x0 : den s} {b off : Nat} {c0 : List Value}
    (A : At Z st r p ob s x0 (.mem b off) c0) {hs0 hc h0 : Hp} {c1 : List Value} (sp : Sp (Z.hs r) hs0 hc) (sp0 : Sp hs0 (blk b off c1) h0) (hl1 : c1.length = s.size) (back : Back Z.m ob.s ob.o hc (Z.tops r) ob.x p s (.mem b off)) (asd : Asd ob.o (Z.hs r) hc ob.s (Z.tops r) p)
    {hm h1 : Hp} {cs : List Value} {xn : den s} {cons : List Nat} {mo o2 : O} (hr : r ∉ cons)
    (rep : Rep (Un Z.m hm) s mo h1 cs xn) (hset : setMask ob.o p mo = some o2)
    (hle : ∀ b' o' v, h1 b' o' = some v → uH Z.hs cons b' o' = some v ∨ h0 b' o' = some v)
    (hmle : ∀ b' o' v, hm b' o' = some v → uH Z.hs cons b' o' = some v) (hmh : Dj hm h1)
    {kk : den ob.s → Option R} (hk : setK ob.s ob.x p s xn kk = some y) :
    ∃ x', kk x' = some y ∧ cs.length = s.size ∧ (∀ v ∈ cs, v.oneCell' = true) ∧ (∀ j, j < cs.length → (w.cell? ⟨b, off + j, none⟩).isSome = true ∧ w.frozen? ⟨b, off + j, none⟩ = false) ∧
      InvK C Z st d (stEff cons r { ob with x := x', o := o2 } (hasIx p && !ob.mem) p ob.o) (a.put d undef) (setCells w b off cs) := by
  have hl := Rep_len _ _ _ _ _ _ rep
  have hone := Rep_one _ _ _ _ _ _ rep
  -- the domain of the store
  have hD : ∀ b' o', blk b off cs b' o' ≠ none → blk b off c1 b' o' ≠ none := fun b' o' e => blk_dom (by rw [hl, hl1]) e
  have hDr : ∀ b' o', blk b off cs b' o' ≠ none → Z.hs r b' o' ≠ none := fun b' o' e => by
    cases e1 : blk b off c1 b' o' with
    | none => exact absurd e1 (hD b' o' e)
    | some v => rw [sp.left _ _ _ (sp0.left _ _ _ e1)]; simp
  have hDs : ∀ b' o', Z.hs r b' o' = none → blk b off cs b' o' = none := fun b' o' e => by
    cases e1 : blk b off cs b' o' with
    | none => rfl
    | some v => exact absurd e (hDr b' o' (by rw [e1]; simp))
  have hcell : ∀ j, j < cs.length → (w.cell? ⟨b, off + j, none⟩).isSome = true ∧ w.frozen? ⟨b, off + j, none⟩ = false := by
    intro j hj
    obtain ⟨q1, q2⟩ := Rl.own r _ _ _ (sp.left _ _ _ (sp0.left _ _ _ (blk_v (b := b) (off := off) (List.getElem?_eq_getElem (l := c1) (i := j) (by omega)))))
    have q1 := hat_v.1 q1
    exact ⟨by rw [q1]; rfl, q2.at q1⟩
  have M : Mod (blk b off cs) w (setCells w b off cs) := Mod.setCells cs w b off fun j hj => by rw [blk_at, List.getElem?_eq_getElem hj]; simp
  -- cells that stay
  have keep : ∀ b' o' v, hat w b' o' = some v → blk b off cs b' o' = none → hat (setCells w b off cs) b' o' = some v := by
    intro b' o' v e1 e2
    rw [M.cell b' o' (cell_lt e1) e2]; exact e1
  have keepf : ∀ b' o' v, hat w b' o' = some v → NF w b' → NF (setCells w b off cs) b' := fun b' o' v e1 n => n.mod M (cell_lt e1)
  have uHr : ∀ b' o' v, uH Z.hs cons b' o' = some v → Z.hs r b' o' = none := by
    intro b' o' v e
    obtain ⟨r', hr', e⟩ := uH_some e
    rcases Rl.dj r' r (fun q => hr (q ▸ hr')) b' o' with z | z
    · rw [e] at z; cases z
    · exact z
  -- the new heap
  have d1 : Dj (blk b off cs) h1 := fun b' o' => by
    cases e : h1 b' o' with
    | none => exact .inr rfl
    | some v =>
      left
      rcases hle b' o' v e with z | z
      · exact hDs _ _ (uHr _ _ _ z)
      · cases e1 : blk b off cs b' o' with
        | none => rfl
        | some u =>
          exfalso
          have := hD b' o' (by rw [e1]; simp)
          rcases sp0.dj b' o' with q | q
          · exact this q
          · rw [z] at q; cases q
  have d2 : Dj (Un (blk b off cs) h1) hc := fun b' o' => by
    cases e : hc b' o' with
    | none => exact .inr rfl
    | some v =>
      left
      have e2 : hs0 b' o' = none := by
        rcases sp.dj b' o' with z | z
        · exact z
        · rw [e] at z; cases z
      have e3 : blk b off cs b' o' = none := by
        cases e1 : blk b off cs b' o' with
        | none => rfl
        | some u =>
          exfalso
          cases e4 : blk b off c1 b' o' with
          | none => exact hD b' o' (by rw [e1]; simp) e4
          | some u' => rw [sp0.left _ _ _ e4] at e2; cases e2
      have e5 : h1 b' o' = none := by
        cases e6 : h1 b' o' with
        | none => rfl
        | some u =>
          exfalso
          rcases hle b' o' u e6 with z | z
          · have := uHr _ _ _ z
            rw [sp.right _ _ _ e] at this; cases this
          · rw [sp0.right _ _ _ z] at e2; cases e2
      simp [Un, e3, e5]
  have spN := Un.sp d2
  have hmdj : Dj Z.m hm := fun b' o' => by
    cases e : hm b' o' with
    | none => exact .inr rfl
    | some v =>
      left
      obtain ⟨r', hr', e⟩ := uH_some (hmle _ _ _ e)
      rcases Rl.mdj r' b' o' with z | z
      · exact z
      · rw [e] at z; cases z
  obtain ⟨x', hk', rt'⟩ := back b off rfl (Un Z.m hm) (Un (blk b off cs) h1) (Un (Un (blk b off cs) h1) hc) mo o2 xn (Un.le_left _ _) hset spN ⟨cs, h1, Un.sp d1, rep⟩ kk y hk
  refine ⟨x', hk', hl, hone, hcell, ?_⟩
  -- what the new cells are
  have Hcells : ∀ b' o' v, Un (Un (blk b off cs) h1) hc b' o' = some v → blk b off cs b' o' = some v ∨ (blk b off cs b' o' = none ∧ (uH Z.hs cons b' o' = some v ∨ Z.hs r b' o' = some v)) := by
    intro b' o' v e
    rcases spN.some e with z | z
    · rcases (Un.sp d1).some z with z | z
      · exact .inl z
      · right
        refine ⟨?_, ?_⟩
        · rcases d1 b' o' with q | q
          · exact q
          · rw [z] at q; cases q
        · rcases hle b' o' v z with q | q
          · exact .inl q
          · exact .inr (sp.left _ _ _ (sp0.right _ _ _ q))
    · right
      refine ⟨?_, .inr (sp.right _ _ _ z)⟩
      rcases d2 b' o' with q | q
      · exact ((Un.sp d1).none q).1
      · rw [z] at q; cases q
  have uHcell : ∀ b' o' v, uH Z.hs cons b' o' = some v → hat w b' o' = some v ∧ NF w b' := by
    intro b' o' v e
    obtain ⟨r', _, e⟩ := uH_some e
    exact Rl.own r' _ _ _ e
  refine inv_obj (Z := Z) (d := d) (r := r) (ob' := { ob with x := x', o := o2 }) (gone := cons) (m' := Un Z.m hm) (H := Un (Un (blk b off cs) h1) hc) (t' := Z.tops r) (pv' := Z.pd r) (rs' := Un (Un (blk b off cs) h1) hc) hd Rl
    (fun x => stEff_ob x) (Un.le_left _ _) ?_ ?_ ?_ ?_ ?_ ?_ ?_ ?_ trivial ?_ (fun _ => rfl) upd_ids (fun h1 h2 => Rl.pin r ob A.isOb h1 h2)
  · intro b' o' v e
    rcases (Un.sp hmdj).some e with z | z
    · refine keep b' o' v (Rl.imm _ _ _ z) (hDs _ _ ?_)
      rcases Rl.mdj r b' o' with q | q
      · rw [z] at q; cases q
      · exact q
    · have z := hmle _ _ _ z
      exact keep b' o' v (uHcell _ _ _ z).1 (hDs _ _ (uHr _ _ _ z))
  · intro b' o' v e
    rcases Hcells b' o' v e with z | ⟨z1, z | z⟩
    · obtain ⟨e1, e2, v, ev, e3⟩ := blk_some z
      subst e1 ev
      have hj : o' - off < cs.length := by
        rcases Nat.lt_or_ge (o' - off) cs.length with q | q
        · exact q
        · rw [List.getElem?_eq_none q] at e3; cases e3
      have e4 : off + (o' - off) = o' := by omega
      have := setCells_cell cs w b' off (fun j hj => (hcell j hj).1) (o' - off) v e3
      rw [e4] at this
      refine ⟨hat_v.2 this, ?_⟩
      obtain ⟨u, hu⟩ := Option.ne_none_iff_exists'.1 (hDr b' o' (by rw [z]; simp))
      obtain ⟨q1, q2⟩ := Rl.own r _ _ _ hu
      exact keepf b' o' u q1 q2
    · obtain ⟨q1, q2⟩ := uHcell _ _ _ z
      exact ⟨keep b' o' v q1 z1, keepf b' o' v q1 q2⟩
    · obtain ⟨q1, q2⟩ := Rl.own r _ _ _ z
      exact ⟨keep b' o' v q1 z1, keepf b' o' v q1 q2⟩
  · intro x b' o' v hx hxc e
    obtain ⟨q1, q2⟩ := Rl.own x _ _ _ e
    have : Z.hs r b' o' = none := by
      rcases Rl.dj x r hx b' o' with z | z
      · rw [e] at z; cases z
      · exact z
    exact ⟨keep b' o' v q1 (hDs _ _ this), keepf b' o' v q1 q2⟩
  · -- m' and H
    intro b' o'
    cases e : Un (Un (blk b off cs) h1) hc b' o' with
    | none => exact .inr rfl
    | some v =>
      left
      have hz : Z.m b' o' = none := by
        rcases Hcells b' o' v e with z | ⟨z1, z | z⟩
        · have := hDr b' o' (by rw [z]; simp)
          rcases Rl.mdj r b' o' with q | q
          · exact q
          · exact absurd q this
        · obtain ⟨r', _, z⟩ := uH_some z
          rcases Rl.mdj r' b' o' with q | q
          · exact q
          · rw [z] at q; cases q
        · rcases Rl.mdj r b' o' with q | q
          · exact q
          · rw [z] at q; cases q
      have hh : hm b' o' = none := by
        cases e2 : hm b' o' with
        | none => rfl
        | some u =>
          exfalso
          have hu := uHr _ _ _ (hmle _ _ _ e2)
          rcases spN.some e with z | z
          · rcases (Un.sp d1).some z with z | z
            · exact hDr b' o' (by rw [z]; simp) hu
            · rcases hmh b' o' with q | q
              · rw [e2] at q; cases q
              · rw [z] at q; cases q
          · rw [sp.right _ _ _ z] at hu; cases hu
      simp [Un, hz, hh]
  · intro x hx hxc b' o'
    cases e : Z.hs x b' o' with
    | none => exact .inr rfl
    | some v =>
      left
      have hz : Z.m b' o' = none := by
        rcases Rl.mdj x b' o' with q | q
        · exact q
        · rw [e] at q; cases q
      have hh : hm b' o' = none := by
        cases e2 : hm b' o' with
        | none => rfl
        | some u =>
          exfalso
          obtain ⟨r', hr', e3⟩ := uH_some (hmle _ _ _ e2)
          rcases Rl.dj r' x (fun q => hxc (q ▸ hr')) b' o' with q | q
          · rw [e3] at q; cases q
          · rw [e] at q; cases q
      simp [Un, hz, hh]
  · intro x hx hxc b' o'
    cases e : Z.hs x b' o' with
    | none => exact .inr rfl
    | some v =>
      left
      have hxr : Z.hs r b' o' = none := by
        rcases Rl.dj x r hx b' o' with q | q
        · rw [e] at q; cases q
        · exact q
      cases e2 : Un (Un (blk b off cs) h1) hc b' o' with
      | none => rfl
      | some u =>
        exfalso
        rcases Hcells b' o' u e2 with z | ⟨z1, z | z⟩
        · exact hDr b' o' (by rw [z]; simp) hxr
        · obtain ⟨r', hr', z⟩ := uH_some z
          rcases Rl.dj r' x (fun q => hxc (q ▸ hr')) b' o' with q | q
          · rw [z] at q; cases q
          · rw [e] at q; cases q
        · rw [hxr] at z; cases z
  · have hro := Rl.obs r ob A.isOb
    refine ⟨?_, ?_⟩
    · show ob.mem = true ↔ ∃ b off, (if r = r then Z.tops r else _) = _
      rw [if_pos rfl]; exact hro.1
    · show (match ob.pend with | none => RepT (Un Z.m hm) ob.s o2 (if r = r then _ else _) (if r = r then Z.tops r else _) x' | some p => _)
      rw [A.pend, if_pos rfl, if_pos rfl]
      exact rt'
  · intro z u hun hz
    refine rel_wp (Z := Z) (r := r) (b := hasIx p && !ob.mem) (P := p) (O := ob.o) (bad := fun x => x ∈ cons) (o := ob) (o' := { ob with x := x', o := o2 }) (Un.le_left _ _) ?_ ?_ ?_ ?_ ?_ A.isOb ?_ rfl (by simp [updSup]) ?_ hr ?_ ?_ ?_ hz
    · intro x hx hxr; rw [stEff, stEff_ob]; simp [hx, hxr]
    · intro x hx hxr; simp [updSup, hx, hxr]
    · intro x hx hxr; simp [updSup, hx, hxr]
    · intro x hx hxr; simp [updSup, hx, hxr]
    · intro x hx hxr; simp [updSup, hx, hxr]
    · rw [stEff, stEff_ob]; simp
    · intro hb
      simp only [Bool.and_eq_true, Bool.not_eq_true'] at hb
      exact not_mem_flt Rl A.isOb hb.2
    · intro q yy cc ha ho he hcc
      obtain ⟨z1, z2⟩ := asd q yy cc ha ho he hcc
      have hle : Le hc ((updSup Z r cons (Un Z.m hm) (Un (Un (blk b off cs) h1) hc) (Z.tops r) (Z.pd r) (Un (Un (blk b off cs) h1) hc)).hs r) := by
        simp only [updSup, if_true]; exact spN.right
      exact ⟨res_le hle _ _ _ z1, cells_le hle z2⟩
    · intro x hx; exact hun (x, .all) (by simp [stEff, goneK_mem hx])
    · exact hun (r, .wp (hasIx p && !ob.mem) p ob.o) (by simp [stEff])
  · refine F.mod M ?_ (Un.le_left _ _) rfl ?_ ?_ (upd_pd fun b off v z h1 _ => .inl ⟨r, h1⟩)
    · intro b' o' e
      exact F.hs r b' o' (hDr b' o' e)
    · intro x b' o' e
      simp only [updSup] at e
      split at e
      · cases e2 : Un (Un (blk b off cs) h1) hc b' o' with
        | none => exact absurd e2 e
        | some u =>
          rcases Hcells b' o' u e2 with z | ⟨z1, z | z⟩
          · exact F.hs r b' o' (hDr b' o' (by rw [z]; simp))
          · obtain ⟨r', _, z⟩ := uH_some z; exact F.hs r' b' o' (by rw [z]; simp)
          · exact F.hs r b' o' (by rw [z]; simp)
      · split at e
        · exact absurd rfl e
        · exact F.hs x b' o' e
    · intro b' o' e
      simp only [updSup] at e
      cases e2 : Un Z.m hm b' o' with
      | none => exact absurd e2 e
      | some u =>
        rcases (Un.sp hmdj).some e2 with z | z
        · exact F.mf b' o' (by rw [z]; simp)
        · obtain ⟨r', _, z⟩ := uH_some (hmle _ _ _ z)
          exact .inr (F.hs r' b' o' (by rw [z]; simp))
end
end Go.AE
namespace Go.AE
section
variable {P : Program} {tb : Hp} {C : Ctx tb} {Z : Sup} {st : St} {a : Act} {w w' : World} {g : Cfg} {o : Oper} {R : Type} {k : Eff → Option R} {y : R}
theorem at_of_set (Rl : Rel Z st a.tmps w) {r : Nat} {p : Path} {ob : Ob} (hob : st.ob r = some ob) (hp : ob.pend = none) (ho : ownP ob.o p = true) {s' : S} {v : den s'} {kk : den ob.s → Option R} (h : setK ob.s ob.x p s' v kk = some y) :
    ∃ x t c, At Z st r p ob s' x t c := by
  have h1 : atPlace st r p (fun _ _ _ => some ()) = some () := by
    unfold atPlace
    rw [hob]
    simp only [hp, ho]
    exact setK_getK p _ _ _ _ _ _ h
  obtain ⟨ob2, s2, x, t, c, _, A⟩ := atPlace_eq Rl h1
  have e := A.isOb
  rw [hob] at e; injection e with e; subst e
  have hs := setK_shape p _ _ _ _ _ _ h
  rw [A.sh] at hs; injection hs with hs; subst hs
  exact ⟨x, t, c, A⟩
def StoreOk (P : Program) {tb : Hp} (C : Ctx tb) (Z : Sup) (st : St) (a : Act) (w : World) (d : Option Tmp) (s : S) (b off : Nat) (v : Value) (k : Eff → Option R) (y : R) : Prop :=
  ∃ e, k e = some y ∧ ∃ c : List Value, v.cells = c.toArray ∧ c.length = s.size ∧ (∀ v ∈ c, v.oneCell' = true) ∧
    (∀ j, j < c.length → (w.cell? ⟨b, off + j, none⟩).isSome = true ∧ w.frozen? ⟨b, off + j, none⟩ = false) ∧ InvK C Z st d e (a.put d undef) (setCells w b off c)
theorem storeK_ok (hd : a.defers = []) (Rl : Rel Z st a.tmps w) (F : Fr C Z w) {d : Option Tmp} {r : Nat} {p : Path} {x : AV} {v : Value} {s : S} {b off : Nat}
    (hres : ∃ ob, st.ob r = some ob ∧ res (Z.rs r) ob.s (Z.tops r) p = some (s, .mem b off)) (hv : RelAV Z st.ob x v) (h : storeK g st r p x k = some y) : StoreOk P C Z st a w d s b off v k y := by
  obtain ⟨ob, hob, hres⟩ := hres
  have hro := Rl.obs r ob hob
  unfold storeK at h
  rw [hob] at h
  simp only [] at h
  split at h
  · -- what waits for the store
    rename_i r' p'
    obtain ⟨hr, h1⟩ := cond_some h
    have hr := Nat.eq_of_beq_eq_true hr
    subst hr
    obtain ⟨ep, hk⟩ := pathEqK_eq h1
    subst ep
    clear h h1
    obtain ⟨ob1, b1, off1, e1, e2, e3⟩ := hv
    rw [hob] at e1; injection e1 with e1; subst e1
    obtain ⟨hmem, hro⟩ := hro
    rw [e2] at hro
    obtain ⟨b2, off2, v2, et, s', f1, f2, f3, f4, ad, len, cap, f5, _⟩ := hro
    rw [e3] at f1
    simp only [Option.some.injEq, Prod.mk.injEq] at f1
    obtain ⟨g1, g2, g3⟩ := f1
    subst g1 g2 g3
    rw [hres] at f4
    simp only [Option.some.injEq, Prod.mk.injEq, Top.mem.injEq] at f4
    obtain ⟨g1, g2, g3⟩ := f4
    subst g1 g2 g3
    refine ⟨_, hk, [v], by rw [f5]; rfl, rfl, by intro u hu; simp at hu; subst hu; rw [f5]; rfl, ?_, ?_⟩
    · intro j hj
      have : j = 0 := by simpa using hj
      subst this
      obtain ⟨u, e⟩ := f2
      obtain ⟨q1, q2⟩ := Rl.own r _ _ _ e
      have q1 := hat_v.1 q1
      exact ⟨by rw [Nat.add_zero, q1]; rfl, q2.at (by rw [Nat.add_zero]; exact q1)⟩
    · obtain ⟨u0, hu0⟩ := id f2
      have f2 : Z.hs r b off ≠ none := by rw [hu0]; simp
      have hw : setCells w b off [v] = w.setCell ⟨b, off, none⟩ v := rfl
      rw [hw]
      have hD : blk b off [v] b off ≠ none := by have := blk_at (b := b) (off := off) (cs := [v]) (j := 0); rw [Nat.add_zero] at this; rw [this]; simp
      have M : Mod (blk b off [v]) w (w.setCell ⟨b, off, none⟩ v) := Mod.setCell hD
      have hDr : ∀ b' o', blk b off [v] b' o' ≠ none → b' = b ∧ o' = off := by
        intro b' o' e
        cases e1 : blk b off [v] b' o' with
        | none => exact absurd e1 e
        | some u =>
          obtain ⟨z1, z2, u, _, z3⟩ := blk_some e1
          have : o' - off = 0 := by
            rcases Nat.eq_zero_or_pos (o' - off) with q | q
            · exact q
            · rw [List.getElem?_eq_none (by simp; omega)] at z3; cases z3
          exact ⟨z1, by omega⟩
      have ne : ∀ x b' o' z, x ≠ r → Z.hs x b' o' = some z → ¬ (b' = b ∧ o' = off) := by
        rintro x b' o' z hx e ⟨q1, q2⟩
        subst q1 q2
        rcases Rl.dj x r hx b' o' with q | q
        · rw [e] at q; cases q
        · rw [hu0] at q; cases q
      have nem : ∀ b' o' z, Z.m b' o' = some z → ¬ (b' = b ∧ o' = off) := by
        rintro b' o' z e ⟨q1, q2⟩
        subst q1 q2
        rcases Rl.mdj r b' o' with q | q
        · rw [e] at q; cases q
        · rw [hu0] at q; cases q
      have hwr : ∀ x, (st.apply d { av := SV.one AV.dead, upd := [(r, some { ob with pend := none })], kill := [(r, KK.wr (hasIx p && !ob.mem))] }).ob x = if x = r then some { ob with pend := none } else if x ∈ ([] : List Nat) then none else st.ob x :=
        fun x => stEff_ob (cons := []) x
      refine inv_obj (Z := Z) (d := d) (r := r) (ob' := { ob with pend := none }) (gone := []) (m' := Z.m) (H := updH (Z.hs r) b off v) (t' := Z.tops r) (pv' := none) (rs' := updH (Z.hs r) b off v) hd Rl hwr (Le.refl _) ?_ ?_ ?_ ?_ ?_ ?_ ?_ ?_ trivial ?_ (fun _ => rfl) (upd_ids (cons := [])) (fun h1 h2 => Rl.pin r ob hob h1 h2)
      · intro b' o' z e
        rw [hat_set_ne (nem _ _ _ e)]; exact Rl.imm _ _ _ e
      · intro b' o' z e
        unfold updH at e
        split at e
        · rename_i q
          obtain ⟨q1, q2⟩ := q
          subst q1 q2
          injection e with e; subst e
          obtain ⟨z1, z2⟩ := Rl.own r _ _ _ hu0
          exact ⟨hat_v.2 (cell_set_eq (hat_v.1 z1)), z2.same (fun o2 => by rw [World.frozen?_setCell]) (shape_setCell _ _ _ _)⟩
        · rename_i q
          obtain ⟨z1, z2⟩ := Rl.own r _ _ _ e
          exact ⟨by rw [hat_set_ne q]; exact z1, z2.same (fun o2 => by rw [World.frozen?_setCell]) (shape_setCell _ _ _ _)⟩
      · intro x b' o' z hx _ e
        obtain ⟨z1, z2⟩ := Rl.own x _ _ _ e
        exact ⟨by rw [hat_set_ne (ne x b' o' z hx e)]; exact z1, z2.same (fun o2 => by rw [World.frozen?_setCell]) (shape_setCell _ _ _ _)⟩
      · intro b' o'
        rcases Rl.mdj r b' o' with q | q
        · exact .inl q
        · right
          unfold updH
          split
          · rename_i z; obtain ⟨z1, z2⟩ := z; subst z1 z2; rw [hu0] at q; cases q
          · exact q
      · intro x hx _; exact Rl.mdj x
      · intro x hx _ b' o'
        rcases Rl.dj x r hx b' o' with q | q
        · exact .inr q
        · left
          unfold updH
          split
          · rename_i z; obtain ⟨z1, z2⟩ := z; subst z1 z2; rw [hu0] at q; cases q
          · exact q
      · refine ⟨?_, ?_⟩
        · show ob.mem = true ↔ ∃ b off, (if r = r then Z.tops r else _) = _
          rw [if_pos rfl]; exact hmem
        · show RepT Z.m ob.s ob.o (if r = r then updH (Z.hs r) b off v else _) (if r = r then Z.tops r else _) ob.x
          rw [if_pos rfl, if_pos rfl]; exact f3
      · intro z u hun hz
        refine rel_wr (Z := Z) (Z' := updSup Z r [] Z.m (updH (Z.hs r) b off v) (Z.tops r) none (updH (Z.hs r) b off v)) (r := r) (b := hasIx p && !ob.mem) (bad := fun _ => False) (o := ob) (o' := { ob with pend := none }) (Le.refl _) ?_ ?_ ?_ ?_ ?_ hob ?_ rfl (by simp [updSup]) ?_ (by simp) ?_ ?_ hz
        · intro x _ hxr; rw [hwr]; simp [hxr]
        · intro x _ hxr; simp [updSup, hxr]
        · intro x _ hxr; simp [updSup, hxr]
        · intro x _ hxr; simp [updSup, hxr]
        · intro x _ hxr; simp [updSup, hxr]
        · rw [hwr]; simp
        · intro hb
          simp only [Bool.and_eq_true, Bool.not_eq_true'] at hb
          exact not_mem_flt Rl hob hb.2
        · intro x hx; exact hx.elim
        · exact hun (r, .wr (hasIx p && !ob.mem)) (by simp)
      · refine F.mod M ?_ (Le.refl _) rfl ?_ ?_ (upd_pd fun b off v z h1 _ => by cases h1)
        · intro b' o' e
          obtain ⟨q1, q2⟩ := hDr b' o' e
          subst q1 q2
          exact F.hs r _ _ f2
        · intro x b' o' e
          simp only [updSup] at e
          split at e
          · unfold updH at e
            split at e
            · rename_i q; obtain ⟨q1, q2⟩ := q; subst q1 q2; exact F.hs r _ _ f2
            · exact F.hs r b' o' e
          · simp only [List.not_mem_nil, if_false] at e
            exact F.hs x b' o' e
        · exact F.mf
  · -- a part of what stands there
    rename_i r' p' lo hi
    obtain ⟨hc0, h1⟩ := cond_some h
    simp only [Bool.and_eq_true] at hc0
    obtain ⟨⟨⟨hr, hp⟩, ho⟩, hm⟩ := hc0
    have hr := Nat.eq_of_beq_eq_true hr
    subst hr
    have hp : ob.pend = none := by
      revert hp; cases ob.pend with
      | none => intro _; rfl
      | some _ => intro q; cases q
    obtain ⟨ep, h2⟩ := pathEqK_eq h1
    subst ep
    clear h h1
    have hat : atPlace st r p (fun s x0 x => (match (motive := (s : S) → den s → Option R) s, x with
          | .sl e s, xs => (match setMask ob.o p (maskAt ob.o p) with
            | some o2 => setK ob.s ob.x p (.sl e s) (sub xs lo hi) fun x' =>
              k { av := .one .dead, upd := [(r, some { ob with x := x', o := o2 })], kill := [(r, .wp (hasIx p && !ob.mem) p ob.o)] }
            | none => none)
          | _, _ => none)) = some y := by
      unfold atPlace
      rw [hob]
      simp only [hp, ho] at h2 ⊢
      exact h2
    obtain ⟨ob2, s2, x2, t2, c2, h3, A⟩ := atPlace_eq Rl hat
    have eob := A.isOb
    rw [hob] at eob; injection eob with eob; subst eob
    split at h3
    · rename_i et s1 xs
      split at h3
      · rename_i o2 hset
        have er := A.res
        rw [← A.rse, hres] at er
        simp only [Option.some.injEq, Prod.mk.injEq] at er
        obtain ⟨q1, q2⟩ := er
        subst q1 q2
        obtain ⟨ad, cap, ec, hcap, h4, h5, h6, h7⟩ := osub_at A hv
        obtain ⟨hs0, hc, sp, rt, back, stay, asd⟩ := A.rept
        obtain ⟨mo, hmo⟩ : ∃ mo, maskAt ob.o p = .own mo := by
          revert hm; cases maskAt ob.o p with
          | own mo => intro _; exact ⟨mo, rfl⟩
          | imm => intro q; cases q
          | pr _ _ => intro q; cases q
        obtain ⟨c1, h0, sp0, rep0⟩ := id rt
        have ec1 : c1 = c2 := by
          refine cellsAt_uniq (h := Z.hs r) (t := .mem b off) (n := (S.sl et s1).size) ⟨Rep_len _ _ _ _ _ _ rep0, fun j v e => sp.left _ _ _ (sp0.left _ _ _ ?_)⟩ A.cells
          exact blk_v e
        subst ec1
        rw [ec, hmo] at rep0
        obtain ⟨hR', hle, rep'⟩ := own_sub h4 h5 h6 hcap rep0
        have hone : v.cells = ([v] : List Value).toArray := by rw [h7]; rfl
        rw [← h7] at rep'
        have hset' : setMask ob.o p (.own mo) = some o2 := by rw [← hmo]; exact hset
        obtain ⟨x', hk, g1, g2, g3, g4⟩ := store_core (d := d) hd Rl F A sp sp0 (by rw [ec]; rfl) back asd (hm := Hp.e) (h1 := hR') (cs := [v]) (cons := []) (mo := .own mo) (xn := sub xs lo hi) (by simp)
          (by have : Un Z.m Hp.e = Z.m := funext fun _ => funext fun _ => by simp [Un, Hp.e]
              rw [this]; exact rep') hset' (fun b' o' u e => .inr (hle _ _ _ e)) (by intro b' o' u e; cases e) (fun b' o' => .inl rfl) h3
        exact ⟨_, hk, [v], hone, g1, g2, g3, g4⟩
      · cases h3
    · cases h3
  · -- a value
    rename_i hx1 hx2
    split at h
    · rename_i hp ho
      have hcase : ∃ s1 q x1 cons, (bif memNat r cons then none else
        let mo := bif hasIx p then maskAt ob.o p else q
        bif mo.le q || (match x with | .z _ => true | _ => false) then
          (match setMask ob.o p mo with
          | some o2 => setK ob.s ob.x p s1 x1 fun x' =>
              k { av := .one .dead, upd := goneU cons ++ [(r, some { ob with x := x', o := o2 })], kill := goneK cons ++ [(r, .wp (hasIx p && !ob.mem) p ob.o)] }
          | none => none)
        else none) = some y ∧ ∃ cs, v = mkVal s1 cs ∧ ∀ mo, (mo.le q || (match x with | .z _ => true | _ => false)) = true → ∃ hm h1, (Le hm (uH Z.hs cons) ∧ Le h1 (uH Z.hs cons) ∧ Dj hm h1) ∧ Rep (Un Z.m hm) s1 mo h1 cs x1 := by
        by_cases hz : ∃ sz, x = .z sz
        · obtain ⟨sz, e⟩ := hz
          subst e
          refine ⟨sz, zmask g sz, sz.zero, [], h, sz.zcells, hv, fun mo _ => ⟨Hp.e, Hp.e, ⟨Le.e _, Le.e _, Dj.e _⟩, Rep_zero _ _ _⟩⟩
        · obtain ⟨s1, q, x1, cons, h1, hcons, cs, hvc, H0, hle0, rep⟩ := partOf_eq Rl h hv
          refine ⟨s1, q, x1, cons, h1, cs, hvc, fun mo hmo => ?_⟩
          have : mo.le q = true := by
            rcases Bool.or_eq_true_iff.1 hmo with z | z
            · exact z
            · exfalso; revert z; cases x <;> first | exact fun _ => hz ⟨_, rfl⟩ | (intro z; cases z; done)
          obtain ⟨hm, h1', sp, rw'⟩ := Rep_weaken s1 _ q Z.m H0 cs x1 this ((uH_dj fun r' _ => (Rl.mdj r').symm).symm.le (Le.refl _) hle0) rep
          exact ⟨hm, h1', ⟨sp.left.trans hle0, sp.right.trans hle0, sp.dj⟩, rw'⟩
      obtain ⟨s1, q, x1, cons, h1, cs, hvc, hrep⟩ := hcase
      obtain ⟨hmn, h2⟩ := cond_some' h1
      have hr : r ∉ cons := memNat_false.1 hmn
      obtain ⟨hmo, h3⟩ := cond_some h2
      clear h h1 h2
      split at h3
      · rename_i o2 hset
        obtain ⟨x0, t0, c0, A⟩ := at_of_set Rl hob hp ho h3
        have er := A.res
        rw [← A.rse, hres] at er
        simp only [Option.some.injEq, Prod.mk.injEq] at er
        obtain ⟨q1, q2⟩ := er
        subst q1 q2
        obtain ⟨hs0, hc, sp, rt, back, stay, asd⟩ := A.rept
        obtain ⟨c1, h0, sp0, rep0⟩ := id rt
        have hl1 := Rep_len _ _ _ _ _ _ rep0
        obtain ⟨hm, h1, ⟨spl, spr, spd⟩, rv⟩ := hrep _ hmo
        have hrs := rv
        obtain ⟨x', hk, g1, g2, g3, g4⟩ := store_core (d := d) hd Rl F A sp sp0 hl1 back asd (hm := hm) (h1 := h1) (cs := cs) (cons := cons) hr rv hset (fun b' o' u e => .inl (spr _ _ _ e)) (fun b' o' u e => spl _ _ _ e) spd h3
        exact ⟨_, hk, cs, by rw [hvc]; exact mkVal_cells rv, g1, g2, g3, g4⟩
      · cases h3
    · cases h
end
end Go.AE
