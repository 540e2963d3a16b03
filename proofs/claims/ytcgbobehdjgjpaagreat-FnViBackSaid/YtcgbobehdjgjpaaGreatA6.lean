/- The abstract evaluator of the program's own code, and its soundness: part 6. -/
import Derived.Test.YtcgbobehdjgjpaaGreatA5
import Derived.WalkKit
import Derived.Lib.Walk
import Derived.Lib.SliceRun
import Derived.Lib.JoinLaws
import Derived.Lib.AppendZeros
import Derived.Lib.Overlaps
import Derived.Lib.AppendZerosOnto
import Derived.Laws.Externs
import Derived.Laws.IdiomCopy
import Derived.Laws.NewBlocks
import Derived.Shelf.RegionOpenPlain
namespace Go.AE
open Go.Lib
section
variable {P : Program}
theorem run_overlaps_nf (w : World) (tS tR e : TypeId) (ht : P.underlying tS = some (.slice e)) (size : Nat) (hz : ∀ w, (Go.sizeOf e).run P w = .ok size w)
    (ab ao bb bo : Nat) (la ca lb cb : Nat) (hd : ab = bb → ao + la * size ≤ bo ∨ bo + lb * size ≤ ao) (tA tB : TypeId) (kA kB : Nat)
    (hsa : w.shape? ab = some (tA, kA)) (hsb : w.shape? bb = some (tB, kB)) (hkB : kB ≠ 0) (hkA : kA ≠ 0) (hn : NF w bb) :
    (Extern.SlicesOverlaps.overlaps #[tS, tS] #[tR] #[.slice (some ⟨ab, ao, none⟩) la ca, .slice (some ⟨bb, bo, none⟩) lb cb]).run P w = .ok (.bool false) w := by
  change Sem.run P (α := Value) (do
    let some t := (#[tS, tS] : Array TypeId)[0]? | stuck "slices.overlaps: no parameter types"
    let .slice elem ← underlying t | stuck "slices.overlaps: slice type expected"
    let size ← sizeOf elem
    match (some ⟨ab, ao, none⟩ : Option Addr), (some ⟨bb, bo, none⟩ : Option Addr) with
    | some a, some b =>
      if la = 0 ∨ lb = 0 ∨ size = 0 then pure (Value.bool false)
      else if a.block != b.block && (← frozen a) && (← frozen b) then unsupported .addressObserved
      else do
        if a.block != b.block then do
          noView a; noView b
          if ← mayBeOne a b then return Value.bool ((← choose (.extern "sameAddr.stringBytes" 2)) == 1)
        pure (Value.bool (a.block == b.block && a.off < b.off + lb * size && b.off < a.off + la * size))
    | _, _ => pure (Value.bool false)) w = _
  by_cases h0 : la = 0 ∨ lb = 0 ∨ size = 0
  · simp [run_underlying ht, hz, h0]
  · by_cases he : ab = bb
    · subst he
      have hd := hd rfl
      have hx : ¬ (ao < bo + lb * size ∧ bo < ao + la * size) := by omega
      simp [run_underlying ht, hz, h0, frozen, Sem.run]
      omega
    · have hnb : (ab != bb) = true := by simpa using he
      have hnb' : (ab == bb) = false := by simpa using he
      cases kB with
      | zero => exact absurd rfl hkB
      | succ kB =>
        cases kA with
        | zero => exact absurd rfl hkA
        | succ kA =>
          have h1 := hn bo
          have h2 := hn (kB + 1)
          simp [run_underlying ht, hz, h0, hnb, hnb', frozen, noView, viewAt, mayBeOne, stringish, shape, Sem.run, hsa, hsb, h1, h2]
theorem wp_copy_runI (w : World) {o : Oper} {a : Act} {K : Act → World → Prop} {Q : Exit → Act → World → Prop} (d s : Operand) (t t' : TypeId)
    (ho : o.op = .call { callee := .builtin .copy, args := #[d, s], argTypes := #[t, t'] }) (v u : Value) (hd : a.eval d = v) (hs : a.eval s = u) {v' : Value} {w' : World}
    (hr : (Builtin.copy_ #[t, t'] o.type #[v, u]).run P w = .ok v' w') (h : K (a.put o.dst v') w') : o.wp P a w K Q := by
  unfold Oper.wp execOp
  simp only [ho, resolve, invoke, builtin, Sem.run_bind, Sem.run_pure, Result.andThen_ok, List.map_toArray, List.map_cons, List.map_nil, hd, hs, hr]
  exact h
theorem wpList_copy_runI (w : World) {ops : Array Oper} {rest : List Oper} {o : Oper} {a : Act} {Q : Exit → Act → World → Prop} (hgd : o.guard = none) (d s : Operand) (t t' : TypeId)
    (ho : o.op = .call { callee := .builtin .copy, args := #[d, s], argTypes := #[t, t'] }) (v u : Value) (hd : a.eval d = v) (hs : a.eval s = u) {v' : Value} {w' : World}
    (hr : (Builtin.copy_ #[t, t'] o.type #[v, u]).run P w = .ok v' w') (h : wpList P ops Q rest (a.put o.dst v') w') : wpList P ops Q (o :: rest) a w :=
  wpList_plain hgd fun _ hK => wp_copy_runI w d s t t' ho v u hd hs hr (hK _ _ h)
theorem step_copy_runI {ops : Array Oper} {o : Oper} {a : Act} {w : World} {K : Act → World → Prop} {Q : Exit → Act → World → Prop} {E : Prop}
    (hg : o.guard = none) (d x : Operand) (dT sT : TypeId) (hop : o.op = Op.call { callee := Callee.builtin Builtin.copy, args := #[d, x], argTypes := #[dT, sT] })
    (v u : Value) (hd : a.eval d = v) (hx : a.eval x = u) {v' : Value} {w' : World} (hr : (Builtin.copy_ #[dT, sT] o.type #[v, u]).run P w = .ok v' w') (hK : K (a.put o.dst v') w') :
    if Region.wanted o (yielded ops a.tmps) = true then Oper.wp P o a w K Q else E := by
  have hw : Region.wanted o (yielded ops a.tmps) = true := by simp [Region.wanted, hg]
  rw [if_pos hw]
  unfold Oper.wp
  simp [execOp, hop, resolve, invoke, builtin, hd, hx, hr, Result.andThen]
  exact hK
theorem isSome_setCells (b : Nat) (vs : List Value) (o : Nat) (w : World) (h : ∀ j, j < vs.length → (w.cell? ⟨b, o + j, none⟩).isSome = true) (k : Nat) (hk : (w.cell? ⟨b, k, none⟩).isSome = true) : ((w.setCells b o vs).cell? ⟨b, k, none⟩).isSome = true := by
  by_cases hin : o ≤ k ∧ k < o + vs.length
  · have := World.cell?_setCells_in b vs o w h (k - o) (by omega)
    rw [show o + (k - o) = k by omega] at this
    rw [this]; rfl
  · rw [World.cell?_setCells_out b vs o w ⟨b, k, none⟩ (fun _ _ => by show k < o ∨ o + vs.length ≤ k; omega)]
    exact hk
theorem wsc (b : Nat) : ∀ (vs : List Value) (o : Nat) (w : World), w.setCells b o vs = setCells w b o vs
  | [], _, _ => rfl
  | v :: vs, o, w => by rw [World.setCells, setCells]; exact wsc b vs (o + 1) _
theorem set_row {W : World} {b off k : Nat} {L vs : List Value} (h : ∀ (j : Nat) v, L[j]? = some v → W.cell? ⟨b, off + j, none⟩ = some v) (hk : k + vs.length ≤ L.length) :
    ∀ (j : Nat) v, (L.take k ++ vs ++ L.drop (k + vs.length))[j]? = some v → (W.setCells b (off + k) vs).cell? ⟨b, off + j, none⟩ = some v := by
  intro j v e
  have hex : ∀ j, j < vs.length → (W.cell? ⟨b, off + k + j, none⟩).isSome = true := fun j hj => by
    have := h (k + j) _ (List.getElem?_eq_getElem (by omega))
    rw [← Nat.add_assoc] at this
    rw [this]; rfl
  have hl : (L.take k).length = k := by rw [List.length_take]; omega
  rcases Nat.lt_or_ge j k with q | q
  · rw [List.append_assoc, List.getElem?_append_left (by omega), List.getElem?_take, if_pos q] at e
    rw [World.cell?_setCells_out b _ _ _ _ (fun _ _ => by show off + j < off + k ∨ off + k + vs.length ≤ off + j; omega)]
    exact h j v e
  · rcases Nat.lt_or_ge j (k + vs.length) with q2 | q2
    · rw [List.append_assoc, List.getElem?_append_right (by omega), List.getElem?_append_left (by omega), hl] at e
      have := setCells_cell vs W b (off + k) hex (j - k) v e
      rw [wsc]
      rwa [show off + k + (j - k) = off + j by omega] at this
    · rw [List.getElem?_append_right (by rw [List.length_append]; omega), List.getElem?_drop, List.length_append, hl] at e
      rw [World.cell?_setCells_out b _ _ _ _ (fun _ _ => by show off + j < off + k ∨ off + k + vs.length ≤ off + j; omega)]
      refine h j v ?_
      rw [← e]; congr 1; omega
structure InsRuns (P : Program) (f : FuncId) (tS e : TypeId) : Prop where
  zero : ∀ (ad va : Option Addr) (n c i vc : Nat) (w : World), i ≤ n → n ≤ c → (ad = none → n = 0 ∧ c = 0) →
    Calls P f #[.slice ad n c, .int .i64 i, .slice va 0 vc] w fun en w' => en = .returned (.slice ad n c) ∧ w' = w
  fin : ∀ (ad : Option Addr) (n c vb voff m vc : Nat) (w w1 : World) (r : Value), 0 < m → (Builtin.append_ #[tS, tS] tS #[.slice ad n c, .slice (some ⟨vb, voff, none⟩) m vc]).run P w = .ok r w1 →
    Calls P f #[.slice ad n c, .int .i64 n, .slice (some ⟨vb, voff, none⟩) m vc] w fun en w' => en = .returned r ∧ w' = w1
  shift : ∀ (b off n c i vb voff m vc : Nat) (cs vs : List Value) (w : World), i < n → 0 < m → n + m ≤ c → n + m ≤ 68719476736 → (vb = b → voff + m ≤ off ∨ off + c ≤ voff) → cs.length = n → vs.length = m →
    (∀ j v, cs[j]? = some v → w.cell? ⟨b, off + j, none⟩ = some v) → (∀ j, j < n + m → (w.cell? ⟨b, off + j, none⟩).isSome = true) → NF w b →
    (∀ j v, vs[j]? = some v → w.cell? ⟨vb, voff + j, none⟩ = some v) → (∀ v ∈ cs, v.oneCell' = true) → (∀ v ∈ vs, v.oneCell' = true) →
    ∀ (tA tB : TypeId) (kA kB : Nat), w.shape? vb = some (tA, kA) → w.shape? b = some (tB, kB) → kA ≠ 0 → kB ≠ 0 →
    Calls P f #[.slice (some ⟨b, off, none⟩) n c, .int .i64 i, .slice (some ⟨vb, voff, none⟩) m vc] w fun en w' =>
      en = .returned (.slice (some ⟨b, off, none⟩) (n + m) c) ∧ w' = (w.drew.setCells b (off + (i + m)) (cs.drop i)).setCells b (off + i) vs
  grow : ∀ (b off n c i vb voff m vc : Nat) (cs vs : List Value) (w : World), i < n → 0 < m → n ≤ c → c < n + m → (n + m) * 24 ≤ 140737488355328 → cs.length = n → vs.length = m →
    (∀ j v, cs[j]? = some v → w.cell? ⟨b, off + j, none⟩ = some v) → (∀ j v, vs[j]? = some v → w.cell? ⟨vb, voff + j, none⟩ = some v) → (∀ v ∈ cs, v.oneCell' = true) → (∀ v ∈ vs, v.oneCell' = true) →
    Calls P f #[.slice (some ⟨b, off, none⟩) n c, .int .i64 i, .slice (some ⟨vb, voff, none⟩) m vc] w fun en w' =>
      en = .returned (.slice (some ⟨w.heap.size, 0, none⟩) (n + m) (grownCap w (n + m) c e)) ∧
      w' = (((w.alloc (.cells ((cs.take i).toArray ++ Builtin.zeroCells (Value.slice none 0 0).cells (n + m - i) ++ Builtin.zeroCells (Value.slice none 0 0).cells (grownCap w (n + m) c e - (n + m))) e)).drew.setCells w.heap.size i vs).drew).setCells w.heap.size (i + m) (cs.drop i)
def pIns {A : Type} (xs : List A) (i : Int) (ys : List A) : Option (List A) :=
  ifB (pLe 0 i) (ifB (pLe i (pLen xs)) (ifB (pFit xs ys) (some (pApp (pApp (sub xs 0 i) ys) (sub xs i (pLen xs)))) none) none) none
theorem pIns_eq {A : Type} {xs : List A} {i : Int} {ys r : List A} (h : pIns xs i ys = some r) : ∃ k : Nat, i = k ∧ k ≤ xs.length ∧ xs.length + ys.length ≤ 68719476736 ∧ r = xs.take k ++ ys ++ xs.drop k := by
  unfold pIns at h
  rcases ifB_eq h with ⟨e1, h⟩ | ⟨_, h⟩
  · rcases ifB_eq h with ⟨e2, h⟩ | ⟨_, h⟩
    · rcases ifB_eq h with ⟨e3, h⟩ | ⟨_, h⟩
      · injection h with h
        have e1 : (0 : Int) ≤ i := of_decide_eq_true e1
        have e2 : i ≤ (xs.length : Int) := of_decide_eq_true e2
        have e3 : xs.length + ys.length ≤ 68719476736 := of_decide_eq_true e3
        refine ⟨i.toNat, by omega, by omega, e3, ?_⟩
        rw [← h]
        show (xs.take i.toNat).drop 0 ++ ys ++ (xs.take ((xs.length : Int)).toNat).drop i.toNat = _
        rw [Int.toNat_natCast, List.take_length, List.drop_zero]
      · cases h
    · cases h
  · cases h
theorem blk_held {w : World} {b off : Nat} {L : List Value} (h : ∀ (j : Nat) v, L[j]? = some v → w.cell? ⟨b, off + j, none⟩ = some v) (hn : NF w b) : Held w (blk b off L) := fun b' o v e => by
  obtain ⟨e1, e2, e3⟩ := blk_some e
  subst e1
  have := h _ _ e3
  rw [show off + (o - off) = o by omega] at this
  exact ⟨this, hn⟩
theorem shape_of_cell {w : World} {b o : Nat} {v : Value} (h : w.cell? ⟨b, o, none⟩ = some v) : ∃ t k, w.shape? b = some (t, k) ∧ k ≠ 0 := by
  unfold World.cell? at h
  unfold World.shape?
  split at h
  · rename_i c elem fr he
    simp only [Option.isSome_none, Bool.false_eq_true, if_false] at h
    refine ⟨elem, c.size, ?_, ?_⟩
    · simp only at he; rw [he]
    · intro e
      rw [Array.getElem?_eq_none (by omega)] at h; cases h
  · cases h
def insCon {e : TypeId} {s : S} (q : O) (F : List (den s) → Int → List (den s) → Option (List (den s))) : Con :=
  { modes := [.tk, .v, .tk], ptrs := [false], fn := fn3 (.sl e s) (.own q) (.int .i64) .imm (.sl e s) (.own q) F (fun r => [⟨.sl e s, .own q, r⟩]) (fun _ => []) }
theorem ins_post {m H HR : Hp} {w w' : World} {e : TypeId} {s : S} {fl : List Value} {v0 v1 v2 v : Value} {r : List (den s)} {q : O} {F : List (den s) → Int → List (den s) → Option (List (den s))} (hfl : fl = [v0, v1, v2])
    (hmod : Mod H w w') (hheld : Held w' HR) (hdom : ∀ b o, HR b o ≠ none → H b o ≠ none ∨ w.heap.size ≤ b) (rep : Rep m (.sl e s) (.own q) HR [v] r)
    (himm : ∀ b o v, m b o = some v → w.cell? ⟨b, o, none⟩ = some v) (hD : Dj m H) : CallPost m H w (insCon (e := e) q F) fl [⟨.sl e s, .own q, r⟩] [] (.returned v) w' := by
  subst hfl
  refine ⟨[v], m, Hp.e, HR, rfl, hmod, Le.refl _, ?_, (fun b o u e => by cases e), hheld, Dj.e _, ?_, (Dj.e _).symm, fun b o h => .inl h, fun b o h => absurd rfl h, hdom, rfl, HR, Hp.e, Sp.e_right _, ⟨[v], rfl, rep⟩, rfl⟩
  · intro b o u e
    have h1 := himm _ _ _ e
    rw [hmod.cell b o (cell_lt h1) (by
      rcases hD b o with z | z
      · rw [e] at z; cases z
      · exact z)]
    exact h1
  · intro b o
    cases e : HR b o with
    | none => exact .inr rfl
    | some u =>
      left
      cases e2 : m b o with
      | none => rfl
      | some u2 =>
        exfalso
        have h1 := cell_lt (himm _ _ _ e2)
        rcases hdom b o (by rw [e]; simp) with z | z
        · rcases hD b o with q | q
          · rw [e2] at q; cases q
          · exact z q
        · omega
theorem mkVal_sl {e : TypeId} {s : S} {v : Value} : mkVal (.sl e s) [v] = v := rfl
theorem drop_app {A : Type} {a b : List A} {n k : Nat} (h : a.length = n) : (a ++ b).drop (n + k) = b.drop k := by
  subst h
  rw [← List.drop_drop, List.drop_left]
theorem drop_app0 {A : Type} {a b : List A} {n : Nat} (h : a.length = n) : (a ++ b).drop n = b := by
  subst h
  exact List.drop_left
theorem src_imm {P : Program} {w : World} {sz n vb voff vc : Nat} {rv : List Value} (hl : rv.length = n * sz) (hc : ∀ (j : Nat) v, rv[j]? = some v → w.cell? ⟨vb, voff + j, none⟩ = some v) : SrcRuns P w sz (.slice (some ⟨vb, voff, none⟩) n vc) n rv :=
  ⟨fun w' => by simp [Builtin.lenOf], fun w' hw => run_firstCells _ _ _ _ _ _ hl (fun _ => ⟨vb, voff, rfl, fun j v e => hw _ _ _ (hc j v e)⟩) (fun h => by cases h)⟩
theorem Mod.weak {h k : Hp} {w w' : World} (M : Mod h w w') (hk : ∀ b o, h b o ≠ none → k b o ≠ none) : Mod k w w' := by
  have hh : ∀ b o, k b o = none → h b o = none := fun b o e => by
    cases q : h b o with
    | none => rfl
    | some v => exact absurd e (hk b o (by rw [q]; simp))
  exact ⟨M.os, M.tape, M.output, M.size, fun b hb hz => M.block b hb fun o => hh b o (hz o), fun b o hb hz => M.cell b o hb (hh b o hz), M.frz⟩
theorem ins_conOk {P : Program} {f : FuncId} {tS e : TypeId} {s : S} {q : O} (hs1 : s.size = 1) (ht : typeOk P tS (.sl e s) = true) (J : InsRuns P f tS e) {F : List (den s) → Int → List (den s) → Option (List (den s))}
    (hF : ∀ xs i ys, F xs i ys = pIns xs i ys) : ConOk P f [.one, .one, .one] (insCon (e := e) (s := s) q F) := by
  intro w m H vs fl ds hp ha himm hH hD R k y h
  obtain ⟨xs, i, ys, rfl, h2⟩ := fn3_inv h
  clear h
  obtain ⟨r, er, hk⟩ := bindO_some h2
  rw [hF] at er
  obtain ⟨i, rfl, hi, hfit, rfl⟩ := pIns_eq er
  refine ⟨_, _, hk, ?_⟩
  clear hk h2 er
  match vs, hp with
  | v0 :: vs, ⟨fl1, e0, hp⟩ =>
  match vs, hp with
  | v1 :: vs, ⟨fl2, e1, hp⟩ =>
  match vs, hp with
  | v2 :: vs, ⟨fl3, e3, hp⟩ =>
  have e4 : fl3 = vs := hp
  subst e4 e3 e1 e0
  obtain ⟨h0, h12, s0, ⟨c0, ev0, rep0⟩, h1, hb, s1, ⟨z1, c1, ev1, rep1⟩, hV, hd, s2', ⟨c2, ev2, rep2⟩, hend⟩ := ha
  cases fl3 with
  | cons _ _ => exact hend.elim
  | nil =>
  have hend : hd = Hp.e := hend
  have rep0 : Rep m (.sl e s) (.own q) h0 c0 xs := rep0
  have rep2 : Rep m (.sl e s) (.own q) hV c2 ys := rep2
  subst z1 hend
  have q1 := s2'.eq_left
  subst q1
  have q1 := s1.eq_right
  subst q1
  clear s1 s2'
  have ec1 : c1 = [.int .i64 (i : Int)] := rep1.2
  subst ec1
  have ev1 : v1 = .int .i64 (i : Int) := ev1
  subst ev1
  have hH0 : Held w h0 := fun b o u e => hH b o u (s0.left _ _ _ e)
  have hHV : Held w h12 := fun b o u e => hH b o u (s0.right _ _ _ e)
  have hlen : ∀ {h : Hp} {c : List Value} {xs : List (den s)}, RepL (Rep m s q) h c xs → c.length = xs.length := fun rl => by
    have := RepL_len (Rep_len m s q) rl
    simpa [hs1] using this
  have hone : ∀ {h : Hp} {c : List Value} {xs : List (den s)}, RepL (Rep m s q) h c xs → ∀ v ∈ c, v.oneCell' = true := fun rl => RepL_one (Rep_one m s q) rl
  have dom0 : ∀ b o, h0 b o ≠ none → H b o ≠ none := fun b o hne => by
    cases e : h0 b o with
    | none => exact absurd e hne
    | some u => rw [s0.left _ _ _ e]; simp
  have domV : ∀ b o, h12 b o ≠ none → H b o ≠ none := fun b o hne => by
    cases e : h12 b o with
    | none => exact absurd e hne
    | some u => rw [s0.right _ _ _ e]; simp
  -- what is put in: nothing, or a row with its cells
  have hv2 : (ys = [] ∧ ∃ a2 vc, v2 = .slice a2 0 vc) ∨ (0 < ys.length ∧ ∃ vb voff vc rv rv2 hv, v2 = .slice (some ⟨vb, voff, none⟩) ys.length vc ∧ Sp h12 (blk vb voff (rv ++ rv2)) hv ∧ RepL (Rep m s q) hv rv ys) := by
    rcases rep2 with ⟨ex, ec, eh⟩ | ⟨vb, voff, vc, rv, rv2, hv, ec, hcap, hl, sp, rl⟩
    · subst ex ec
      exact .inl ⟨rfl, none, 0, ev2⟩
    · subst ec
      rcases Nat.eq_zero_or_pos ys.length with z | z
      · refine .inl ⟨List.eq_nil_of_length_eq_zero z, some ⟨vb, voff, none⟩, vc, ?_⟩
        rw [← z]; exact ev2
      · exact .inr ⟨z, vb, voff, vc, rv, rv2, hv, ev2, sp, rl⟩
  clear ev2
  rcases hv2 with ⟨hy, a2, vc, ev2⟩ | ⟨hy, vb, voff, vc, rv, rv2, hv, ev2, spV, rlv⟩
  · -- nothing to put in
    subst hy ev2
    have er : xs.take i ++ [] ++ xs.drop i = xs := by rw [List.append_nil, List.take_append_drop]
    rw [er]
    rcases id rep0 with ⟨ex, ec, eh⟩ | ⟨b, off, cap, r1, r2, h2, ec, hcap, hl, sp, rl⟩
    · subst ex ec
      have ev0 : v0 = .slice none 0 0 := ev0
      subst ev0
      refine (J.zero none a2 0 0 i vc w hi (Nat.le_refl _) (fun _ => ⟨rfl, rfl⟩)).mono fun en w' hh => ?_
      obtain ⟨q1, q2⟩ := hh
      subst q1 q2
      exact ins_post rfl (Mod.refl _ _) hH0 (fun b o h => .inl (dom0 b o h)) rep0 himm hD
    · subst ec
      have ev0 : v0 = .slice (some ⟨b, off, none⟩) xs.length cap := ev0
      subst ev0
      refine (J.zero (some ⟨b, off, none⟩) a2 xs.length cap i vc w hi hcap (fun h => by cases h)).mono fun en w' hh => ?_
      obtain ⟨q1, q2⟩ := hh
      subst q1 q2
      exact ins_post rfl (Mod.refl _ _) hH0 (fun b o h => .inl (dom0 b o h)) rep0 himm hD
  · subst ev2
    have hrv := hlen rlv
    have hvH : ∀ (j : Nat) v, rv[j]? = some v → h12 vb (voff + j) = some v := fun j v ej => spV.left _ _ _ (by
      have hj : j < rv.length := by
        rcases Nat.lt_or_ge j rv.length with q | q
        · exact q
        · rw [List.getElem?_eq_none q] at ej; cases ej
      rw [blk_at, List.getElem?_append_left hj]; exact ej)
    have hvcell : ∀ (j : Nat) v, rv[j]? = some v → w.cell? ⟨vb, voff + j, none⟩ = some v := fun j v ej => (hHV _ _ _ (hvH j v ej)).1
    have dv0 : Dj h0 hv := s0.dj.le (Le.refl _) spV.right
    rcases Nat.lt_or_ge i xs.length with hin | hin
    · -- in the middle
      rcases id rep0 with ⟨ex, ec, eh⟩ | ⟨b, off, cap, r1, r2, h2, ec, hcap, hl, sp, rl⟩
      · subst ex; simp at hin
      · subst ec
        have ev0 : v0 = .slice (some ⟨b, off, none⟩) xs.length cap := ev0
        subst ev0
        have hr1 := hlen rl
        have hl : (r1 ++ r2).length = cap := by rw [hl]; simp [hs1]
        have hl2 : r2.length = cap - xs.length := by rw [List.length_append] at hl; omega
        have hrow : ∀ (j : Nat) v, (r1 ++ r2)[j]? = some v → w.cell? ⟨b, off + j, none⟩ = some v := fun j v ej => (hH0 b (off + j) v (sp.left _ _ _ (by rw [blk_at]; exact ej))).1
        have hnf : NF w b := by
          have h3 : 0 < (r1 ++ r2).length := by omega
          exact (hH0 b (off + 0) _ (sp.left _ _ _ (by rw [blk_at]; exact List.getElem?_eq_getElem h3))).2
        have hcs : ∀ (j : Nat) v, r1[j]? = some v → w.cell? ⟨b, off + j, none⟩ = some v := fun j v ej => hrow j v (by
          have hj : j < r1.length := by
            rcases Nat.lt_or_ge j r1.length with q | q
            · exact q
            · rw [List.getElem?_eq_none q] at ej; cases ej
          rw [List.getElem?_append_left hj]; exact ej)
        -- the elements' own memory
        have d2v : Dj h2 hv := dv0.le sp.right (Le.refl _)
        have hK : Held w (Un h2 hv) := fun b o u e => by
          rcases (Un.sp d2v).some e with z | z
          · exact hH0 _ _ _ (sp.right _ _ _ z)
          · exact hHV _ _ _ (spV.right _ _ _ z)
        have hKd : ∀ b o, Un h2 hv b o ≠ none → H b o ≠ none := fun b o hne => by
          cases e : Un h2 hv b o with
          | none => exact absurd e hne
          | some u =>
            rcases (Un.sp d2v).some e with z | z
            · exact dom0 b o (by rw [sp.right _ _ _ z]; simp)
            · exact domV b o (by rw [spV.right _ _ _ z]; simp)
        have hKb : Dj (blk b off (r1 ++ r2)) (Un h2 hv) := fun b' o' => by
          cases e : blk b off (r1 ++ r2) b' o' with
          | none => exact .inl rfl
          | some u =>
            right
            have k1 : h2 b' o' = none := by
              rcases sp.dj b' o' with z | z
              · rw [e] at z; cases z
              · exact z
            have k2 : hv b' o' = none := by
              rcases dv0 b' o' with z | z
              · rw [sp.left _ _ _ e] at z; cases z
              · exact z
            simp [Un, k1, k2]
        have hrep : ∀ r2' : List Value, ∀ cap' : Nat, xs.length + ys.length ≤ cap' → (r1.take i ++ rv ++ r1.drop i ++ r2').length = cap' → ∀ b' off', Dj (blk b' off' (r1.take i ++ rv ++ r1.drop i ++ r2')) (Un h2 hv) →
            Rep m (.sl e s) (.own q) (Un (blk b' off' (r1.take i ++ rv ++ r1.drop i ++ r2')) (Un h2 hv)) [.slice (some ⟨b', off', none⟩) (xs.length + ys.length) cap'] (xs.take i ++ ys ++ xs.drop i) := by
          intro r2' cap' hc' hl' b' off' hdj
          have hsplit : RepL (Rep m s q) h2 r1 (xs.take i ++ xs.drop i) := by rw [List.take_append_drop]; exact rl
          obtain ⟨k1, k2, d1, d2, sk, ed, ra, rb⟩ := RepL_app hsplit
          have hd1 := hlen ra
          rw [List.length_take, Nat.min_eq_left hi] at hd1
          have t1 : r1.take i = d1 := by rw [ed, ← hd1, List.take_left']; rfl
          have t2 : r1.drop i = d2 := by rw [ed, ← hd1, List.drop_left']; rfl
          rw [t1, t2] at hl' hdj ⊢
          have hlr : (xs.take i ++ ys ++ xs.drop i).length = xs.length + ys.length := by simp only [List.length_append, List.length_take, List.length_drop]; omega
          have dk1 : Dj k1 hv := d2v.le sk.left (Le.refl _)
          have dk2 : Dj k2 hv := d2v.le sk.right (Le.refl _)
          have sA : Sp (Un k1 hv) k1 hv := Un.sp dk1
          have dj3 : Dj (Un k1 hv) k2 := fun x y => by
            rcases sk.dj x y with z | z
            · rcases dk2 x y with z2 | z2
              · exact .inr z2
              · left; simp [Un, z, z2]
            · exact .inr z
          have sB : Sp (Un h2 hv) (Un k1 hv) k2 := fun x y => by
            refine ⟨dj3 x y, ?_⟩
            show (h2 x y).or (hv x y) = ((k1 x y).or (hv x y)).or (k2 x y)
            rw [(sk x y).2]
            rcases dk2 x y with z | z
            · rw [z]; simp
            · rw [z]; simp
          refine .inr ⟨b', off', cap', d1 ++ rv ++ d2, r2', Un h2 hv, by rw [hlr], by rw [hlr]; exact hc', by rw [hl']; simp [hs1], Un.sp hdj, ?_⟩
          exact RepL_join sB (RepL_join sA ra rlv) rb
        have hnm : (r1.take i ++ rv ++ r1.drop i).length = xs.length + ys.length := by simp only [List.length_append, List.length_take, List.length_drop]; omega
        rcases Nat.lt_or_ge cap (xs.length + ys.length) with hg | hg
        · -- a new row
          refine (J.grow b off xs.length cap i vb voff ys.length vc r1 rv w hin hy hcap hg (by omega) hr1 hrv hcs hvcell (hone rl) (hone rlv)).mono fun en w' hh => ?_
          obtain ⟨q1, q2⟩ := hh
          have hG := grownCap_ge w (xs.length + ys.length) cap e
          generalize grownCap w (xs.length + ys.length) cap e = G at q1 q2 hG
          generalize hROW : ((r1.take i).toArray ++ Builtin.zeroCells (Value.slice none 0 0).cells (xs.length + ys.length - i) ++ Builtin.zeroCells (Value.slice none 0 0).cells (G - (xs.length + ys.length))) = ROW at q2
          have hRl : ROW.toList.length = G := by
            rw [Array.length_toList, ← hROW]
            simp [Builtin.zeroCells, Value.cells]
            omega
          have hRt : ROW.toList.take i = r1.take i := by
            rw [← hROW]
            have e9 : ∀ (x y z : Array Value), (x ++ y ++ z).toList = x.toList ++ (y.toList ++ z.toList) := fun x y z => by rw [Array.toList_append, Array.toList_append, List.append_assoc]
            rw [e9, List.take_append_of_le_length (by rw [List.toList_toArray, List.length_take]; omega), List.toList_toArray, List.take_take, Nat.min_self]
          have E0 : Ext w (w.alloc (.cells ROW e)) := Ext.alloc _ _
          have L0 : ∀ (j : Nat) v, ROW.toList[j]? = some v → ((w.alloc (.cells ROW e)).drew).cell? ⟨w.heap.size, 0 + j, none⟩ = some v := by
            intro j v ej
            have := (alloc_cells w ROW.toList e w.heap.size (0 + j) v (by rw [blk_at]; exact ej)).1
            exact this
          have hn0 : NF ((w.alloc (.cells ROW e)).drew) w.heap.size := by
            have h3 : 0 < ROW.toList.length := by omega
            exact (alloc_cells w ROW.toList e w.heap.size (0 + 0) _ (by rw [blk_at]; exact List.getElem?_eq_getElem h3)).2.1
          have L1 := set_row L0 (k := i) (vs := rv) (by omega)
          have L1' : ∀ (j : Nat) v, (ROW.toList.take i ++ rv ++ ROW.toList.drop (i + rv.length))[j]? = some v → (((w.alloc (.cells ROW e)).drew.setCells w.heap.size (0 + i) rv).drew).cell? ⟨w.heap.size, 0 + j, none⟩ = some v := L1
          have L2 := set_row L1' (k := i + ys.length) (vs := r1.drop i) (by simp only [List.length_append, List.length_take, List.length_drop]; omega)
          have eL : List.take (i + ys.length) (ROW.toList.take i ++ rv ++ ROW.toList.drop (i + rv.length)) ++ r1.drop i ++ List.drop (i + ys.length + (r1.drop i).length) (ROW.toList.take i ++ rv ++ ROW.toList.drop (i + rv.length)) =
              r1.take i ++ rv ++ r1.drop i ++ ROW.toList.drop (xs.length + ys.length) := by
            have z1 : (ROW.toList.take i ++ rv).length = i + ys.length := by simp only [List.length_append, List.length_take]; omega
            rw [List.take_append_of_le_length (by omega), List.take_of_length_le (by omega), drop_app z1, hRt, List.drop_drop]
            congr 2
            simp only [List.length_drop]; omega
          rw [eL] at L2
          rw [Nat.zero_add, Nat.zero_add] at L2
          rw [← q2] at L2
          have hn2 : NF w' w.heap.size := by
            rw [q2]
            intro o
            rw [World.frozen?_setCells]
            show (World.setCells _ _ _ _).frozen? _ = _
            rw [World.frozen?_setCells]
            exact hn0 o
          have hE : Ext w w' := by
            have M1 : Mod (fun b o => if b = w.heap.size then some undef else none) (w.alloc (.cells ROW e)).drew (((w.alloc (.cells ROW e)).drew.setCells w.heap.size i rv)) := by
              rw [wsc]; exact Mod.setCells _ _ _ _ fun j _ => by simp
            have M2 : Mod (fun b o => if b = w.heap.size then some undef else none) (((w.alloc (.cells ROW e)).drew.setCells w.heap.size i rv).drew) w' := by
              rw [q2, wsc w.heap.size (r1.drop i)]; exact Mod.setCells _ _ _ _ fun j _ => by simp
            have E1 : Ext w (w.alloc (.cells ROW e)).drew := E0.trans (Ext.drew _)
            refine ⟨?_, ?_, ?_, ?_, ?_⟩
            · exact M2.os.trans (M1.os.trans E1.os)
            · exact M2.tape.trans (M1.tape.trans E1.tape)
            · exact M2.output.trans (M1.output.trans E1.output)
            · exact Nat.le_trans E1.size (Nat.le_trans M1.size M2.size)
            · intro b' hb'
              have n1 : ∀ o : Nat, (if b' = w.heap.size then some undef else none : Option Value) = none := fun o => by rw [if_neg (by omega)]
              have l1 := Nat.lt_of_lt_of_le hb' E1.size
              have l2 := Nat.lt_of_lt_of_le l1 M1.size
              have g2 := M2.block b' l2 n1
              have g1 := M1.block b' l1 n1
              exact g2.trans (g1.trans (E1.block b' hb'))
          subst q1
          have hnew : ∀ b' o', blk w.heap.size 0 (r1.take i ++ rv ++ r1.drop i ++ ROW.toList.drop (xs.length + ys.length)) b' o' ≠ none → w.heap.size ≤ b' := fun b' o' hne => by
            cases e5 : blk w.heap.size 0 (r1.take i ++ rv ++ r1.drop i ++ ROW.toList.drop (xs.length + ys.length)) b' o' with
            | none => exact absurd e5 hne
            | some u => obtain ⟨e6, _, _⟩ := blk_some e5; omega
          have hdj : Dj (blk w.heap.size 0 (r1.take i ++ rv ++ r1.drop i ++ ROW.toList.drop (xs.length + ys.length))) (Un h2 hv) := fun b' o' => by
            cases e5 : Un h2 hv b' o' with
            | none => exact .inr rfl
            | some u =>
              left
              cases e6 : blk w.heap.size 0 (r1.take i ++ rv ++ r1.drop i ++ ROW.toList.drop (xs.length + ys.length)) b' o' with
              | none => rfl
              | some u2 =>
                have := hnew b' o' (by rw [e6]; simp)
                have := cell_lt (hK _ _ _ e5).1
                omega
          refine ins_post rfl (Mod.ext hE) (HR := Un (blk w.heap.size 0 (r1.take i ++ rv ++ r1.drop i ++ ROW.toList.drop (xs.length + ys.length))) (Un h2 hv)) ?_ ?_ (hrep _ G hG ?_ _ _ hdj) himm hD
          · intro b' o' u e5
            rcases (Un.sp hdj).some e5 with z | z
            · exact blk_held L2 hn2 _ _ _ z
            · exact hK.ext hE _ _ _ z
          · intro b' o' hne
            cases e5 : Un (blk w.heap.size 0 (r1.take i ++ rv ++ r1.drop i ++ ROW.toList.drop (xs.length + ys.length))) (Un h2 hv) b' o' with
            | none => exact absurd e5 hne
            | some u =>
              rcases (Un.sp hdj).some e5 with z | z
              · exact .inr (hnew b' o' (by rw [z]; simp))
              · exact .inl (hKd b' o' (by rw [z]; simp))
          · rw [List.length_append, hnm, List.length_drop]; omega
        · -- in place
          have hsp : ∀ j, j < xs.length + ys.length → (w.cell? ⟨b, off + j, none⟩).isSome = true := fun j hj => by
            rw [hrow j _ (List.getElem?_eq_getElem (by omega))]; rfl
          have hvd : vb = b → voff + ys.length ≤ off ∨ off + cap ≤ voff := by
            intro eb
            subst eb
            have key : ∀ j, j < ys.length → ¬ (off ≤ voff + j ∧ voff + j < off + cap) := by
              rintro j hj ⟨g1, g2⟩
              have m1 := hvH j _ (List.getElem?_eq_getElem (by omega))
              have h9 : voff + j - off < (r1 ++ r2).length := by omega
              have m2 : h0 vb (off + (voff + j - off)) = some ((r1 ++ r2)[voff + j - off]'h9) := sp.left _ _ _ (by rw [blk_at]; exact List.getElem?_eq_getElem h9)
              rw [show off + (voff + j - off) = voff + j by omega] at m2
              rcases s0.dj vb (voff + j) with z | z
              · rw [m2] at z; cases z
              · rw [m1] at z; cases z
            rcases Nat.lt_or_ge voff off with g | g
            · left
              rcases Nat.lt_or_ge off (voff + ys.length) with g2 | g2
              · exact absurd ⟨by omega, by omega⟩ (key (off - voff) (by omega))
              · exact g2
            · right
              rcases Nat.lt_or_ge voff (off + cap) with g2 | g2
              · exact absurd ⟨by omega, by omega⟩ (key 0 hy)
              · exact g2
          obtain ⟨tB, kB, hsb, hkB⟩ := shape_of_cell (hrow 0 _ (List.getElem?_eq_getElem (by omega)))
          obtain ⟨tA, kA, hsa, hkA⟩ := shape_of_cell (hvcell 0 _ (List.getElem?_eq_getElem (by omega)))
          refine (J.shift b off xs.length cap i vb voff ys.length vc r1 rv w hin hy hg hfit hvd hr1 hrv hcs hsp hnf hvcell (hone rl) (hone rlv) tA tB kA kB hsa hsb hkA hkB).mono fun en w' hh => ?_
          obtain ⟨q1, q2⟩ := hh
          subst q1
          have L0 : ∀ (j : Nat) v, (r1 ++ r2)[j]? = some v → w.drew.cell? ⟨b, off + j, none⟩ = some v := hrow
          have L1 := set_row L0 (k := i + ys.length) (vs := r1.drop i) (by rw [List.length_drop]; omega)
          have L2 := set_row L1 (k := i) (vs := rv) (by simp only [List.length_append, List.length_take, List.length_drop]; omega)
          have eL : List.take i (List.take (i + ys.length) (r1 ++ r2) ++ r1.drop i ++ List.drop (i + ys.length + (r1.drop i).length) (r1 ++ r2)) ++ rv ++ List.drop (i + rv.length) (List.take (i + ys.length) (r1 ++ r2) ++ r1.drop i ++ List.drop (i + ys.length + (r1.drop i).length) (r1 ++ r2)) =
              r1.take i ++ rv ++ r1.drop i ++ r2.drop ys.length := by
            have z1 : (List.take (i + ys.length) (r1 ++ r2)).length = i + ys.length := by rw [List.length_take]; omega
            rw [List.append_assoc (List.take (i + ys.length) (r1 ++ r2)), List.take_append_of_le_length (by omega), List.take_take, Nat.min_eq_left (by omega), List.take_append_of_le_length (by omega), hrv, drop_app0 z1]
            have z2 : i + ys.length + (r1.drop i).length = r1.length + ys.length := by rw [List.length_drop]; omega
            rw [z2, drop_app rfl, List.append_assoc (r1.take i ++ rv)]
          rw [eL] at L2
          have hn2 : NF w' b := by
            rw [q2]
            intro o
            rw [World.frozen?_setCells, World.frozen?_setCells]
            exact hnf o
          have hBb : ∀ j, j < cap → blk b off (r1 ++ r2) b (off + j) ≠ none := fun j hj => by rw [blk_at, List.getElem?_eq_getElem (by omega)]; simp
          have hM : Mod (blk b off (r1 ++ r2)) w w' := by
            have M1 : Mod (blk b off (r1 ++ r2)) w.drew (w.drew.setCells b (off + (i + ys.length)) (r1.drop i)) := by
              rw [wsc]; exact Mod.setCells _ _ _ _ fun j hj => by rw [List.length_drop] at hj; rw [Nat.add_assoc]; exact hBb _ (by omega)
            have M2 : Mod (blk b off (r1 ++ r2)) (w.drew.setCells b (off + (i + ys.length)) (r1.drop i)) w' := by
              rw [q2, wsc b rv]; exact Mod.setCells _ _ _ _ fun j hj => by rw [Nat.add_assoc]; exact hBb _ (by omega)
            exact (Mod.ext (Ext.drew w)).trans (M1.trans M2)
          have hlL : (r1.take i ++ rv ++ r1.drop i ++ r2.drop ys.length).length = cap := by rw [List.length_append, hnm, List.length_drop]; omega
          have hbd : ∀ b' o', blk b off (r1.take i ++ rv ++ r1.drop i ++ r2.drop ys.length) b' o' ≠ none → blk b off (r1 ++ r2) b' o' ≠ none := fun b' o' h => blk_dom (by rw [hlL, hl]) h
          have hdj : Dj (blk b off (r1.take i ++ rv ++ r1.drop i ++ r2.drop ys.length)) (Un h2 hv) := fun b' o' => by
            cases e5 : blk b off (r1.take i ++ rv ++ r1.drop i ++ r2.drop ys.length) b' o' with
            | none => exact .inl rfl
            | some u =>
              right
              rcases hKb b' o' with z | z
              · exact absurd z (hbd b' o' (by rw [e5]; simp))
              · exact z
          have hBH : ∀ b' o', blk b off (r1 ++ r2) b' o' ≠ none → H b' o' ≠ none := fun b' o' hne => by
            cases e5 : blk b off (r1 ++ r2) b' o' with
            | none => exact absurd e5 hne
            | some u => exact dom0 b' o' (by rw [sp.left _ _ _ e5]; simp)
          refine ins_post rfl (hM.weak hBH) (HR := Un (blk b off (r1.take i ++ rv ++ r1.drop i ++ r2.drop ys.length)) (Un h2 hv)) ?_ ?_ (hrep _ cap hg hlL _ _ hdj) himm hD
          · intro b' o' u e5
            rcases (Un.sp hdj).some e5 with z | z
            · exact blk_held (by rw [q2]; exact L2) hn2 _ _ _ z
            · obtain ⟨g1, g2⟩ := hK _ _ _ z
              refine ⟨?_, g2.mod hM (cell_lt g1)⟩
              rw [hM.cell b' o' (cell_lt g1) (by
                rcases hKb b' o' with z2 | z2
                · exact z2
                · rw [z] at z2; cases z2)]
              exact g1
          · intro b' o' hne
            left
            cases e5 : Un (blk b off (r1.take i ++ rv ++ r1.drop i ++ r2.drop ys.length)) (Un h2 hv) b' o' with
            | none => exact absurd e5 hne
            | some u =>
              rcases (Un.sp hdj).some e5 with z | z
              · exact hBH b' o' (hbd b' o' (by rw [z]; simp))
              · exact hKd b' o' (by rw [z]; simp)
    · -- at the end
      have ei : i = xs.length := by omega
      subst ei
      have er : xs.take xs.length ++ ys ++ xs.drop xs.length = xs ++ ys := by rw [List.take_length, List.drop_length, List.append_nil]
      rw [er]
      have hsrc : SrcRuns P w s.size (.slice (some ⟨vb, voff, none⟩) ys.length vc) ys.length rv := src_imm (by rw [hrv, hs1, Nat.mul_one]) hvcell
      have hu : P.underlying tS = some (.slice e) := (typeOk_sl ht).1
      have happ := appRuns_src ht hu (fun k h => by cases h) hsrc
      have hHv : Held w hv := fun b o u e => hHV _ _ _ (spV.right _ _ _ e)
      have hdomf : ∀ {hR' : Hp}, (∀ b o, hR' b o ≠ none → h0 b o ≠ none ∨ hv b o ≠ none ∨ w.heap.size ≤ b) → ∀ b o, hR' b o ≠ none → H b o ≠ none ∨ w.heap.size ≤ b := fun dom b o h => by
        rcases dom b o h with z | z | z
        · exact .inl (dom0 b o z)
        · left
          cases e5 : hv b o with
          | none => exact absurd e5 z
          | some u => exact domV b o (by rw [spV.right _ _ _ e5]; simp)
        · exact .inr z
      rcases id rep0 with ⟨ex, ec, eh⟩ | ⟨b, off, cap, r1, r2, h2, ec, hcap, hl, sp, rl⟩
      · subst ex ec
        have ev0 : v0 = .slice none 0 0 := ev0
        subst ev0
        obtain ⟨ad', cap', w', Hw, hR', hrun, M, hHw, rep', dom, held⟩ := append_core (ty := tS) (v := .slice (some ⟨vb, voff, none⟩) ys.length vc) ht rep0 rlv dv0 hH0 hHv happ hfit
        refine (J.fin none 0 0 vb voff ys.length vc w w' _ hy hrun).mono fun en w2 hh => ?_
        obtain ⟨q1, q2⟩ := hh
        subst q1 q2
        exact ins_post rfl (M.weak fun b o h => dom0 b o (hHw b o h)) held (hdomf dom) rep' himm hD
      · subst ec
        have ev0 : v0 = .slice (some ⟨b, off, none⟩) xs.length cap := ev0
        subst ev0
        obtain ⟨ad', cap', w', Hw, hR', hrun, M, hHw, rep', dom, held⟩ := append_core (ty := tS) (v := .slice (some ⟨vb, voff, none⟩) ys.length vc) ht rep0 rlv dv0 hH0 hHv happ hfit
        refine (J.fin (some ⟨b, off, none⟩) xs.length cap vb voff ys.length vc w w' _ hy hrun).mono fun en w2 hh => ?_
        obtain ⟨q1, q2⟩ := hh
        subst q1 q2
        exact ins_post rfl (M.weak fun b o h => dom0 b o (hHw b o h)) held (hdomf dom) rep' himm hD
theorem ins_det {e : TypeId} {s : S} {q : O} {F : List (den s) → Int → List (den s) → Option (List (den s))} : ConDet (insCon (e := e) q F) := det3
end
end Go.AE
