/- The abstract evaluator of the program's own code, and its soundness: part 6. -/
import Derived.Test.YtpenpjbobpalcaaA5
import Derived.ChangeArms
import Derived.WideShapes
import Derived.DataShut
namespace Go.AE
def Wf : (s : S) → den s → Prop
  | .int k, n => k.min ≤ n ∧ n ≤ k.max
  | .bool, _ => True
  | .unit, _ => True
  | .str, b => b.size ≤ 9223372036854775807
  | .sl _ s, xs => xs.length ≤ 9223372036854775807 ∧ ∀ x ∈ xs, Wf s x
  | .pair a b, x => Wf a x.1 ∧ Wf b x.2
  | .map _, _ => True
def deep (P : Program) : S → TypeId ⊕ List Field → Bool
  | .sl e s, .inl t => typeOk P t (.sl e s) && Nat.ble 1 s.size && deep P s (.inl e)
  | .pair a b, .inl t => typeOk P t (.pair a b) && (match P.underlying t with
    | some (.struct fs) => (match fs.toList with
      | f :: fs => deep P a (.inl f.type) && deep P b (.inr fs)
      | [] => false)
    | _ => false)
  | .pair a b, .inr (f :: fs) => deep P a (.inl f.type) && deep P b (.inr fs)
  | .unit, .inr [] => true
  | .int k, .inl t => typeOk P t (.int k)
  | .bool, .inl t => typeOk P t .bool
  | .str, .inl t => typeOk P t .str
  | _, _ => false
theorem cellsOf_info {P : Program} {t : TypeId} {s : S} (h : Info P t s) : P.cellsOf t = s.size := by
  obtain ⟨i, h1, h2, _, _⟩ := h.ex
  unfold Program.cellsOf
  rw [h1]; exact h2
section
variable {H : Type} {enc : TypeId × Value → H} {P : Program} {w : World} {base : Nat} {spare : Nat → Bool} {held : Bool}
theorem rows_rep {s : S} {b off n : Nat} (cell : ∀ i, i < n → ∃ cs x, cs.length = s.size ∧ (∀ j, j < s.size → w.cell? ⟨b, off + i * s.size + j, none⟩ = cs[j]?) ∧ Rep (memOf w) s .imm Hp.e cs x ∧ Wf s x) :
    ∃ r xs, r.length = n * s.size ∧ xs.length = n ∧ Cov (memOf w) b off r ∧ RepL (Rep (memOf w) s .imm) Hp.e r xs ∧ ∀ x ∈ xs, Wf s x := by
  induction n with
  | zero => exact ⟨[], [], by simp, rfl, fun j v e => by simp at e, ⟨rfl, rfl⟩, fun x h => by cases h⟩
  | succ n ih =>
    obtain ⟨r, xs, h1, h2, h3, h4, h5⟩ := ih fun i hi => cell i (by omega)
    obtain ⟨cs, x, g1, g2, g3, g4⟩ := cell n (by omega)
    refine ⟨r ++ cs, xs ++ [x], by rw [List.length_append, h1, g1, Nat.succ_mul], by simp [h2], ?_, RepL_snoc h4 g3, ?_⟩
    · intro j v e
      by_cases hj : j < r.length
      · rw [List.getElem?_append_left hj] at e
        exact h3 j v e
      · rw [List.getElem?_append_right (by omega)] at e
        have hlt : j - r.length < cs.length := (List.getElem?_eq_some_iff.1 e).1
        have := g2 (j - r.length) (by omega)
        rw [e] at this
        refine hat_v.2 ?_
        rw [← this]
        congr 2
        omega
    · intro z hz
      rcases List.mem_append.1 hz with hz | hz
      · exact h5 z hz
      · simp at hz; subst hz; exact g4
theorem trod_rep : ∀ (s : S), (∀ (t : TypeId) (fuel : Nat) (cs : List Value) (y : DataW H × List MemPlace), deep P s (.inl t) = true → DataW.trod enc P w base spare held fuel t cs = some y →
      ∃ x, Rep (memOf w) s .imm Hp.e cs x ∧ Wf s x) ∧
    (∀ (fs : List Field) (off n : Nat) (cs : List Value), deep P s (.inr fs) = true → fieldsOk P s off fs = true → cs.length = off + s.size →
      (∀ f ∈ fs, ∃ y, DataW.trod enc P w base spare held n f.type ((cs.drop f.offset).take (P.cellsOf f.type)) = some y) → ∃ x, Rep (memOf w) s .imm Hp.e (cs.drop off) x ∧ Wf s x) := by
  intro s
  induction s with
  | int k =>
    refine ⟨fun t fuel cs y hd h => ?_, fun fs off n cs hd => by simp [deep] at hd⟩
    obtain ⟨n, e, _, hw⟩ := DataW.trod_int (typeOk_int hd) h
    exact ⟨n, ⟨rfl, e⟩, (Lit.wf_int_iff k n).1 hw⟩
  | bool =>
    refine ⟨fun t fuel cs y hd h => ?_, fun fs off n cs hd => by simp [deep] at hd⟩
    obtain ⟨b, e, _⟩ := DataW.trod_bool (typeOk_bool hd) h
    exact ⟨b, ⟨rfl, e⟩, trivial⟩
  | str =>
    refine ⟨fun t fuel cs y hd h => ?_, fun fs off n cs hd => by simp [deep] at hd⟩
    obtain ⟨b, e, _, hw⟩ := DataW.trod_string (typeOk_str hd) h
    exact ⟨b, ⟨rfl, e⟩, by unfold maxLen at hw; exact (by omega : b.size ≤ 9223372036854775807)⟩
  | unit =>
    refine ⟨fun t fuel cs y hd => by simp [deep] at hd, fun fs off n cs hd hf hl _ => ⟨(), ⟨rfl, ?_⟩, trivial⟩⟩
    rw [List.drop_eq_nil_of_le (by rw [hl]; simp [S.size])]
  | map v _ => exact ⟨fun t fuel cs y hd => by simp [deep] at hd, fun fs off n cs hd => by simp [deep] at hd⟩
  | sl e s ih =>
    refine ⟨fun t fuel cs y hd h => ?_, fun fs off n cs hd => by simp [deep] at hd⟩
    simp only [deep, Bool.and_eq_true] at hd
    obtain ⟨⟨h1, h2⟩, h3⟩ := hd
    have h2 : 1 ≤ s.size := Nat.le_of_ble_eq_true h2
    obtain ⟨hu, hi, _⟩ := typeOk_sl h1
    have hc := cellsOf_info hi
    rcases DataW.trod_slice hu h with ⟨e1, _⟩ | ⟨a, len, cap, elems, rest, n, _, e1, _, hb, hl, hm, hlen, hel, _⟩
    · subst e1
      exact ⟨[], ⟨rfl, none, 0, rfl, Nat.le_refl _, fun h => absurd rfl h⟩, by simp [Wf]⟩
    · subst e1
      have hm : cap ≤ 9223372036854775807 := by unfold maxLen at hm; omega
      by_cases h0 : len = 0
      · subst h0
        exact ⟨[], ⟨rfl, some a, cap, rfl, Nat.zero_le _, fun h => absurd rfl h⟩, by simp [Wf]⟩
      · have each : ∀ i, i < len → ∃ cs y, w.cells? base (a.add (i * s.size)) s.size = some cs ∧ DataW.trod enc P w base spare held n e cs = some y := by
          intro i hi
          have := hel i hi
          rw [hc] at this
          have hs : ∃ y, elems[i]? = some y := ⟨elems[i], by simp [hlen, hi]⟩
          obtain ⟨y, hy⟩ := hs
          rw [hy] at this
          obtain ⟨cs, k1, k2⟩ := Option.bind_eq_some_iff.1 this
          exact ⟨cs, y, k1, k2⟩
        have hspot : a.spot = none := by
          obtain ⟨cs, y, k1, k2⟩ := each 0 (by omega)
          obtain ⟨_, k3, k4⟩ := World.cells?_some k1
          have := k4 0 (by omega)
          have h5 : cs[0]? ≠ none := by
            intro q
            have := List.getElem?_eq_none_iff.1 q
            omega
          have ea : (a.add (0 * s.size)).add 0 = a := by simp [Addr.add]
          rw [ea] at this
          rw [← this] at h5
          unfold World.cell? at h5
          cases hsp : a.spot with
          | none => rfl
          | some q =>
            exfalso
            apply h5
            rw [hsp]
            split <;> simp
        obtain ⟨ab, aoff, asp⟩ := a
        simp only at hspot
        subst hspot
        obtain ⟨r, xs, g1, g2, g3, g4, g5⟩ := rows_rep (w := w) (s := s) (b := ab) (off := aoff) (n := len) (fun i hi => by
          obtain ⟨cs, y, k1, k2⟩ := each i hi
          obtain ⟨_, k3, k4⟩ := World.cells?_some k1
          obtain ⟨x, q1, q2⟩ := ih.1 e n cs y h3 k2
          refine ⟨cs, x, k3, fun j hj => ?_, q1, q2⟩
          rw [← k4 j hj]
          congr 1
          unfold Addr.add
          by_cases c1 : i * s.size = 0
          · by_cases c2 : j = 0
            · simp [c1, c2]
            · simp [c1, c2]
          · by_cases c2 : j = 0
            · simp [c1, c2]
            · simp [c1, c2])
        subst g2
        exact ⟨xs, ⟨rfl, some ⟨ab, aoff, none⟩, cap, rfl, hl, fun _ => ⟨ab, aoff, r, rfl, g3, g4⟩⟩, by omega, g5⟩
  | pair a b iha ihb =>
    have fields : ∀ (fs : List Field) (off n : Nat) (cs : List Value), deep P (.pair a b) (.inr fs) = true → fieldsOk P (.pair a b) off fs = true → cs.length = off + (S.pair a b).size →
        (∀ f ∈ fs, ∃ y, DataW.trod enc P w base spare held n f.type ((cs.drop f.offset).take (P.cellsOf f.type)) = some y) → ∃ x, Rep (memOf w) (.pair a b) .imm Hp.e (cs.drop off) x ∧ Wf (.pair a b) x := by
      intro fs off n cs hd hf hl ht
      cases fs with
      | nil => simp [fieldsOk] at hf
      | cons f fs =>
        simp only [deep, Bool.and_eq_true] at hd
        simp only [fieldsOk, Bool.and_eq_true] at hf
        obtain ⟨⟨⟨⟨f1, f2⟩, f3⟩, f4⟩, f5⟩ := hf
        have f1 := Nat.eq_of_beq_eq_true f1
        have hc := cellsOf_info (okInfo_ok f2)
        simp only [S.size] at hl
        obtain ⟨y, hy⟩ := ht f (by simp)
        rw [hc, f1] at hy
        obtain ⟨x1, r1, w1⟩ := iha.1 f.type n _ y hd.1 hy
        obtain ⟨x2, r2, w2⟩ := ihb.2 fs (off + a.size) n cs hd.2 f5 (by omega) fun g hg => ht g (by simp [hg])
        refine ⟨(x1, x2), ⟨Hp.e, Hp.e, _, _, Sp.e_left _, ?_, r1, r2⟩, w1, w2⟩
        rw [← List.drop_drop, List.take_append_drop]
    refine ⟨fun t fuel cs y hd h => ?_, fields⟩
    have hd' := hd
    simp only [deep, Bool.and_eq_true] at hd
    obtain ⟨h1, h2⟩ := hd
    obtain ⟨fs, hu⟩ : ∃ fs, P.underlying t = some (.struct fs) := by
      split at h2
      · rename_i fs hu; exact ⟨fs, hu⟩
      · cases h2
    have hf := typeOk_fields h1 rfl hu
    rw [hu] at h2
    simp only at h2
    obtain ⟨xs, n, _, _, hl, hxs, hel⟩ := DataW.trod_struct hu h
    have hc := cellsOf_info (typeOk_info h1)
    have hdf : deep P (.pair a b) (.inr fs.toList) = true := by
      cases hfs : fs.toList with
      | nil => rw [hfs] at h2; cases h2
      | cons f l => rw [hfs] at h2; exact h2
    obtain ⟨x, r, wf⟩ := fields fs.toList 0 n cs hdf hf (by rw [hl, hc]; simp) fun f hfm => by
      obtain ⟨i, hi, e⟩ := List.getElem_of_mem hfm
      have hi' : i < fs.size := by simpa using hi
      have := hel i f (by rw [← e]; simp [hi'])
      exact ⟨xs[i]'(by omega), by rw [this]; simp [hxs, hi']⟩
    exact ⟨x, by simpa using r, wf⟩
theorem open_arg {t : TypeId} {v : Value} {d : DataW H} {ps : List MemPlace} {s : S} {b0 : Nat} (hd : deep P s (.inl t) = true) (hval : Value.okWide P w .any b0 t v) (h : DataW.Trod enc P w base spare held t v d ps) :
    ∃ c x, v = mkVal s c ∧ Rep (memOf w) s .imm Hp.e c x ∧ Wf s x := by
  obtain ⟨fuel, h⟩ := h
  obtain ⟨x, r, wf⟩ := (trod_rep (H := H) (enc := enc) (P := P) (w := w) (base := base) (spare := spare) (held := held) s).1 t fuel _ _ hd h
  refine ⟨_, x, ?_, r, wf⟩
  cases s with
  | int k => obtain ⟨n, rfl⟩ := WideShapes.okWide_int (typeOk_int hd) hval; rfl
  | bool => obtain ⟨n, rfl⟩ := WideShapes.okWide_bool (typeOk_bool hd) hval; rfl
  | str => obtain ⟨n, rfl⟩ := WideShapes.okWide_string (typeOk_str hd) hval; rfl
  | unit => simp [deep] at hd
  | map v => simp [deep] at hd
  | sl e s =>
    simp only [deep, Bool.and_eq_true] at hd
    obtain ⟨a, len, cap, rfl⟩ := WideShapes.okWide_slice (typeOk_sl hd.1.1).1 hval
    rfl
  | pair a b =>
    simp only [deep, Bool.and_eq_true] at hd
    obtain ⟨fs, hu⟩ : ∃ fs, P.underlying t = some (.struct fs) := by
      have h2 := hd.2
      split at h2
      · rename_i fs hu; exact ⟨fs, hu⟩
      · cases h2
    unfold Value.okWide at hval
    rw [hu] at hval
    obtain ⟨cs, rfl, _⟩ := hval
    simp [mkVal, S.isAgg, Value.cells]
end
end Go.AE
