/- The abstract evaluator of the program's own code, and its soundness: part 5. -/
import Derived.Test.YtpenpjbobpalcaaA4
import Derived.Orders
import Derived.Scope
import Derived.Below
namespace Go.AE
theorem cast_det {R : Type} {s s' : S} {x : den s} {k : den s' → Option R} {y : R} (h : cast? s s' x k = some y) : ∃ z, k z = some y ∧ ∀ {R' : Type} (k' : den s' → Option R'), cast? s s' x k' = k' z := by
  unfold cast? at h ⊢
  split at h
  · rename_i e he; exact ⟨_, h, fun k' => rfl⟩
  · cases h
theorem cmp_det {R : Type} {op : BinOp} {v : Option Bool} {k : Bool → Option R} {y : R} (h : cmpK op v k = some y) : ∃ z, k z = some y ∧ ∀ {R' : Type} (k' : Bool → Option R'), cmpK op v k' = k' z := by
  cases v with
  | none => cases h
  | some e => cases op <;> first | (cases h; done) | exact ⟨_, h, fun k' => rfl⟩
theorem castL_det {R : Type} {s s' : S} {x : List (den s)} {k : List (den s') → Option R} {y : R} (h : castL? s s' x k = some y) : ∃ z, k z = some y ∧ ∀ {R' : Type} (k' : List (den s') → Option R'), castL? s s' x k' = k' z := by
  unfold castL? at h ⊢
  split at h
  · rename_i e he; exact ⟨_, h, fun k' => rfl⟩
  · cases h
theorem bindO_det {A R : Type} {m : Option A} {k : A → Option R} {y : R} (h : bindO m k = some y) : ∃ z, k z = some y ∧ ∀ {R' : Type} (k' : A → Option R'), bindO m k' = k' z := by
  cases m with
  | none => cases h
  | some z => exact ⟨z, h, fun _ => rfl⟩
theorem arrAt_det {R : Type} {st : St} {s : S} {r : Nat} {p : Path} {n : Nat} {k : Path → Option R} {y : R} (h : arrAt st s r p n k = some y) :
    ∃ q, k q = some y ∧ ∀ {R' : Type} (k' : Path → Option R'), arrAt st s r p n k' = k' q := by
  unfold arrAt at h
  split at h
  · rename_i s2 sf hs1 hs2
    split at h
    · rename_i e2 he2
      obtain ⟨c, h⟩ := cond_some h
      exact ⟨_, h, fun k' => by unfold arrAt; simp only [hs1, hs2, he2, c, cond_true]⟩
    · cases h
  · cases h
theorem arrDynG_det {R : Type} {st : St} {s : S} {r : Nat} {p : Path} {i : Int} {k : Path → Option R} {y : R} : ∀ {n : Nat}, arrDynG st s r p i k n = some y →
    ∃ q, k q = some y ∧ ∀ {R' : Type} (k' : Path → Option R'), arrDynG st s r p i k' n = k' q
  | 0, h => arrAt_det h
  | n + 1, h => by
    cases hc : pEq i (Int.ofNat (n + 1)) with
    | true =>
      have h : arrAt st s r p (n + 1) k = some y := by unfold arrDynG at h; rw [hc] at h; exact h
      obtain ⟨q, h1, h2⟩ := arrAt_det h
      exact ⟨q, h1, fun k' => by unfold arrDynG; rw [hc]; exact h2 k'⟩
    | false =>
      have h : arrDynG st s r p i k n = some y := by unfold arrDynG at h; rw [hc] at h; exact h
      obtain ⟨q, h1, h2⟩ := arrDynG_det h
      exact ⟨q, h1, fun k' => by unfold arrDynG; rw [hc]; exact h2 k'⟩
theorem arrDyn_det {R : Type} {st : St} {s : S} {r : Nat} {p : Path} {i : Int} {k : Path → Option R} {y : R} {n : Nat} (h : arrDyn st s r p i k n = some y) :
    ∃ q, k q = some y ∧ ∀ {R' : Type} (k' : Path → Option R'), arrDyn st s r p i k' n = k' q := by
  unfold arrDyn at h
  cases h1 : pLe 0 i with
  | false => rw [h1] at h; cases h
  | true =>
    cases h2 : pLt i (Int.ofNat n) with
    | false => rw [h1, h2] at h; cases h
    | true =>
      rw [h1, h2] at h
      obtain ⟨q, h3, h4⟩ := arrDynG_det (k := k) h
      exact ⟨q, h3, fun k' => by unfold arrDyn; rw [h1, h2]; exact h4 k'⟩
theorem getK_det {R : Type} {y : R} : ∀ {s : S} {x : den s} {p : Path} {k : (s' : S) → den s' → Option R}, getK s x p k = some y →
    ∃ s' z, k s' z = some y ∧ ∀ {R' : Type} (k' : (s' : S) → den s' → Option R'), getK s x p k' = k' s' z
  | s, x, [], k, h => by
    have e : ∀ {R' : Type} (k' : (s' : S) → den s' → Option R'), getK s x [] k' = k' s x := by intro R' k'; cases s <;> rfl
    rw [e] at h
    exact ⟨s, x, h, e⟩
  | .pair a b, x, .L :: p, k, h => getK_det (s := a) (x := x.1) (p := p) h
  | .pair a b, x, .R :: p, k, h => getK_det (s := b) (x := x.2) (p := p) h
  | .sl e s, xs, .ix i :: p, k, h => by
    simp only [getK] at h
    obtain ⟨z, h1, h2⟩ := bindO_det h
    obtain ⟨s', z', h3, h4⟩ := getK_det h1
    exact ⟨s', z', h3, fun k' => by simp only [getK]; rw [h2]; exact h4 k'⟩
  | .int _, _, _ :: _, k, h => by simp [getK] at h
  | .bool, _, _ :: _, k, h => by simp [getK] at h
  | .str, _, _ :: _, k, h => by simp [getK] at h
  | .unit, _, _ :: _, k, h => by simp [getK] at h
  | .sl _ _, _, .L :: _, k, h => by simp [getK] at h
  | .map _, _, .L :: _, k, h => by simp [getK] at h
  | .sl _ _, _, .R :: _, k, h => by simp [getK] at h
  | .map _, _, .R :: _, k, h => by simp [getK] at h
  | .pair _ _, _, .ix _ :: _, k, h => by simp [getK] at h
  | .map _, _, .ix _ :: _, k, h => by simp [getK] at h
section
variable {g : Cfg} {R : Type} {st st' : St} {o : Oper} {y : R}
theorem atPlace_det {r : Nat} {p : Path} {k : (s : S) → O → den s → Option R} (h : atPlace st r p k = some y) :
    st.ob r ≠ none ∧ ∃ s m x, k s m x = some y ∧ ∀ {R' : Type} (k' : (s : S) → O → den s → Option R'), atPlace st r p k' = k' s m x := by
  unfold atPlace at h ⊢
  split at h
  · rename_i ob hob
    refine ⟨by rw [hob]; simp, ?_⟩
    split at h
    · rename_i hp ho
      obtain ⟨s', z, h1, h2⟩ := getK_det h
      exact ⟨s', _, z, h1, fun k' => h2 _⟩
    · cases h
  · cases h
theorem asInt_det {a : AV} {k : IntKind → Int → Option R} (h : asInt? a k = some y) : ∃ q n, k q n = some y ∧ ∀ {R' : Type} (k' : IntKind → Int → Option R'), asInt? a k' = k' q n := by
  unfold asInt? at h ⊢
  split at h
  · rename_i q n; exact ⟨q, n, h, fun _ => rfl⟩
  · cases h
theorem boundK_det {x : Option Operand} {n : Int} {k : Int → Option R} (h : boundK st x n k = some y) : ∃ m, k m = some y ∧ ∀ {R' : Type} (k' : Int → Option R'), boundK st x n k' = k' m := by
  cases x with
  | none => exact ⟨n, h, fun _ => rfl⟩
  | some op =>
    simp only [boundK] at h ⊢
    obtain ⟨q, m, h1, h2⟩ := asInt_det h
    exact ⟨m, h1, fun k' => h2 _⟩
theorem ifB_det {c : Bool} {a : Option R} (h : ifB c a none = some y) : c = true ∧ a = some y := by
  rcases ifB_eq h with ⟨e, h⟩ | ⟨e, h⟩
  · exact ⟨e, h⟩
  · cases h
theorem ifB_det' {c : Bool} {a : Option R} (h : ifB c none a = some y) : c = false ∧ a = some y := by
  rcases ifB_eq h with ⟨e, h⟩ | ⟨e, h⟩
  · cases h
  · exact ⟨e, h⟩
theorem ifT {a b : Option R} : ifB true a b = a := rfl
theorem ifF {a b : Option R} : ifB false a b = b := rfl
theorem ifB_det2 {c : Bool} {a b : Option R} (h : ifB c a b = some y) : (c = true ∧ a = some y) ∨ (c = false ∧ b = some y) := ifB_eq h
theorem asBool_det {a : AV} {k : Bool → Option R} (h : asBool? a k = some y) : ∃ b, k b = some y ∧ ∀ {R' : Type} (k' : Bool → Option R'), asBool? a k' = k' b := by
  unfold asBool? at h ⊢
  split at h
  · rename_i b; exact ⟨b, h, fun _ => rfl⟩
  · cases h
theorem setK_det : ∀ {s : S} {x : den s} {p : Path} {s' : S} {v : den s'} {k : den s → Option R}, setK s x p s' v k = some y →
    ∃ z, k z = some y ∧ ∀ {R' : Type} (k' : den s → Option R'), setK s x p s' v k' = k' z
  | s, x, [], s', v, k, h => by
    have e : ∀ {R' : Type} (k' : den s → Option R'), setK s x [] s' v k' = cast? s' s v k' := by intro R' k'; cases s <;> rfl
    rw [e] at h
    obtain ⟨z, h1, h2⟩ := cast_det h
    exact ⟨z, h1, fun k' => by rw [e]; exact h2 k'⟩
  | .pair a b, x, .L :: p, s', v, k, h => by
    simp only [setK] at h
    obtain ⟨z, h1, h2⟩ := setK_det (s := a) h
    exact ⟨_, h1, fun k' => by simp only [setK]; exact h2 _⟩
  | .pair a b, x, .R :: p, s', v, k, h => by
    simp only [setK] at h
    obtain ⟨z, h1, h2⟩ := setK_det (s := b) h
    exact ⟨_, h1, fun k' => by simp only [setK]; exact h2 _⟩
  | .sl e s, xs, .ix i :: p, s', v, k, h => by
    simp only [setK] at h
    obtain ⟨z, h1, h2⟩ := bindO_det h
    obtain ⟨z', h3, h4⟩ := setK_det h1
    exact ⟨_, h3, fun k' => by simp only [setK]; rw [h2]; exact h4 _⟩
  | .int _, _, _ :: _, _, _, k, h => by simp [setK] at h
  | .bool, _, _ :: _, _, _, k, h => by simp [setK] at h
  | .str, _, _ :: _, _, _, k, h => by simp [setK] at h
  | .unit, _, _ :: _, _, _, k, h => by simp [setK] at h
  | .sl _ _, _, .L :: _, _, _, k, h => by simp [setK] at h
  | .map _, _, .L :: _, _, _, k, h => by simp [setK] at h
  | .sl _ _, _, .R :: _, _, _, k, h => by simp [setK] at h
  | .map _, _, .R :: _, _, _, k, h => by simp [setK] at h
  | .pair _ _, _, .ix _ :: _, _, _, k, h => by simp [setK] at h
  | .map _, _, .ix _ :: _, _, _, k, h => by simp [setK] at h
theorem slOf_det {a : AV} {k : (e : TypeId) → (s : S) → O → List (den s) → Option R} (h : slOf st a k = some y) :
    ∃ e s m xs, k e s m xs = some y ∧ ∀ {R' : Type} (k' : (e : TypeId) → (s : S) → O → List (den s) → Option R'), slOf st a k' = k' e s m xs := by
  unfold slOf at h
  split at h
  · exact ⟨_, _, _, _, h, fun k' => rfl⟩
  · exact ⟨_, _, _, _, h, fun k' => rfl⟩
  · obtain ⟨_, s, m, x, h1, h2⟩ := atPlace_det h
    split at h1
    · exact ⟨_, _, _, _, h1, fun k' => by simp only [slOf]; rw [h2]⟩
    · cases h1
  · obtain ⟨_, s, m, x, h1, h2⟩ := atPlace_det h
    split at h1
    · exact ⟨_, _, _, _, h1, fun k' => by simp only [slOf]; rw [h2]⟩
    · cases h1
  · cases h
theorem partOf_det {a : AV} {k : (s : S) → O → den s → List Nat → Option R} (h : partOf g st a k = some y) :
    ∃ s m x c, k s m x c = some y ∧ ∀ {R' : Type} (k' : (s : S) → O → den s → List Nat → Option R'), partOf g st a k' = k' s m x c := by
  unfold partOf at h
  split at h
  · exact ⟨_, _, _, _, h, fun k' => rfl⟩
  · exact ⟨_, _, _, _, h, fun k' => rfl⟩
  · split at h
    · rename_i ob hob
      cases hf : ob.fixed with
      | true => rw [hf] at h; cases h
      | false =>
        rw [hf, cond_false] at h
        obtain ⟨_, s, m, x, h1, h2⟩ := atPlace_det h
        exact ⟨_, _, _, _, h1, fun k' => by simp only [partOf, hob, hf, cond_false]; rw [h2]⟩
    · cases h
  · rename_i r lo hi
    split at h
    · rename_i ob hob
      split at h
      · rename_i hm hf
        obtain ⟨_, s, m, x, h1, h2⟩ := atPlace_det h
        split at h1
        · exact ⟨_, _, _, _, h1, fun k' => by simp only [partOf, hob, hm, hf]; rw [h2]⟩
        · cases h1
      · cases h
    · cases h
  · cases h
theorem buildK_det {s : S} : ∀ {ps : List (Nat × Operand)} {x : den s} {o : O} {c : List Nat} {k : den s → O → List Nat → Option R}, buildK g st s ps x o c k = some y →
    ∃ x' o' c', k x' o' c' = some y ∧ ∀ {R' : Type} (k' : den s → O → List Nat → Option R'), buildK g st s ps x o c k' = k' x' o' c'
  | [], x, o, c, k, h => ⟨_, _, _, h, fun k' => rfl⟩
  | (i, op) :: ps, x, o, c, k, h => by
    simp only [buildK] at h
    split at h
    · cases h
    · rename_i sf hsf
      obtain ⟨s1, m1, x1, c1, h, q1⟩ := partOf_det h
      obtain ⟨hd, h⟩ := cond_some h
      split at h
      · rename_i e1 o2 he1 he2
        obtain ⟨z, h, q2⟩ := setK_det h
        obtain ⟨x', o', c', h, q3⟩ := buildK_det h
        exact ⟨x', o', c', h, fun k' => by simp only [buildK, hsf]; rw [q1]; simp only [hd, cond_true, he1, he2]; rw [q2]; exact q3 k'⟩
      · cases h
theorem partsK_det {s : S} : ∀ {ps : List (Nat × Operand)} {xs : List (den s)} {o : Option O} {c : List Nat} {k : List (den s) → Option O → List Nat → Option R}, partsK g st s ps xs o c k = some y →
    ∃ x' o' c', k x' o' c' = some y ∧ ∀ {R' : Type} (k' : List (den s) → Option O → List Nat → Option R'), partsK g st s ps xs o c k' = k' x' o' c'
  | [], x, o, c, k, h => ⟨_, _, _, h, fun k' => rfl⟩
  | (i, op) :: ps, xs, o, c, k, h => by
    simp only [partsK] at h
    cases hev : evalS st (some s) op with
    | z s' =>
      simp only [hev] at h
      obtain ⟨z, h, q1⟩ := cast_det h
      obtain ⟨hd, h⟩ := cond_some h
      obtain ⟨x', o', c', h, q3⟩ := partsK_det h
      exact ⟨x', o', c', h, fun k' => by simp only [partsK, hev]; rw [q1]; simp only [hd, cond_true]; exact q3 k'⟩
    | _ =>
      simp only [hev] at h
      obtain ⟨s1, m1, x1, c1, h, q1⟩ := partOf_det h
      obtain ⟨z, h, q2⟩ := cast_det h
      obtain ⟨hd, h⟩ := cond_some h
      obtain ⟨x', o', c', h, q3⟩ := partsK_det h
      exact ⟨x', o', c', h, fun k' => by simp only [partsK, hev]; rw [q1, q2]; simp only [hd, cond_true]; exact q3 k'⟩
theorem pathEq_det : ∀ {p q : Path} {m : Option R}, pathEqK p q m = some y → m = some y ∧ ∀ {R' : Type} (m' : Option R'), pathEqK p q m' = m'
  | [], [], m, h => ⟨h, fun _ => rfl⟩
  | .L :: p, .L :: q, m, h => by
    simp only [pathEqK] at h
    obtain ⟨h1, h2⟩ := pathEq_det h
    exact ⟨h1, fun m' => by simp only [pathEqK]; exact h2 m'⟩
  | .R :: p, .R :: q, m, h => by
    simp only [pathEqK] at h
    obtain ⟨h1, h2⟩ := pathEq_det h
    exact ⟨h1, fun m' => by simp only [pathEqK]; exact h2 m'⟩
  | .ix i :: p, .ix j :: q, m, h => by
    simp only [pathEqK] at h
    obtain ⟨c, h⟩ := ifB_det h
    obtain ⟨h1, h2⟩ := pathEq_det h
    exact ⟨h1, fun m' => by simp only [pathEqK, c, ifT]; exact h2 m'⟩
  | [], _ :: _, m, h => by simp [pathEqK] at h
  | _ :: _, [], m, h => by simp [pathEqK] at h
  | .L :: _, .R :: _, m, h => by simp [pathEqK] at h
  | .L :: _, .ix _ :: _, m, h => by simp [pathEqK] at h
  | .R :: _, .L :: _, m, h => by simp [pathEqK] at h
  | .R :: _, .ix _ :: _, m, h => by simp [pathEqK] at h
  | .ix _ :: _, .L :: _, m, h => by simp [pathEqK] at h
  | .ix _ :: _, .R :: _, m, h => by simp [pathEqK] at h
def DetE {R : Type} (f : {R : Type} → (Eff → Option R) → Option R) (k : Eff → Option R) (y : R) : Prop :=
  ∃ e : Eff, k e = some y ∧ ∀ {R' : Type} (k' : Eff → Option R'), f k' = k' e
theorem storeK_det {r : Nat} {p : Path} {a : AV} {k : Eff → Option R} (h : storeK g st r p a k = some y) : DetE (fun {R} (k : Eff → Option R) => storeK g st r p a k) k y := by
  unfold storeK at h
  cases hob : st.ob r with
  | none => simp only [hob] at h; cases h
  | some ob =>
    simp only [hob] at h
    cases a with
    | app r' p' =>
      simp only at h
      obtain ⟨c, h⟩ := cond_some h
      obtain ⟨h1, h2⟩ := pathEq_det h
      exact ⟨_, h1, fun k' => by unfold storeK; simp only [hob, c, cond_true]; exact h2 _⟩
    | osub r' p' lo hi =>
      simp only at h
      obtain ⟨c, h⟩ := cond_some h
      obtain ⟨h1, h2⟩ := pathEq_det h
      obtain ⟨s, x, h3, h4⟩ := getK_det h1
      cases s with
      | sl e s =>
        simp only at h3
        split at h3
        · rename_i o2 ho2
          obtain ⟨z, h5, h6⟩ := setK_det h3
          exact ⟨_, h5, fun k' => by unfold storeK; simp only [hob, c, cond_true]; rw [h2, h4]; simp only [ho2]; rw [h6]⟩
        · cases h3
      | _ => cases h3
    | _ =>
      simp only at h
      split at h
      · rename_i hp ho
        obtain ⟨s, m, x, c, h1, h2⟩ := partOf_det h
        cases hc : memNat r c with
        | true => rw [hc] at h1; cases h1
        | false =>
          simp only [hc, cond_false] at h1
          obtain ⟨hle, h1⟩ := cond_some h1
          split at h1
          · rename_i o2 ho2
            obtain ⟨z, h3, h4⟩ := setK_det h1
            exact ⟨_, h3, fun k' => by unfold storeK; simp only [hob, hp, ho]; rw [h2]; simp only [hc, cond_false, hle, cond_true, ho2]; exact h4 _⟩
          · cases h1
      · cases h
theorem srcK_det {a : AV} {k : (s : S) → O → List (den s) → List Nat → Option R} (h : srcK st a k = some y) :
    ∃ s m xs c, k s m xs c = some y ∧ ∀ {R' : Type} (k' : (s : S) → O → List (den s) → List Nat → Option R'), srcK st a k' = k' s m xs c := by
  unfold srcK at h
  split at h
  · exact ⟨_, _, _, _, h, fun k' => rfl⟩
  · exact ⟨_, _, _, _, h, fun k' => rfl⟩
  · exact ⟨_, _, _, _, h, fun k' => rfl⟩
  · rename_i r p
    obtain ⟨_, s, m, x, h1, h2⟩ := atPlace_det h
    split at h1
    · rename_i e s' xs
      cases hc : clean s' m.e with
      | true =>
        rw [hc] at h1
        exact ⟨_, _, _, _, h1, fun k' => by simp only [srcK]; rw [h2]; simp only [hc, cond_true]⟩
      | false =>
        rw [hc, cond_false] at h1
        split at h1
        · rename_i ob hob
          split at h1
          · rename_i e1 e2
            exact ⟨_, _, _, _, h1, fun k' => by simp only [srcK]; rw [h2]; simp only [hc, cond_false, hob, e1, e2]⟩
          · cases h1
        · cases h1
    · cases h1
  · rename_i r p lo hi
    obtain ⟨_, s, m, x, h1, h2⟩ := atPlace_det h
    split at h1
    · rename_i e s' xs
      obtain ⟨c, h1⟩ := cond_some h1
      exact ⟨_, _, _, _, h1, fun k' => by simp only [srcK]; rw [h2]; simp only [c, cond_true]⟩
    · cases h1
  · cases h
theorem appOn_det {r : Nat} {p : Path} {ob : Ob} {e : TypeId} {s0 : S} {zs : List (den s0)} {c : List Nat} {k : Eff → Option R} (h : appOn r p ob e s0 zs c k = some y) :
    DetE (fun {R} (k : Eff → Option R) => appOn r p ob e s0 zs c k) k y := by
  unfold appOn at h
  cases hm : ob.mem || hasIx p with
  | true =>
    rw [hm, cond_true] at h
    obtain ⟨hnb, h⟩ := cond_some h
    split at h
    · rename_i o2 ho2
      obtain ⟨z, h1, h2⟩ := setK_det h
      exact ⟨_, h1, fun k' => by simp only [appOn, hm, hnb, cond_true, ho2]; exact h2 _⟩
    · cases h
  | false =>
    rw [hm, cond_false] at h
    cases hf : ob.fixed with
    | true => rw [hf] at h; cases h
    | false =>
      rw [hf, cond_false] at h
      split at h
      · obtain ⟨z, h1, h2⟩ := setK_det h
        exact ⟨_, h1, fun k' => by simp only [appOn, hm, cond_false, hf]; exact h2 _⟩
      · cases h
theorem appendK_det {d : Option Tmp} {e : TypeId} {s0 : S} {base src : AV} {k : Eff → Option R} (h : appendK g st d e s0 base src k = some y) :
    DetE (fun {R} (k : Eff → Option R) => appendK g st d e s0 base src k) k y := by
  unfold appendK at h
  obtain ⟨s, m, xs, c, h, q1⟩ := srcK_det h
  obtain ⟨ys, h, q2⟩ := castL_det h
  split at h
  · obtain ⟨c1, h⟩ := ifB_det h
    exact ⟨_, h, fun k' => by simp only [appendK]; rw [q1, q2]; simp only [c1, ifT]⟩
  · rename_i r p
    split at h
    · cases h
    · rename_i ob hob
      split at h
      · rename_i m1 h1 h2 h3
        obtain ⟨c2, h⟩ := cond_some h
        obtain ⟨s1, x1, h, q3⟩ := getK_det h
        split at h
        · rename_i e1 s1 xs
          obtain ⟨zs, h, q4⟩ := castL_det h
          obtain ⟨c3, h⟩ := ifB_det h
          obtain ⟨e', h, q5⟩ := appOn_det h
          exact ⟨e', h, fun k' => by simp only [appendK]; rw [q1, q2]; simp only [hob, h1, h2, h3, c2, cond_true]; rw [q3]; simp only; rw [q4]; simp only [c3, ifT]; exact q5 k'⟩
        · cases h
      · cases h
  · rename_i r p lo hi
    split at h
    · cases h
    · rename_i ob hob
      split at h
      · rename_i m1 h1 h2 h3
        obtain ⟨c2, h⟩ := cond_some h
        obtain ⟨s1, x1, h, q3⟩ := getK_det h
        split at h
        · rename_i e1 s1 xs
          obtain ⟨zs, h, q4⟩ := castL_det h
          obtain ⟨c3, h⟩ := ifB_det h
          obtain ⟨e', h, q5⟩ := appOn_det h
          exact ⟨e', h, fun k' => by simp only [appendK]; rw [q1, q2]; simp only [hob, h1, h2, h3, c2, cond_true]; rw [q3]; simp only; rw [q4]; simp only [c3, ifT]; exact q5 k'⟩
        · cases h
      · cases h
  · cases h
theorem appendZ_det {d : Option Tmp} {e : TypeId} {s0 : S} {base : AV} {n : Int} {k : Eff → Option R} (h : appendZ g st d e s0 base n k = some y) :
    DetE (fun {R} (k : Eff → Option R) => appendZ g st d e s0 base n k) k y := by
  unfold appendZ at h
  obtain ⟨k1, h⟩ := ifB_det h
  obtain ⟨k2, h⟩ := ifB_det h
  split at h
  · exact ⟨_, h, fun k' => by simp only [appendZ, k1, k2, ifT]⟩
  · rename_i r p
    split at h
    · cases h
    · rename_i ob hob
      split at h
      · rename_i m1 h1 h2 h3
        obtain ⟨s1, x1, h, q3⟩ := getK_det h
        split at h
        · rename_i e1 s1 xs
          split at h
          · rename_i e2 he2
            obtain ⟨c3, h⟩ := ifB_det h
            obtain ⟨e', h, q5⟩ := appOn_det h
            exact ⟨e', h, fun k' => by simp only [appendZ, k1, k2, ifT, hob, h1, h2, h3]; rw [q3]; simp only [he2, c3, ifT]; exact q5 k'⟩
          · cases h
        · cases h
      · cases h
  · rename_i r p lo hi
    split at h
    · cases h
    · rename_i ob hob
      split at h
      · rename_i m1 h1 h2 h3
        obtain ⟨s1, x1, h, q3⟩ := getK_det h
        split at h
        · rename_i e1 s1 xs
          split at h
          · rename_i e2 he2
            obtain ⟨c3, h⟩ := ifB_det h
            obtain ⟨e', h, q5⟩ := appOn_det h
            exact ⟨e', h, fun k' => by simp only [appendZ, k1, k2, ifT, hob, h1, h2, h3]; rw [q3]; simp only [he2, c3, ifT]; exact q5 k'⟩
          · cases h
        · cases h
      · cases h
  · cases h
theorem copyOn_det {r : Nat} {lo : Int} {hi : Option Int} {s2 : S} {ys : List (den s2)} {k : Eff → Option R} (h : copyOn st r lo hi s2 ys k = some y) :
    DetE (fun {R} (k : Eff → Option R) => copyOn st r lo hi s2 ys k) k y := by
  unfold copyOn at h
  split at h
  · cases h
  · rename_i ob hob
    cases hm : ob.mem with
    | true => rw [hm] at h; cases h
    | false =>
      rw [hm, cond_false] at h
      obtain ⟨_, s, m, x, h1, h2⟩ := atPlace_det h
      split at h1
      · rename_i e1 s1 m1 xs
        split at h1
        · rename_i e2 he2
          obtain ⟨c, h1⟩ := cond_some h1
          obtain ⟨z, h3, h4⟩ := setK_det h1
          exact ⟨_, h3, fun k' => by simp only [copyOn, hob, hm, cond_false]; rw [h2]; simp only [he2, c, cond_true]; exact h4 _⟩
        · cases h1
      · cases h1
theorem copyK_det {s0 : S} {dst src : AV} {k : Eff → Option R} (h : copyK st s0 dst src k = some y) : DetE (fun {R} (k : Eff → Option R) => copyK st s0 dst src k) k y := by
  unfold copyK at h
  obtain ⟨e1, s, m, xs, h, q1⟩ := slOf_det h
  obtain ⟨ys, h, q2⟩ := castL_det h
  obtain ⟨c, h⟩ := cond_some h
  split at h
  · obtain ⟨z, h, q⟩ := copyOn_det h
    exact ⟨z, h, fun k' => by simp only [copyK]; rw [q1, q2]; simp only [c, cond_true]; exact q k'⟩
  · obtain ⟨z, h, q⟩ := copyOn_det h
    exact ⟨z, h, fun k' => by simp only [copyK]; rw [q1, q2]; simp only [c, cond_true]; exact q k'⟩
  · cases h
theorem argK_det {m : Mode} {a : AV} {k : Dy → Option R} (h : argK g st m a k = some y) : ∃ d, k d = some y ∧ ∀ {R' : Type} (k' : Dy → Option R'), argK g st m a k' = k' d := by
  unfold argK at h
  split at h
  · exact ⟨_, h, fun k' => rfl⟩
  · exact ⟨_, h, fun k' => rfl⟩
  · obtain ⟨_, s, m, x, h1, h2⟩ := atPlace_det h
    exact ⟨_, h1, fun k' => by simp only [argK]; rw [h2]⟩
  · obtain ⟨_, s, m, x, h1, h2⟩ := atPlace_det h
    split at h1
    · exact ⟨_, h1, fun k' => by simp only [argK]; rw [h2]⟩
    · cases h1
  · exact ⟨_, h, fun k' => rfl⟩
  · exact ⟨_, h, fun k' => rfl⟩
  · obtain ⟨_, s, m, x, h1, h2⟩ := atPlace_det h
    exact ⟨_, h1, fun k' => by simp only [argK]; rw [h2]⟩
  · obtain ⟨_, s, m, x, h1, h2⟩ := atPlace_det h
    exact ⟨_, h1, fun k' => by simp only [argK]; rw [h2]⟩
  · obtain ⟨_, s, m, x, h1, h2⟩ := atPlace_det h
    exact ⟨_, h1, fun k' => by simp only [argK]; rw [h2]⟩
  · exact ⟨_, h, fun k' => rfl⟩
  · exact ⟨_, h, fun k' => rfl⟩
  · split at h
    · rename_i ob hob
      split at h
      · rename_i e1 e2
        obtain ⟨_, s, m, x, h1, h2⟩ := atPlace_det h
        exact ⟨_, h1, fun k' => by simp only [argK, hob, e1, e2]; rw [h2]⟩
      · cases h
    · cases h
  · split at h
    · rename_i ob hob
      split at h
      · rename_i e1 e2
        obtain ⟨_, s, m, x, h1, h2⟩ := atPlace_det h
        split at h1
        · exact ⟨_, h1, fun k' => by simp only [argK, hob, e1, e2]; rw [h2]⟩
        · cases h1
      · cases h
    · cases h
  · cases h
theorem argsK_det : ∀ {ms : List Mode} {as : List AV} {k : List Dy → Option R}, argsK g st ms as k = some y → ∃ ds, k ds = some y ∧ ∀ {R' : Type} (k' : List Dy → Option R'), argsK g st ms as k' = k' ds
  | [], [], k, h => ⟨_, h, fun _ => rfl⟩
  | m :: ms, a :: as, k, h => by
    simp only [argsK] at h
    obtain ⟨d, h, q1⟩ := argK_det h
    obtain ⟨ds, h, q2⟩ := argsK_det h
    exact ⟨_, h, fun k' => by simp only [argsK]; rw [q1]; exact q2 _⟩
  | [], _ :: _, k, h => by simp [argsK] at h
  | _ :: _, [], k, h => by simp [argsK] at h
theorem backK_det : ∀ {ms : List Mode} {as : List AV} {ds : List Dy} {k : List (Nat × Option Ob) → List (Nat × KK) → Option R}, backK st ms as ds k = some y →
    ∃ u q, k u q = some y ∧ ∀ {R' : Type} (k' : List (Nat × Option Ob) → List (Nat × KK) → Option R'), backK st ms as ds k' = k' u q := by
  intro ms
  induction ms with
  | nil =>
    intro as ds k h
    cases as with
    | nil => cases ds with
      | nil => exact ⟨_, _, h, fun _ => rfl⟩
      | cons _ _ => simp [backK] at h
    | cons _ _ => cases ds <;> simp [backK] at h
  | cons m ms ih =>
    intro as ds k h
    cases m with
    | v => cases as with
      | nil => cases ds <;> simp [backK] at h
      | cons a as => simp only [backK] at h; obtain ⟨u, q, h1, h2⟩ := ih h; exact ⟨u, q, h1, fun k' => by simp only [backK]; exact h2 k'⟩
    | rd => cases as with
      | nil => cases ds <;> simp [backK] at h
      | cons a as => simp only [backK] at h; obtain ⟨u, q, h1, h2⟩ := ih h; exact ⟨u, q, h1, fun k' => by simp only [backK]; exact h2 k'⟩
    | nl => cases as with
      | nil => cases ds <;> simp [backK] at h
      | cons a as => simp only [backK] at h; obtain ⟨u, q, h1, h2⟩ := ih h; exact ⟨u, q, h1, fun k' => by simp only [backK]; exact h2 k'⟩
    | tk => cases as with
      | nil => cases ds <;> simp [backK] at h
      | cons a as => simp only [backK] at h; obtain ⟨u, q, h1, h2⟩ := ih h; exact ⟨u, q, h1, fun k' => by simp only [backK]; exact h2 k'⟩
    | io =>
      cases as with
      | nil => cases ds <;> simp [backK] at h
      | cons a as =>
      cases ds with
      | nil => cases a <;> simp [backK] at h
      | cons d ds =>
        cases a with
        | ptr r p =>
          simp only [backK] at h
          split at h
          · cases h
          · rename_i ob hob
            split at h
            · rename_i o2 ho2
              obtain ⟨z, h, q1⟩ := setK_det h
              obtain ⟨u, q, h1, h2⟩ := ih h
              exact ⟨_, _, h1, fun k' => by simp only [backK, hob, ho2]; rw [q1]; exact h2 _⟩
            · cases h
        | _ => simp [backK] at h
    | iov =>
      cases as with
      | nil => cases ds <;> simp [backK] at h
      | cons a as =>
      cases ds with
      | nil => cases a <;> simp [backK] at h
      | cons d ds =>
        cases a with
        | ov r p =>
          simp only [backK] at h
          split at h
          · cases h
          · rename_i ob hob
            split at h
            · rename_i o2 ho2
              obtain ⟨z, h, q1⟩ := setK_det h
              obtain ⟨u, q, h1, h2⟩ := ih h
              exact ⟨_, _, h1, fun k' => by simp only [backK, hob, ho2]; rw [q1]; exact h2 _⟩
            · cases h
        | _ => simp [backK] at h
def ConsDet (g : Cfg) : Prop := ∀ f ps c, lookCon g.con f ps = some c → ConDet c
theorem bltK_det {t e : TypeId} {kd : Nat} {as : List AV} {k : Eff → Option R} (h : bltK st t e kd as k = some y) : DetE (fun {R} (k : Eff → Option R) => bltK st t e kd as k) k y := by
  unfold bltK at h
  split at h
  · rename_i r l
    split at h
    · rename_i ob hob
      split at h
      · rename_i t' e' xs hx
        obtain ⟨hb, h⟩ := cond_some h
        split at h
        · obtain ⟨hf, h⟩ := ifB_true h
          exact ⟨_, h, fun k' => by simp only [bltK, hob, hx, hb, cond_true, hf]; rfl⟩
        · exact ⟨_, h, fun k' => by simp only [bltK, hob, hx, hb, cond_true]⟩
        · exact ⟨_, h, fun k' => by simp only [bltK, hob, hx, hb, cond_true]⟩
        · cases h
      · cases h
    · cases h
  · cases h
theorem conK_det {d : Option Tmp} {c : Con} {as : List AV} {k : Eff → Option R} (hC : ConDet c) (h : conK g st d c as k = some y) :
    DetE (fun {R} (k : Eff → Option R) => conK g st d c as k) k y := by
  unfold conK at h
  simp only at h
  obtain ⟨c1, h⟩ := cond_some h
  obtain ⟨ds, h, q1⟩ := argsK_det h
  obtain ⟨res, ios, h, q2⟩ := hC ds _ _ h
  obtain ⟨u, q, h, q3⟩ := backK_det h
  have key : ∀ {R' : Type} (k' : Eff → Option R'), conK g st d c as k' = (
      let gone := bif anyImm res || anyImm ios then rdIds c.modes as ++ tkIds c.modes as else tkIds c.modes as
      match resAV (memNat (d.getD 0) g.keep) (d.getD 0) 0 c.ptrs res with
      | some ([a], us, ks) => k' { av := .one a, upd := goneU gone ++ (u ++ us), kill := goneK gone ++ (q ++ ks) }
      | some (l, us, ks) => k' { av := .tup l, upd := goneU gone ++ (u ++ us), kill := goneK gone ++ (q ++ ks) }
      | none => none) := by
    intro R' k'
    unfold conK
    simp only
    simp only [c1, cond_true]
    rw [q1, q2, q3]
    rfl
  split at h
  · rename_i e; exact ⟨_, h, fun k' => by show conK g st d c as k' = _; rw [key, e]⟩
  · rename_i l us ks hne e
    refine ⟨_, h, fun k' => ?_⟩
    show conK g st d c as k' = _
    rw [key, e]
    cases l with
    | nil => rfl
    | cons a t =>
      cases t with
      | nil => exact (hne _ rfl).elim
      | cons b t => rfl
  · cases h
theorem mapCon_det (v : S) : ConDet (mapCon v) := by
  intro ds R k y h
  simp only [mapCon] at h
  split at h
  · split at h
    · rename_i e1 e2
      obtain ⟨c1, h⟩ := ifB_det h
      exact ⟨_, _, h, fun k' => by simp only [mapCon, e1, e2, c1]; rfl⟩
    · cases h
  · cases h
theorem mapOf_det {a : AV} {k : (v : S) → Option (List (ByteArray × den v)) → Option R} (h : mapOf st a k = some y) :
    ∃ v m, k v m = some y ∧ ∀ {R' : Type} (k' : (v : S) → Option (List (ByteArray × den v)) → Option R'), mapOf st a k' = k' v m := by
  unfold mapOf at h
  split at h
  · exact ⟨_, _, h, fun k' => rfl⟩
  · exact ⟨_, _, h, fun k' => rfl⟩
  · obtain ⟨_, s, m, x, h1, h2⟩ := atPlace_det h
    split at h1
    · exact ⟨_, _, h1, fun k' => by simp only [mapOf]; rw [h2]⟩
    · cases h1
  · cases h
theorem callK_det {d : Option Tmp} {f : FuncId} {caps : List Cap} {args : List AV} {k : Eff → Option R} (hD : ConsDet g) (h : callK g st d f caps args k = some y) :
    DetE (fun {R} (k : Eff → Option R) => callK g st d f caps args k) k y := by
  unfold callK at h
  simp only at h
  split at h
  · cases h
  · rename_i c hc
    split at h
    · rename_i t e kd hb
      obtain ⟨c1, h⟩ := cond_some h
      obtain ⟨ef, h1, h2⟩ := bltK_det h
      refine ⟨ef, h1, fun k' => ?_⟩
      show callK g st d f caps args k' = _
      unfold callK
      simp only [hc, hb, c1, cond_true]
      exact h2 k'
    · rename_i hb
      obtain ⟨ef, h1, h2⟩ := conK_det (hD _ _ _ hc) h
      refine ⟨ef, h1, fun k' => ?_⟩
      show callK g st d f caps args k' = _
      unfold callK
      simp only [hc, hb]
      exact h2 k'
theorem builtinK_det {d : Option Tmp} {b : Builtin} {ts : List TypeId} {args : List AV} {k : Eff → Option R} (h : builtinK g st d b ts args k = some y) :
    DetE (fun {R} (k : Eff → Option R) => builtinK g st d b ts args k) k y := by
  unfold builtinK at h
  split at h
  · rename_i e; exact ⟨_, h, fun k' => by simp only [builtinK, e]⟩
  · rename_i e; exact ⟨_, h, fun k' => by simp only [builtinK, e]⟩
  · rename_i e
    obtain ⟨e1, s, m, xs, h, q⟩ := slOf_det h
    exact ⟨_, h, fun k' => by simp only [builtinK, e]; rw [q]⟩
  · rename_i e
    split at h
    · rename_i e2
      obtain ⟨z, h, q⟩ := appendK_det h
      exact ⟨_, h, fun k' => by simp only [builtinK, e, e2]; exact q k'⟩
    · rename_i e2
      obtain ⟨z, h, q⟩ := appendK_det h
      exact ⟨_, h, fun k' => by simp only [builtinK, e, e2]; exact q k'⟩
    · rename_i e2
      split at h
      · obtain ⟨z, h, q⟩ := appendZ_det h
        exact ⟨_, h, fun k' => by simp only [builtinK, e, e2]; exact q k'⟩
      · cases h
    · cases h
  · rename_i e
    obtain ⟨z, h, q⟩ := copyK_det h
    exact ⟨_, h, fun k' => by simp only [builtinK, e]; exact q k'⟩
  · exact ⟨_, h, fun k' => by simp only [builtinK]⟩
  · exact ⟨_, h, fun k' => by simp only [builtinK]⟩
  · cases h
def Det (g : Cfg) (st : St) (o : Oper) {R : Type} (k : Eff → Option R) (y : R) : Prop :=
  ∃ e : Eff, k e = some y ∧ ∀ {R' : Type} (k' : Eff → Option R'), opSem g st o k' = k' e
theorem det_op {k : Eff → Option R} (hD : ConsDet g) (hN : isNilBin o = false) (h : opSem g st o k = some y) : Det g st o k y := by
  cases ho : o.op with
  | move x =>
    simp only [opSem, ho] at h
    split at h
    · rename_i l hl
      exact ⟨_, h, fun k' => by simp only [opSem, ho, hl]⟩
    rename_i htup
    split at h
    · cases h
    · exact ⟨_, h, fun k' => by simp only [opSem, ho, htup]⟩
  | assign x =>
    simp only [opSem, ho] at h
    split at h
    · rename_i he
      obtain ⟨c, h⟩ := cond_some h
      exact ⟨_, h, fun k' => by simp only [opSem, ho, he, c, cond_true]⟩
    · rename_i e s he
      cases hc : memNat (o.dst.getD 0) g.flt with
      | true => rw [hc] at h; exact ⟨_, h, fun k' => by simp only [opSem, ho, he, hc, cond_true]⟩
      | false => rw [hc] at h; exact ⟨_, h, fun k' => by simp only [opSem, ho, he, hc, cond_false]⟩
    · rename_i r p lo hi he
      split at h
      · rename_i ob hob
        split at h
        · rename_i m h1 h2 h3 h4
          obtain ⟨s, x1, h, q1⟩ := getK_det h
          split at h
          · rename_i e s' xs
            obtain ⟨z, h, q2⟩ := setK_det h
            exact ⟨_, h, fun k' => by simp only [opSem, ho, he, hob, h1, h2, h3, h4]; rw [q1]; simp only; rw [q2]⟩
          · cases h
        · cases h
      · cases h
    · rename_i n1 n2 n3
      refine ⟨_, h, fun k' => ?_⟩
      simp only [opSem, ho]
  | pick c a b =>
    simp only [opSem, ho] at h
    obtain ⟨t, h, q⟩ := asBool_det h
    cases t with
    | true =>
      simp only [ifT] at h
      split at h
      · cases h
      · exact ⟨_, h, fun k' => by simp only [opSem, ho]; rw [q]; simp only [ifT]⟩
    | false =>
      simp only [ifF] at h
      split at h
      · cases h
      · exact ⟨_, h, fun k' => by simp only [opSem, ho]; rw [q]; simp only [ifF]⟩
  | alloc t =>
    simp only [opSem, ho] at h
    split at h
    · rename_i s hs; exact ⟨_, h, fun k' => by simp only [opSem, ho, hs]⟩
    · rename_i hs
      split at h
      · rename_i e he; exact ⟨_, h, fun k' => by simp only [opSem, ho, hs, he]⟩
      · cases h
  | box t x =>
    simp only [opSem, ho] at h
    split at h
    · rename_i s hs
      split at h
      · rename_i r p hf
        obtain ⟨hne, s1, m1, x1, h1, h2⟩ := atPlace_det h
        split at h1
        · rename_i e2 he2
          exact ⟨_, h1, fun k' => by simp only [opSem, ho, hs, hf]; rw [h2]; simp only [he2]⟩
        · cases h1
      · rename_i hf
        cases hflt : memNat (o.dst.getD 0) g.flt with
        | true =>
          rw [hflt, cond_true] at h
          split at h
          · rename_i s1 z he
            obtain ⟨z2, h, q2⟩ := cast_det h
            exact ⟨_, h, fun k' => by simp only [opSem, ho, hs, hf, hflt, cond_true, he]; rw [q2]; rfl⟩
          · cases h
        | false =>
          rw [hflt, cond_false] at h
          obtain ⟨s1, m, z, c, h, q1⟩ := partOf_det h
          obtain ⟨z2, h, q2⟩ := cast_det h
          exact ⟨_, h, fun k' => by simp only [opSem, ho, hs, hf, hflt, cond_false]; rw [q1, q2]⟩
    · cases h
  | build t ps =>
    simp only [opSem, ho] at h
    split at h
    · rename_i s hs
      obtain ⟨c, h⟩ := cond_some h
      obtain ⟨z, m, cc, h, q1⟩ := buildK_det h
      exact ⟨_, h, fun k' => by simp only [opSem, ho, hs, c, cond_true]; rw [q1]⟩
    · cases h
  | buildSlice t n ps =>
    simp only [opSem, ho] at h
    split at h
    · rename_i e s hs
      obtain ⟨c, h⟩ := cond_some h
      obtain ⟨z, m, cc, h, q1⟩ := partsK_det h
      exact ⟨_, h, fun k' => by simp only [opSem, ho, hs, c, cond_true]; rw [q1]⟩
    · cases h
  | load t x =>
    simp only [opSem, ho] at h
    split at h
    · cases h
    · rename_i s hl
      split at h
      · rename_i s' z e
        obtain ⟨z1, h1, h2⟩ := cast_det h
        exact ⟨_, h1, fun k' => by simp only [opSem, ho, hl, e]; exact h2 _⟩
      · rename_i r p e
        obtain ⟨hne, s1, m1, x1, h1, h2⟩ := atPlace_det h
        split at h1
        · rename_i e2 he2
          exact ⟨_, h1, fun k' => by simp only [opSem, ho, hl, e]; rw [h2]; simp only [he2]⟩
        · cases h1
      · rename_i r p e
        obtain ⟨hne, s1, m1, x1, h1, h2⟩ := atPlace_det h
        split at h1
        · rename_i e2 he2
          exact ⟨_, h1, fun k' => by simp only [opSem, ho, hl, e]; rw [h2]; simp only [he2]⟩
        · cases h1
      · cases h
  | store t x z =>
    simp only [opSem, ho] at h
    split at h
    · cases h
    · rename_i s hl
      split at h
      · rename_i r p he
        split at h
        · rename_i s' hs'
          split at h
          · rename_i e2 he2
            obtain ⟨e, h, q⟩ := storeK_det h
            exact ⟨_, h, fun k' => by simp only [opSem, ho, hl, he, hs', he2]; exact q k'⟩
          · cases h
        · cases h
      · cases h
  | nilCheck x =>
    simp only [opSem, ho] at h
    split at h
    · rename_i r p e; exact ⟨_, h, fun k' => by simp only [opSem, ho, e]⟩
    · rename_i s z e; exact ⟨_, h, fun k' => by simp only [opSem, ho, e]⟩
    · rename_i f c e; exact ⟨_, h, fun k' => by simp only [opSem, ho, e]⟩
    · cases h
  | binOp op t x z u =>
    have hnz : isNilC z = false := by simpa [isNilBin, ho] using hN
    simp only [opSem, ho, hnz, cond_false] at h
    split at h
    · rename_i q a q' b e1 e2
      split at h
      · split at h
        · rename_i hq he
          obtain ⟨hc, h⟩ := ifB_det' h
          exact ⟨_, h, fun k' => by simp only [opSem, ho, hnz, cond_false, e1, e2, he, hc, ifF]⟩
        · cases h
      · split at h
        · rename_i hq he
          obtain ⟨hc, h⟩ := ifB_det' h
          exact ⟨_, h, fun k' => by simp only [opSem, ho, hnz, cond_false, e1, e2, he, hc, ifF]⟩
        · cases h
      · obtain ⟨hc, h⟩ := ifB_det' h
        exact ⟨_, h, fun k' => by simp only [opSem, ho, hnz, cond_false, e1, e2, hc, ifF]⟩
      · obtain ⟨hc, h⟩ := ifB_det' h
        exact ⟨_, h, fun k' => by simp only [opSem, ho, hnz, cond_false, e1, e2, hc, ifF]⟩
      · rename_i n1 n2 n3 n4
        split at h
        · rename_i hq he
          split at h
          · cases h
          · rename_i v hv
            refine ⟨_, h, fun k' => ?_⟩
            simp only [opSem, ho, hnz, cond_false, e1, e2, he]
        · cases h
    · rename_i a b e1 e2
      split at h
      · obtain ⟨hc, h⟩ := ifB_det h
        exact ⟨_, h, fun k' => by simp only [opSem, ho, hnz, cond_false, e1, e2, hc, ifT]⟩
      all_goals first
        | (exact ⟨_, h, fun k' => by simp only [opSem, ho, hnz, cond_false, e1, e2]⟩)
        | cases h
    · rename_i a b e1 e2
      split at h
      · rename_i hl; exact ⟨_, h, fun k' => by simp only [opSem, ho, hnz, cond_false, e1, e2, hl]⟩
      · rename_i hl; exact ⟨_, h, fun k' => by simp only [opSem, ho, hnz, cond_false, e1, e2, hl]⟩
      · cases h
    · rename_i a1 b1 a a2 b2 b e1 e2
      obtain ⟨htw, h⟩ := cond_some h
      split at h
      · rename_i s0 hs0
        obtain ⟨z1, h, q1⟩ := cast_det h
        obtain ⟨z2, h, q2⟩ := cast_det h
        obtain ⟨z3, h, q3⟩ := cmp_det h
        exact ⟨_, h, fun k' => by simp only [opSem, ho, hnz, cond_false, e1, e2, htw, cond_true, hs0, q1, q2, q3]⟩
      · cases h
    · cases h
  | unOp op t x =>
    simp only [opSem, ho] at h
    split at h
    · rename_i b e; exact ⟨_, h, fun k' => by simp only [opSem, ho, e]⟩
    · rename_i q n e; exact ⟨_, h, fun k' => by simp only [opSem, ho, e]⟩
    · cases h
  | convert a b x =>
    simp only [opSem, ho] at h
    split at h
    · rename_i eB; exact ⟨_, h, fun k' => by simp only [opSem, ho, eB]⟩
    rename_i eB
    split at h
    · rename_i e1 e2 e3; exact ⟨_, h, fun k' => by simp only [opSem, ho, eB]; rw [e1, e2, e3]⟩
    · rename_i e1 e2 e3; exact ⟨_, h, fun k' => by simp only [opSem, ho, eB]; rw [e1, e2, e3]⟩
    · rename_i e0 hs1 hs2
      split at h
      · rename_i he
        obtain ⟨e, s, m, xs, h, q1⟩ := slOf_det h
        obtain ⟨ys, h, q2⟩ := castL_det h
        exact ⟨_, h, fun k' => by simp only [opSem, ho, eB, hs1, hs2, he]; rw [q1, q2]⟩
      · cases h
    · cases h
  | makeFunc fn first caps =>
    simp only [opSem, ho] at h
    split at h
    · rename_i f hf
      split at h
      · rename_i l hl; exact ⟨_, h, fun k' => by simp only [opSem, ho, hf, hl]⟩
      · cases h
    · cases h
  | makeMap t r =>
    simp only [opSem, ho] at h
    split at h
    · rename_i e1 e2; exact ⟨_, h, fun k' => by simp only [opSem, ho, e1, e2]⟩
    · cases h
  | lookup t x i ok =>
    simp only [opSem, ho] at h
    split at h
    · rename_i e1 e2
      obtain ⟨v, m, h, q⟩ := mapOf_det h
      split at h
      · rename_i e3
        cases ok with
        | true => exact ⟨_, h, fun k' => by simp only [opSem, ho, e1, e2]; rw [q]; simp only [e3]; rfl⟩
        | false => exact ⟨_, h, fun k' => by simp only [opSem, ho, e1, e2]; rw [q]; simp only [e3]; rfl⟩
      · cases h
    · cases h
  | mapUpdate t m key x =>
    simp only [opSem, ho] at h
    split at h
    · rename_i e1 e2
      obtain ⟨e, h, q⟩ := conK_det (mapCon_det _) h
      exact ⟨_, h, fun k' => by simp only [opSem, ho, e1, e2]; exact q k'⟩
    · cases h
  | insert t m key x =>
    simp only [opSem, ho] at h
    split at h
    · rename_i e1 e2
      obtain ⟨e, h, q⟩ := conK_det (mapCon_det _) h
      exact ⟨_, h, fun k' => by simp only [opSem, ho, e1, e2]; exact q k'⟩
    · cases h
  | makeSlice t l c =>
    simp only [opSem, ho] at h
    split at h
    · rename_i e s hs
      obtain ⟨_, n, h, q1⟩ := asInt_det h
      obtain ⟨_, m, h, q2⟩ := asInt_det h
      obtain ⟨c1, h⟩ := ifB_det h
      obtain ⟨c2, h⟩ := ifB_det h
      obtain ⟨c3, h⟩ := ifB_det h
      exact ⟨_, h, fun k' => by simp only [opSem, ho, hs]; rw [q1, q2]; simp only [c1, c2, c3, ifT]⟩
    · cases h
  | slice t x lo hi mx =>
    cases mx with
    | some _ => simp only [opSem, ho] at h; cases h
    | none =>
    simp only [opSem, ho] at h
    split at h
    · rename_i b hl e
      obtain ⟨l, h, q1⟩ := boundK_det h
      obtain ⟨m, h, q2⟩ := boundK_det h
      obtain ⟨c1, h⟩ := ifB_det h
      obtain ⟨c2, h⟩ := ifB_det h
      obtain ⟨c3, h⟩ := ifB_det h
      exact ⟨_, h, fun k' => by simp only [opSem, ho, hl, e]; rw [q1, q2, c1, c2, c3]; rfl⟩
    · rename_i e0 s0 e1 s1 xs hl e
      obtain ⟨z1, h, q0⟩ := castL_det h
      obtain ⟨l, h, q1⟩ := boundK_det h
      obtain ⟨m, h, q2⟩ := boundK_det h
      obtain ⟨c1, h⟩ := ifB_det h
      obtain ⟨c2, h⟩ := ifB_det h
      obtain ⟨c3, h⟩ := ifB_det h
      exact ⟨_, h, fun k' => by simp only [opSem, ho, hl, e]; rw [q0, q1, q2, c1, c2, c3]; rfl⟩
    · rename_i e0 s0 r p hl e
      obtain ⟨hne, s1, m1, x1, h1, h2⟩ := atPlace_det h
      split at h1
      · rename_i e3 s3 x3
        split at h1
        · rename_i e2 he2
          obtain ⟨l, h, q1⟩ := boundK_det h1
          obtain ⟨m, h, q2⟩ := boundK_det h
          obtain ⟨c1, h⟩ := ifB_det h
          obtain ⟨c2, h⟩ := ifB_det h
          obtain ⟨c3, h⟩ := ifB_det h
          exact ⟨_, h, fun k' => by simp only [opSem, ho, hl, e]; rw [h2]; simp only [he2]; rw [q1, q2, c1, c2, c3]; rfl⟩
        · cases h1
      · cases h1
    · rename_i e0 s0 e1 s1 hl e
      split at h
      · rename_i z1 z2 h1 h2
        obtain ⟨l, h, q1⟩ := boundK_det h
        obtain ⟨m, h, q2⟩ := boundK_det h
        obtain ⟨c1, h⟩ := ifB_det h
        obtain ⟨c2, h⟩ := ifB_det h
        exact ⟨_, h, fun k' => by simp only [opSem, ho, hl, e, h1, h2]; rw [q1, q2, c1, c2]; rfl⟩
      · cases h
    · cases h
  | fieldAddr t x f =>
    simp only [opSem, ho] at h
    split at h
    · rename_i s r p hl e
      split at h
      · rename_i s' hs'
        split at h
        · rename_i e2 he2
          split at h
          · rename_i z hz
            exact ⟨_, h, fun k' => by simp only [opSem, ho, hl, e, hs', he2, hz]⟩
          · cases h
        · cases h
      · cases h
    · rename_i s s' z hl e
      obtain ⟨z1, h1, h2⟩ := cast_det h
      obtain ⟨s2, z2, h3, h4⟩ := getK_det h1
      exact ⟨_, h3, fun k' => by simp only [opSem, ho, hl, e]; rw [h2]; exact h4 _⟩
    · rename_i s r p hl e
      split at h
      · rename_i s' hs'
        split at h
        · rename_i e2 he2
          split at h
          · rename_i z hz
            exact ⟨_, h, fun k' => by simp only [opSem, ho, hl, e, hs', he2, hz]⟩
          · cases h
        · cases h
      · cases h
    · cases h
  | field t x f =>
    simp only [opSem, ho] at h
    split at h
    · rename_i s s' z hl e
      obtain ⟨z1, h1, h2⟩ := cast_det h
      obtain ⟨s2, z2, h3, h4⟩ := getK_det h1
      exact ⟨_, h3, fun k' => by simp only [opSem, ho, hl, e]; rw [h2]; exact h4 _⟩
    · rename_i s r p hl e
      obtain ⟨hne, s1, m1, x1, h1, h2⟩ := atPlace_det h
      split at h1
      · rename_i e2 he2
        obtain ⟨s2, z2, h3, h4⟩ := getK_det h1
        exact ⟨_, h3, fun k' => by simp only [opSem, ho, hl, e]; rw [h2]; simp only [he2]; exact h4 _⟩
      · cases h1
    · cases h
  | indexAddr t x ix =>
    simp only [opSem, ho] at h
    obtain ⟨q, i, h, hq⟩ := asInt_det h
    split at h
    · rename_i e s0 e1 s1 xs hl e
      obtain ⟨z1, h1, h2⟩ := castL_det h
      obtain ⟨z2, h3, h4⟩ := bindO_det h1
      exact ⟨_, h3, fun k' => by simp only [opSem, ho]; rw [hq]; simp only [hl, e]; rw [h2]; exact h4 _⟩
    · rename_i e s0 r p hl e
      obtain ⟨hne, s1, m1, x1, h1, h2⟩ := atPlace_det h
      split at h1
      · rename_i e3 s3 x3
        split at h1
        · rename_i e2 he2
          obtain ⟨z2, h3, h4⟩ := bindO_det h1
          exact ⟨_, h3, fun k' => by simp only [opSem, ho]; rw [hq]; simp only [hl, e]; rw [h2]; simp only [he2]; exact h4 _⟩
        · cases h1
      · cases h1
    · rename_i s r p hl e
      split at h
      · rename_i n hn
        unfold arrAt at h
        split at h
        · rename_i s2 sf hs1 hs2
          split at h
          · rename_i e2 he2
            obtain ⟨c, h⟩ := cond_some h
            exact ⟨_, h, fun k' => by simp only [opSem, ho]; rw [hq]; simp only [hl, e, hn]; unfold arrAt; simp only [hs1, hs2, he2, c, cond_true]⟩
          · cases h
        · cases h
      · rename_i hn
        obtain ⟨e2, h2, h3⟩ := arrDyn_det h
        exact ⟨_, h2, fun k' => by simp only [opSem, ho]; rw [hq]; simp only [hl, e, hn]; exact h3 _⟩
    · cases h
  | index t x ix =>
    simp only [opSem, ho] at h
    obtain ⟨q, i, h, hq⟩ := asInt_det h
    split at h
    · rename_i b hl e
      obtain ⟨z2, h3, h4⟩ := bindO_det h
      exact ⟨_, h3, fun k' => by simp only [opSem, ho]; rw [hq]; simp only [hl, e]; exact h4 _⟩
    · cases h
  | extract x i =>
    simp only [opSem, ho] at h
    split at h
    · rename_i n
      split at h
      · rename_i l e
        split at h
        · cases h
        · rename_i a hne hl
          exact ⟨_, h, fun k' => by simp only [opSem, ho, e, hl]⟩
        · cases h
      · cases h
    · cases h
  | call c =>
    simp only [opSem, ho] at h
    cases hc : c.callee with
    | builtin b =>
      simp only [hc] at h
      obtain ⟨e, h, q⟩ := builtinK_det h
      exact ⟨_, h, fun k' => by simp only [opSem, ho, hc]; exact q k'⟩
    | value f =>
      simp only [hc] at h
      split at h
      · rename_i f' caps he
        obtain ⟨e, h, q⟩ := callK_det hD h
        exact ⟨_, h, fun k' => by simp only [opSem, ho, hc, he]; exact q k'⟩
      · cases h
    | invoke a b => simp only [hc] at h; cases h
  | _ => simp only [opSem, ho] at h; cases h
theorem opSem_mono {k k' : Eff → Option R} (hD : ConsDet g) (h : opSem g st o k = some y) (hk : ∀ e, k e = some y → k' e = some y) : opSem g st o k' = some y := by
  cases hN : isNilBin o with
  | false =>
    obtain ⟨e, h1, h2⟩ := det_op hD hN h
    rw [h2]; exact hk e h1
  | true =>
    cases ho : o.op with
    | binOp op t x z u =>
      have hnz : isNilC z = true := by simpa [isNilBin, ho] using hN
      simp only [opSem, ho, hnz, cond_true] at h ⊢
      unfold nilBin at h ⊢
      split at h
      · rename_i e
        obtain ⟨e1, s, m, xs, h, q⟩ := slOf_det h
        rw [q]
        rcases ifB_det2 h with ⟨c, h⟩ | ⟨c, h⟩
        · rw [c, ifT]
          obtain ⟨h1, h2⟩ := same_eq h
          unfold same
          rw [hk _ h1, hk _ h2, if_pos rfl]
        · rw [c, ifF]; exact hk _ h
      · rename_i e
        obtain ⟨e1, s, m, xs, h, q⟩ := slOf_det h
        rw [q]
        rcases ifB_det2 h with ⟨c, h⟩ | ⟨c, h⟩
        · rw [c, ifT]
          obtain ⟨h1, h2⟩ := same_eq h
          unfold same
          rw [hk _ h1, hk _ h2, if_pos rfl]
        · rw [c, ifF]; exact hk _ h
      · cases h
    | _ => simp [isNilBin, ho] at hN
theorem opSem_ex {k : Eff → Option R} (hD : ConsDet g) (h : opSem g st o k = some y) : ∃ e, k e = some y := by
  cases hN : isNilBin o with
  | false =>
    obtain ⟨e, h1, h2⟩ := det_op hD hN h
    exact ⟨e, h1⟩
  | true =>
    cases ho : o.op with
    | binOp op t x z u =>
      have hnz : isNilC z = true := by simpa [isNilBin, ho] using hN
      simp only [opSem, ho, hnz, cond_true] at h
      unfold nilBin at h
      split at h
      · obtain ⟨e1, s, m, xs, h, q⟩ := slOf_det h
        rcases ifB_det2 h with ⟨c, h⟩ | ⟨c, h⟩
        · exact ⟨_, (same_eq h).1⟩
        · exact ⟨_, h⟩
      · obtain ⟨e1, s, m, xs, h, q⟩ := slOf_det h
        rcases ifB_det2 h with ⟨c, h⟩ | ⟨c, h⟩
        · exact ⟨_, (same_eq h).1⟩
        · exact ⟨_, h⟩
      · cases h
    | _ => simp [isNilBin, ho] at hN
theorem opSem_agN {k : Eff → Option R} (hm : needsMem o = false) (hS : ∀ n, .tmp n ∈ opOpnds o.op → getSlot st'.env n = getSlot st.env n) : opSem g st' o k = opSem g st o k := by
  have hE : ∀ x ∈ opOpnds o.op, ∀ os, evalS st' os x = evalS st os x := fun x hx os => evalS_ag fun n e => hS n (e ▸ hx)
  cases ho : o.op with
  | move x =>
    simp only [opSem, ho, evalT]
    have ht : tupOf st' x = tupOf st x := by
      cases x with
      | tmp n => simp only [tupOf]; rw [hS n (by simp [ho, opOpnds])]
      | _ => rfl
    rw [ht, hE x (by simp [ho, opOpnds])]
  | extract x i =>
    simp only [opSem, ho]
    cases x with
    | tmp n => simp only; rw [hS n (by simp [ho, opOpnds])]
    | _ => rfl
  | unOp op t x =>
    simp only [opSem, ho]
    rw [hE x (by simp [ho, opOpnds])]
  | binOp op t x z u =>
    have hnz : isNilC z = false := by simpa [needsMem, ho] using hm
    simp only [opSem, ho, hnz, cond_false, evalT]
    rw [hE x (by simp [ho, opOpnds]), hE z (by simp [ho, opOpnds])]
  | _ => simp [needsMem, ho] at hm
end
end Go.AE
namespace Go.AE
theorem nbeq_true {a b : Nat} : Nat.beq a b = true ↔ a = b := ⟨Nat.eq_of_beq_eq_true, fun h => by subst h; simp⟩
theorem nbeq_false {a b : Nat} : Nat.beq a b = false ↔ a ≠ b := by
  cases h : Nat.beq a b with
  | true => simp [nbeq_true.1 h]
  | false => simp; intro e; rw [nbeq_true.2 e] at h; cases h
theorem nble_true {a b : Nat} : Nat.ble a b = true ↔ a ≤ b := ⟨Nat.le_of_ble_eq_true, Nat.ble_eq_true_of_le⟩
theorem nble_false {a b : Nat} : Nat.ble a b = false ↔ b < a := by
  cases h : Nat.ble a b with
  | true => simp; exact nble_true.1 h
  | false => simp; exact Nat.lt_of_not_le fun e => by rw [nble_true.2 e] at h; cases h
theorem putOb_cons {n : Nat} {a : Ob} {l : List (Nat × Ob)} {m : Nat} {b : Ob} :
    putOb ((n, a) :: l) m b = if n = m then (m, b) :: l else if m < n then (m, b) :: (n, a) :: l else (n, a) :: putOb l m b := by
  simp only [putOb]
  by_cases h : n = m
  · rw [nbeq_true.2 h, if_pos h]; rfl
  · rw [nbeq_false.2 h, if_neg h]
    by_cases h2 : m < n
    · rw [nble_true.2 (by omega : m + 1 ≤ n), if_pos h2]; rfl
    · rw [nble_false.2 (by omega : n < m + 1), if_neg h2]; rfl
theorem dropOb_cons {n : Nat} {a : Ob} {l : List (Nat × Ob)} {m : Nat} : dropOb ((n, a) :: l) m = if n = m then dropOb l m else (n, a) :: dropOb l m := by
  simp only [dropOb]
  by_cases h : n = m
  · rw [nbeq_true.2 h, if_pos h]; rfl
  · rw [nbeq_false.2 h, if_neg h]; rfl
theorem put_put : ∀ {l : List (Nat × Ob)} {m r : Nat} {b c : Ob}, m < r → putOb (putOb l m b) r c = putOb (putOb l r c) m b
  | [], m, r, b, c, h => by
    show putOb [(m, b)] r c = putOb [(r, c)] m b
    rw [putOb_cons, putOb_cons, if_neg (by omega), if_neg (by omega), if_neg (by omega), if_pos h]; rfl
  | (n, a) :: l, m, r, b, c, h => by
    rw [putOb_cons, putOb_cons]
    by_cases h1 : n = m
    · rw [if_pos h1, if_neg (by omega), if_neg (by omega), putOb_cons, if_neg (by omega), if_neg (by omega), putOb_cons, if_pos h1]
    · by_cases h2 : m < n
      · rw [if_neg h1, if_pos h2, putOb_cons, if_neg (by omega), if_neg (by omega), putOb_cons]
        by_cases h3 : n = r
        · rw [if_pos h3, putOb_cons, if_neg (by omega), if_pos h]
        · by_cases h4 : r < n
          · rw [if_neg h3, if_pos h4, putOb_cons, if_neg (by omega), if_pos h]
          · rw [if_neg h3, if_neg h4, putOb_cons, if_neg (by omega), if_pos h2]
      · rw [if_neg h1, if_neg h2, putOb_cons, if_neg (by omega), if_neg (by omega), if_neg (by omega), if_neg (by omega), putOb_cons, if_neg h1, if_neg h2, put_put h]
theorem put_comm {l : List (Nat × Ob)} {m r : Nat} {b c : Ob} (h : m ≠ r) : putOb (putOb l m b) r c = putOb (putOb l r c) m b := by
  rcases Nat.lt_or_gt_of_ne h with h | h
  · exact put_put h
  · exact (put_put h).symm
theorem allGt_iff : ∀ {l : List (Nat × Ob)} {n : Nat}, allGt n l = true ↔ ∀ x ∈ l, n < x.1
  | [], n => by simp [allGt]
  | (m, a) :: l, n => by
    simp only [allGt, Bool.and_eq_true, nble_true, List.mem_cons, forall_eq_or_imp]
    rw [allGt_iff]; rfl
theorem put_gt {l : List (Nat × Ob)} {m : Nat} {b : Ob} (h : ∀ x ∈ l, m < x.1) : putOb l m b = (m, b) :: l := by
  cases l with
  | nil => rfl
  | cons x l =>
    obtain ⟨n, a⟩ := x
    have := h (n, a) (by simp)
    simp only at this
    rw [putOb_cons, if_neg (by omega), if_pos this]
theorem mem_drop {l : List (Nat × Ob)} {r : Nat} {x : Nat × Ob} (h : x ∈ dropOb l r) : x ∈ l := by
  induction l with
  | nil => cases h
  | cons y l ih =>
    obtain ⟨n, a⟩ := y
    rw [dropOb_cons] at h
    split at h
    · exact List.mem_cons_of_mem _ (ih h)
    · cases h with
      | head => simp
      | tail _ h => exact List.mem_cons_of_mem _ (ih h)
theorem mem_put {l : List (Nat × Ob)} {r : Nat} {b : Ob} {x : Nat × Ob} (h : x ∈ putOb l r b) : x = (r, b) ∨ x ∈ l := by
  induction l with
  | nil => simp [putOb] at h; exact .inl h
  | cons y l ih =>
    obtain ⟨n, a⟩ := y
    rw [putOb_cons] at h
    split at h
    · cases h with
      | head => exact .inl rfl
      | tail _ h => exact .inr (List.mem_cons_of_mem _ h)
    · split at h
      · cases h with
        | head => exact .inl rfl
        | tail _ h => exact .inr h
      · cases h with
        | head => exact .inr (by simp)
        | tail _ h =>
          rcases ih h with z | z
          · exact .inl z
          · exact .inr (List.mem_cons_of_mem _ z)
theorem sorted_cons {n : Nat} {a : Ob} {l : List (Nat × Ob)} : sortedK ((n, a) :: l) = true ↔ (∀ x ∈ l, n < x.1) ∧ sortedK l = true := by
  simp only [sortedK, Bool.and_eq_true, allGt_iff]
theorem sorted_drop : ∀ {l : List (Nat × Ob)} {r : Nat}, sortedK l = true → sortedK (dropOb l r) = true
  | [], r, h => rfl
  | (n, a) :: l, r, h => by
    obtain ⟨h1, h2⟩ := sorted_cons.1 h
    rw [dropOb_cons]
    split
    · exact sorted_drop h2
    · exact sorted_cons.2 ⟨fun x hx => h1 x (mem_drop hx), sorted_drop h2⟩
theorem sorted_put : ∀ {l : List (Nat × Ob)} {r : Nat} {b : Ob}, sortedK l = true → sortedK (putOb l r b) = true
  | [], r, b, h => rfl
  | (n, a) :: l, r, b, h => by
    obtain ⟨h1, h2⟩ := sorted_cons.1 h
    rw [putOb_cons]
    split
    · rename_i e; subst e; exact sorted_cons.2 ⟨h1, h2⟩
    · split
      · rename_i e1 e2
        exact sorted_cons.2 ⟨fun x hx => by
          cases hx with
          | head => exact e2
          | tail _ hx => have := h1 x hx; omega, h⟩
      · rename_i e1 e2
        exact sorted_cons.2 ⟨fun x hx => by
          rcases mem_put hx with z | z
          · subst z; show n < r; omega
          · exact h1 x z, sorted_put h2⟩
theorem sorted_upds : ∀ {u : List (Nat × Option Ob)} {l : List (Nat × Ob)}, sortedK l = true → sortedK (upds u l) = true
  | [], l, h => h
  | (r, none) :: u, l, h => sorted_upds (u := u) (sorted_drop h)
  | (r, some b) :: u, l, h => sorted_upds (u := u) (sorted_put h)
theorem put_drop : ∀ {l : List (Nat × Ob)} {m r : Nat} {b : Ob}, sortedK l = true → m ≠ r → dropOb (putOb l m b) r = putOb (dropOb l r) m b
  | [], m, r, b, h, hne => by
    show dropOb [(m, b)] r = [(m, b)]
    rw [dropOb_cons, if_neg hne]; rfl
  | (n, a) :: l, m, r, b, h, hne => by
    obtain ⟨h1, h2⟩ := sorted_cons.1 h
    rw [putOb_cons]
    by_cases e1 : n = m
    · rw [if_pos e1, dropOb_cons, if_neg hne, dropOb_cons, if_neg (by omega), putOb_cons, if_pos e1]
    · rw [if_neg e1]
      by_cases e2 : m < n
      · rw [if_pos e2, dropOb_cons, if_neg hne]
        symm
        refine put_gt fun x hx => ?_
        have := mem_drop hx
        cases this with
        | head => exact e2
        | tail _ hx => have := h1 x hx; omega
      · rw [if_neg e2, dropOb_cons, dropOb_cons]
        by_cases e3 : n = r
        · rw [if_pos e3, if_pos e3]; exact put_drop h2 hne
        · rw [if_neg e3, if_neg e3, putOb_cons, if_neg e1, if_neg e2, put_drop h2 hne]
theorem upds_put : ∀ {u : List (Nat × Option Ob)} {l : List (Nat × Ob)} {m : Nat} {b : Ob}, sortedK l = true → (∀ x ∈ u, x.1 ≠ m) → upds u (putOb l m b) = putOb (upds u l) m b
  | [], l, m, b, h, hu => rfl
  | (r, none) :: u, l, m, b, h, hu => by
    simp only [upds]
    rw [put_drop h (fun e => hu (r, none) (by simp) e.symm)]
    exact upds_put (sorted_drop h) fun x hx => hu x (by simp [hx])
  | (r, some c) :: u, l, m, b, h, hu => by
    simp only [upds]
    rw [put_comm (fun e => hu (r, some c) (by simp) e.symm)]
    exact upds_put (sorted_put h) fun x hx => hu x (by simp [hx])
theorem set_comm : ∀ {env : List SV} {d e : Nat} {u v : SV}, d ≠ e → setSlot (setSlot env d u) e v = setSlot (setSlot env e v) d u
  | [], d, e, u, v, h => rfl
  | a :: l, 0, 0, u, v, h => absurd rfl h
  | a :: l, 0, e + 1, u, v, h => rfl
  | a :: l, d + 1, 0, u, v, h => rfl
  | a :: l, d + 1, e + 1, u, v, h => by
    simp only [setSlot]
    rw [set_comm (fun x => h (by omega))]
theorem set_self : ∀ {env : List SV} {d : Nat} {v : SV}, getSlot env d = v → setSlot env d v = env
  | [], d, v, h => rfl
  | a :: l, 0, v, h => by simp only [setSlot]; rw [← h]; rfl
  | a :: l, d + 1, v, h => by simp only [setSlot]; rw [set_self (env := l) (d := d) h]
theorem kill_set {r : Nat} {k : KK} {v : SV} (h : killS r k v = v) : ∀ {env : List SV} {d : Nat}, killEnv r k (setSlot env d v) = setSlot (killEnv r k env) d v
  | [], d => rfl
  | a :: l, 0 => by simp only [setSlot, killEnv]; rw [h]
  | a :: l, d + 1 => by simp only [setSlot, killEnv]; rw [kill_set h]
theorem kills_set {v : SV} : ∀ {l : List (Nat × KK)} {env : List SV} {d : Nat}, (∀ x ∈ l, killS x.1 x.2 v = v) → kills l (setSlot env d v) = setSlot (kills l env) d v
  | [], env, d, h => rfl
  | (r, k) :: l, env, d, h => by
    simp only [kills]
    rw [kill_set (h (r, k) (by simp))]
    exact kills_set fun x hx => h x (by simp [hx])
theorem killS_hit {r : Nat} {k : KK} {v : SV} (h : hitSV r k v = false) : killS r k v = v := by
  cases v with
  | one a => simp only [killS]; have : hit r k a = false := h; rw [this]; rfl
  | tup l => simp only [killS]; have : anyHit r k l = false := h; rw [this]; rfl
def setO (env : List SV) (d : Option Tmp) (v : SV) : List SV := match d with | some d => setSlot env d v | none => env
theorem setO_comm {env : List SV} {d e : Option Tmp} {u v : SV} (h : ∀ x, d = some x → e ≠ some x) : setO (setO env d u) e v = setO (setO env e v) d u := by
  cases d with
  | none => rfl
  | some d =>
    cases e with
    | none => rfl
    | some e => exact set_comm (fun x => h d rfl (by rw [x]))
theorem kills_setO {v : SV} {l : List (Nat × KK)} {env : List SV} {d : Option Tmp} (h : ∀ x ∈ l, killS x.1 x.2 v = v) : kills l (setO env d v) = setO (kills l env) d v := by
  cases d with
  | none => rfl
  | some d => exact kills_set h
theorem get_setO {env : List SV} {d : Option Tmp} {v : SV} {n : Nat} (h : d ≠ some n) : getSlot (setO env d v) n = getSlot env n := by
  cases d with
  | none => rfl
  | some d =>
    show getSlot (setSlot env d v) n = _
    rw [getSlot_set, if_neg (fun q => h (by rw [q.1]))]
section
variable {st : St}
theorem apply_env {d : Option Tmp} {e : Eff} : (st.apply d e).env = setO (kills e.kill st.env) d e.av := by cases d <;> rfl
theorem apply_objs {d : Option Tmp} {e : Eff} : (st.apply d e).objs = upds e.upd st.objs := by cases d <;> rfl
theorem skip_env {d : Option Tmp} : (stSkip st d).env = setO st.env d (.tup []) := by cases d <;> rfl
theorem killS_skip {r : Nat} {k : KK} : killS r k (.tup []) = .tup [] := rfl
theorem skip_objs {d : Option Tmp} : (stSkip st d).objs = st.objs := by cases d <;> rfl
theorem St.ext' {s t : St} (h1 : s.env = t.env) (h2 : s.objs = t.objs) : s = t := by cases s; cases t; simp_all
theorem skip_apply {d f : Option Tmp} {e : Eff} (h : ∀ x, d = some x → f ≠ some x) : (stSkip st d).apply f e = stSkip (st.apply f e) d := by
  refine St.ext' ?_ ?_
  · rw [apply_env, skip_env, skip_env, apply_env, kills_setO (fun _ _ => killS_skip), setO_comm h]
  · rw [apply_objs, skip_objs, skip_objs, apply_objs]
theorem skip_skip {d f : Option Tmp} (h : ∀ x, d = some x → f ≠ some x) : stSkip (stSkip st d) f = stSkip (stSkip st f) d := by
  refine St.ext' ?_ ?_
  · rw [skip_env, skip_env, skip_env, skip_env, setO_comm h]
  · rw [skip_objs, skip_objs, skip_objs, skip_objs]
theorem keysU_mem {ids : List Nat} : ∀ {l : List (Nat × Option Ob)}, keysU ids l = true → ∀ x ∈ l, x.1 ∉ ids
  | (r, b) :: l, h, x, hx => by
    simp only [keysU, Bool.and_eq_true, Bool.not_eq_true'] at h
    cases hx with
    | head => exact memNat_false.1 h.1
    | tail _ hx => exact keysU_mem h.2 x hx
theorem keysOf_mem : ∀ {l : List (Nat × Option Ob)} {x : Nat × Option Ob}, x ∈ l → x.1 ∈ keysOf l
  | (r, b) :: l, x, h => by
    simp only [keysOf, List.mem_cons]
    cases h with
    | head => exact .inl rfl
    | tail _ h => exact .inr (keysOf_mem h)
theorem hitsK_mem {v : SV} : ∀ {l : List (Nat × KK)}, hitsK v l = false → ∀ z ∈ l, killS z.1 z.2 v = v
  | (r, k) :: l, h, z, hz => by
    simp only [hitsK, Bool.or_eq_false_iff] at h
    cases hz with
    | head => exact killS_hit h.1
    | tail _ hz => exact hitsK_mem h.2 z hz
theorem killS_or {r : Nat} {k : KK} {v : SV} : killS r k v = v ∨ killS r k v = .one .dead := by
  cases v with
  | one a => simp only [killS]; cases hit r k a <;> simp
  | tup l => simp only [killS]; cases anyHit r k l <;> simp
theorem killS_comm {r r' : Nat} {k k' : KK} {v : SV} : killS r k (killS r' k' v) = killS r' k' (killS r k v) := by
  rcases killS_or (r := r) (k := k) (v := v) with h1 | h1 <;> rcases killS_or (r := r') (k := k') (v := v) with h2 | h2
  · rw [h2, h1, h2]
  · rw [h1, h2]; rfl
  · rw [h2, h1]; rfl
  · rw [h1, h2]; rfl
theorem killEnv_comm {r r' : Nat} {k k' : KK} : ∀ {env : List SV}, killEnv r k (killEnv r' k' env) = killEnv r' k' (killEnv r k env)
  | [] => rfl
  | a :: l => by simp only [killEnv]; rw [killS_comm, killEnv_comm]
theorem killEnv_kills {r : Nat} {k : KK} : ∀ {l : List (Nat × KK)} {env : List SV}, kills l (killEnv r k env) = killEnv r k (kills l env)
  | [], env => rfl
  | (r', k') :: l, env => by simp only [kills]; rw [killEnv_comm, killEnv_kills]
theorem kills_comm : ∀ {l m : List (Nat × KK)} {env : List SV}, kills l (kills m env) = kills m (kills l env)
  | [], m, env => rfl
  | (r, k) :: l, m, env => by simp only [kills]; rw [← killEnv_kills, kills_comm]
theorem drop_drop : ∀ {l : List (Nat × Ob)} {m r : Nat}, dropOb (dropOb l m) r = dropOb (dropOb l r) m
  | [], m, r => rfl
  | (n, a) :: l, m, r => by
    rw [dropOb_cons, dropOb_cons]
    by_cases h1 : n = m
    · rw [if_pos h1]
      by_cases h2 : n = r
      · rw [if_pos h2, drop_drop]
      · rw [if_neg h2, dropOb_cons, if_pos h1, drop_drop]
    · rw [if_neg h1]
      by_cases h2 : n = r
      · rw [if_pos h2, dropOb_cons, if_pos h2, drop_drop]
      · rw [if_neg h2, dropOb_cons, if_neg h2, dropOb_cons, if_neg h1, drop_drop]
theorem upds_drop : ∀ {u : List (Nat × Option Ob)} {l : List (Nat × Ob)} {m : Nat}, sortedK l = true → (∀ x ∈ u, x.1 ≠ m) → upds u (dropOb l m) = dropOb (upds u l) m
  | [], l, m, h, hu => rfl
  | (r, none) :: u, l, m, h, hu => by
    simp only [upds]
    rw [drop_drop]
    exact upds_drop (sorted_drop h) fun x hx => hu x (by simp [hx])
  | (r, some c) :: u, l, m, h, hu => by
    simp only [upds]
    rw [← put_drop h (hu (r, some c) (by simp))]
    exact upds_drop (sorted_put h) fun x hx => hu x (by simp [hx])
theorem upds_comm : ∀ {u v : List (Nat × Option Ob)} {l : List (Nat × Ob)}, sortedK l = true → (∀ x ∈ u, ∀ z ∈ v, z.1 ≠ x.1) → upds v (upds u l) = upds u (upds v l)
  | [], v, l, h, hu => rfl
  | (r, none) :: u, v, l, h, hu => by
    simp only [upds]
    rw [upds_comm (sorted_drop h) fun x hx => hu x (by simp [hx]), upds_drop h (hu (r, none) (by simp))]
  | (r, some c) :: u, v, l, h, hu => by
    simp only [upds]
    rw [upds_comm (sorted_put h) fun x hx => hu x (by simp [hx]), upds_put h (hu (r, some c) (by simp))]
theorem apply_comm {d f : Option Tmp} {e1 e2 : Eff} (h : ∀ x, d = some x → f ≠ some x) (hs : sortedK st.objs = true) (hu : ∀ x ∈ e1.upd, ∀ z ∈ e2.upd, z.1 ≠ x.1)
    (h1 : ∀ z ∈ e2.kill, killS z.1 z.2 e1.av = e1.av) (h2 : ∀ z ∈ e1.kill, killS z.1 z.2 e2.av = e2.av) : (st.apply d e1).apply f e2 = (st.apply f e2).apply d e1 := by
  refine St.ext' ?_ ?_
  · rw [apply_env, apply_env, apply_env, apply_env, kills_setO h1, kills_setO h2, kills_comm, setO_comm h]
  · rw [apply_objs, apply_objs, apply_objs, apply_objs]
    exact upds_comm hs hu
end
end Go.AE
namespace Go.AE
theorem opnds_mem : ∀ {l : List Operand} {n : Nat}, n ∈ opndsOf l ↔ Operand.tmp n ∈ l
  | [], n => by simp [opndsOf]
  | .tmp t :: l, n => by simp [opndsOf, opnds_mem (l := l)]
  | .const _ :: l, n => by simp [opndsOf, opnds_mem (l := l)]
  | .global _ :: l, n => by simp [opndsOf, opnds_mem (l := l)]
  | .func _ :: l, n => by simp [opndsOf, opnds_mem (l := l)]
theorem get_kills {v : SV} {n : Nat} : ∀ {l : List (Nat × KK)} {env : List SV}, getSlot env n = v → (∀ x ∈ l, killS x.1 x.2 v = v) → getSlot (kills l env) n = v
  | [], env, h, _ => h
  | (r, k) :: l, env, h, hv => by
    simp only [kills]
    refine get_kills ?_ fun x hx => hv x (by simp [hx])
    rw [getSlot_kill, h]
    exact hv (r, k) (by simp)
theorem kills_back {v : SV} {n : Nat} (hv : isDeadSV v = false) : ∀ {l : List (Nat × KK)} {env : List SV}, getSlot (kills l env) n = v → getSlot env n = v
  | [], env, h => h
  | (r, k) :: l, env, h => by
    simp only [kills] at h
    have h := kills_back hv h
    rw [getSlot_kill] at h
    rcases killS_or (r := r) (k := k) (v := getSlot env n) with e | e
    · rw [e] at h; exact h
    · rw [e] at h; subst h; cases hv
theorem noDead_mem {env : List SV} : ∀ {l : List Tmp}, noDead (getSlots env l) = true → ∀ n ∈ l, isDeadSV (getSlot env n) = false
  | t :: l, h, n, hn => by
    simp only [getSlots, noDead, Bool.and_eq_true, Bool.not_eq_true'] at h
    cases hn with
    | head => exact h.1
    | tail _ hn => exact noDead_mem h.2 n hn
theorem getSlots_eq {env env' : List SV} : ∀ {l : List Tmp}, (∀ n ∈ l, getSlot env' n = getSlot env n) → getSlots env' l = getSlots env l
  | [], _ => rfl
  | t :: l, h => by simp only [getSlots]; rw [h t (by simp), getSlots_eq fun n hn => h n (by simp [hn])]
theorem offV_mem {e : Eff} {mem : Bool} {env : List SV} : ∀ {l : List Tmp}, offV e mem (getSlots env l) = true → ∀ n ∈ l, (∀ z ∈ e.kill, killS z.1 z.2 (getSlot env n) = getSlot env n) ∧ (mem = true → ∀ r ∈ refsSV (getSlot env n), ∀ z ∈ e.upd, z.1 ≠ r)
  | t :: l, h, n, hn => by
    simp only [getSlots, offV, Bool.and_eq_true, Bool.not_eq_true'] at h
    cases hn with
    | head =>
      refine ⟨hitsK_mem h.1.1, fun hm r hr z hz q => ?_⟩
      have := h.1.2
      rw [hm, cond_true] at this
      exact keysU_mem this z hz (q ▸ hr)
    | tail _ hn => exact offV_mem h.2 n hn
theorem offU_mem {e : Eff} {mem : Bool} {env : List SV} (hm : mem = true) : ∀ {l : List Tmp}, offU e mem (getSlots env l) = true → ∀ n ∈ l, ∀ r ∈ refsSV (getSlot env n), ∀ z ∈ e.upd, z.1 ≠ r
  | t :: l, h, n, hn => by
    simp only [getSlots, offU, Bool.and_eq_true] at h
    cases hn with
    | head =>
      intro r hr z hz q
      have := h.1
      rw [hm, cond_true] at this
      exact keysU_mem this z hz (q ▸ hr)
    | tail _ hn => exact offU_mem hm h.2 n hn
theorem chkAll_iff {m : Nat} {mem : Bool} {vals : List SV} {e : Eff} : ∀ {L : List LogE}, chkAll m mem vals e L = true ↔ ∀ x ∈ L, m.testBit x.i = true ∨ commB x mem vals e = true
  | [] => by simp [chkAll]
  | x :: L => by
    simp only [chkAll, Bool.and_eq_true, Bool.or_eq_true, List.mem_cons, forall_eq_or_imp]
    rw [chkAll_iff]
theorem chkL_sub {fr : Bool} {m : Nat} {mem : Bool} {vals : List SV} {e : Eff} {L L' : List LogE} (hs : ∀ x ∈ L', x ∈ L) (h : chkL fr m L mem vals e = true) : chkL fr m L' mem vals e = true := by
  unfold chkL at h ⊢
  cases fr with
  | false => rfl
  | true =>
    simp only [cond_true, Bool.and_eq_true] at h ⊢
    exact ⟨h.1, chkAll_iff.2 fun x hx => chkAll_iff.1 h.2 x (hs x hx)⟩
section
variable {g : Cfg} {R : Type} {st st' : St} {o : Oper} {y : R} {all : List Oper}
def Want (all : List Oper) (st : St) (o : Oper) (b : Bool) : Prop :=
  match o.guard with
  | none => b = true
  | some (i, pol) => ∃ c sv, dstOf all i = some c ∧ getSlot st.env c = sv ∧ ((∃ v, sv = .one (.pv .bool v) ∧ b = (v == pol)) ∨ (sv = .tup [] ∧ b = false))
def Stays (sv : SV) : Prop := (∃ v, sv = .one (.pv .bool v)) ∨ sv = .tup []
theorem Want.at {b : Bool} (h : Want all st o b) (hs : ∀ c sv, c ∈ looksB all o → Stays sv → getSlot st.env c = sv → getSlot st'.env c = sv) : Want all st' o b := by
  unfold Want at h ⊢
  split at h
  · exact h
  · rename_i i pol hg
    obtain ⟨c, sv, h1, h2, h3⟩ := h
    refine ⟨c, sv, h1, hs c sv (by simp [looksB, hg, h1]) ?_ h2, h3⟩
    rcases h3 with ⟨v, h3, _⟩ | ⟨h3, _⟩
    · exact .inl ⟨v, h3⟩
    · exact .inr h3
theorem stB_id {c : Nat} {b : Bool} (h : getSlot st.env c = .one (.pv .bool b)) : stB st c b = st := by
  unfold stB
  rw [set_self h]
noncomputable def runK (g : Cfg) (all : List Oper) (st : St) (j m : Nat) (fr : Bool) (o : Oper) (l : List DIt) (L : List LogE) (k : St → Option R) : Eff → Option R :=
  fun e => bif chkL fr m L (needsMem o) (valsOf st o) e then evalDraw g all l ({ i := j, mem := needsMem o, vals := valsOf st o, e := e } :: L) (st.apply o.dst e) k else none
theorem draw_cons {j m : Nat} {fr : Bool} {l : List DIt} {L : List LogE} {k : St → Option R} (h : evalDraw g all ((j, m, fr, o) :: l) L st k = some y) :
    ∃ b, Want all st o b ∧ (b = true → opSem g st o (runK g all st j m fr o l L k) = some y) ∧ (b = false → evalDraw g all l L (stSkip st o.dst) k = some y) := by
  simp only [evalDraw] at h
  split at h
  · rename_i hg
    exact ⟨true, by simp [Want, hg], fun _ => h, fun e => (by cases e)⟩
  · rename_i i pol hg
    split at h
    · cases h
    · rename_i c hc
      split at h
      · rename_i b hb
        rcases ifB_eq h with ⟨e, h⟩ | ⟨e, h⟩ <;> subst e <;> rw [stB_id hb] at h <;> cases pol
        · exact ⟨false, by simp only [Want, hg]; exact ⟨c, _, hc, hb, .inl ⟨_, rfl, rfl⟩⟩, fun e => (by cases e), fun _ => h⟩
        · exact ⟨true, by simp only [Want, hg]; exact ⟨c, _, hc, hb, .inl ⟨_, rfl, rfl⟩⟩, fun _ => h, fun e => (by cases e)⟩
        · exact ⟨true, by simp only [Want, hg]; exact ⟨c, _, hc, hb, .inl ⟨_, rfl, rfl⟩⟩, fun _ => h, fun e => (by cases e)⟩
        · exact ⟨false, by simp only [Want, hg]; exact ⟨c, _, hc, hb, .inl ⟨_, rfl, rfl⟩⟩, fun e => (by cases e), fun _ => h⟩
      · rename_i hb
        exact ⟨false, by unfold Want; simp only [hg]; exact ⟨c, .tup [], hc, hb, Or.inr (by simp)⟩, fun e => (by cases e), fun _ => h⟩
      · cases h
theorem cons_draw {j m : Nat} {fr : Bool} {l : List DIt} {L : List LogE} {k : St → Option R} {b : Bool} (hw : Want all st o b)
    (h1 : b = true → opSem g st o (runK g all st j m fr o l L k) = some y) (h2 : b = false → evalDraw g all l L (stSkip st o.dst) k = some y) : evalDraw g all ((j, m, fr, o) :: l) L st k = some y := by
  unfold Want at hw
  simp only [evalDraw]
  split at hw
  · rename_i hg
    simp only [hg]
    exact h1 hw
  · rename_i i pol hg
    obtain ⟨c, sv, e1, e2, ⟨v, e4, e3⟩ | ⟨e4, e3⟩⟩ := hw
    case inr => subst e4 e3; simp only [hg, e1, e2]; exact h2 rfl
    subst e4
    simp only [hg, e1, e2]
    cases v <;> cases pol <;> subst e3
    · exact (show opSem g (stB st c false) o (runK g all (stB st c false) j m fr o l L k) = some y by rw [stB_id e2]; exact h1 rfl)
    · exact (show evalDraw g all l L (stSkip (stB st c false) o.dst) k = some y by rw [stB_id e2]; exact h2 rfl)
    · exact (show evalDraw g all l L (stSkip (stB st c true) o.dst) k = some y by rw [stB_id e2]; exact h2 rfl)
    · exact (show opSem g (stB st c true) o (runK g all (stB st c true) j m fr o l L k) = some y by rw [stB_id e2]; exact h1 rfl)
theorem cond_chk {c : Bool} {m : Option R} (h : (bif c then m else none) = some y) : c = true ∧ m = some y := cond_some h
theorem draw_sub (hD : ConsDet g) {k : St → Option R} : ∀ (l : List DIt) (L L' : List LogE) (st : St), (∀ x ∈ L', x ∈ L) → evalDraw g all l L st k = some y → evalDraw g all l L' st k = some y
  | [], L, L', st, hs, h => h
  | (j, m, fr, o) :: l, L, L', st, hs, h => by
    obtain ⟨b, hw, h1, h2⟩ := draw_cons h
    refine cons_draw hw (fun hb => opSem_mono hD (h1 hb) fun e he => ?_) fun hb => draw_sub hD l L L' _ hs (h2 hb)
    obtain ⟨c, he⟩ := cond_chk he
    show (bif _ then _ else none) = some y
    rw [chkL_sub hs c, cond_true]
    exact draw_sub hD l _ _ _ (fun x hx => by
      cases hx with
      | head => simp
      | tail _ hx => exact List.mem_cons_of_mem _ (hs x hx)) he
def Free (all : List Oper) (i : Nat) (x : Oper) (m : Nat) (fr : Bool) (o : Oper) : Prop :=
  m.testBit i = false ∧ fr = true ∧ apartB all x o = true ∧ isNilBin x = false
theorem apart_eq {x : Oper} (h : apartB all x o = true) : (∀ d, x.dst = some d → d ∉ looksB all o) ∧ (∀ d, o.dst = some d → d ∉ looksB all x) ∧ (∀ d, x.dst = some d → o.dst ≠ some d) := by
  simp only [apartB, Bool.and_eq_true, Bool.not_eq_true'] at h
  obtain ⟨⟨h1, h2⟩, h3⟩ := h
  refine ⟨fun d hd => ?_, fun d hd => ?_, fun d hd e => ?_⟩
  · simp only [isDst, hd] at h1; exact memNat_false.1 h1
  · simp only [isDst, hd] at h2; exact memNat_false.1 h2
  · rw [hd, e] at h3; simp at h3
theorem ob_apply {d : Option Tmp} {e : Eff} {r : Nat} (h : ∀ x ∈ e.upd, x.1 ≠ r) : (st.apply d e).ob r = st.ob r := by
  show look (st.apply d e).objs r = _
  rw [apply_objs]; exact look_upds_other _ _ _ h
theorem slot_apply {d : Option Tmp} {e : Eff} {n : Nat} (h : d ≠ some n) (hk : ∀ x ∈ e.kill, killS x.1 x.2 (getSlot st.env n) = getSlot st.env n) : getSlot (st.apply d e).env n = getSlot st.env n := by
  rw [apply_env, get_setO h]; exact get_kills rfl hk
theorem slot_back {d : Option Tmp} {e : Eff} {n : Nat} {v : SV} (h : d ≠ some n) (hv : isDeadSV v = false) (hn : getSlot (st.apply d e).env n = v) : getSlot st.env n = v := by
  rw [apply_env, get_setO h] at hn; exact kills_back hv hn
theorem slot_skip {d : Option Tmp} {n : Nat} (h : d ≠ some n) : getSlot (stSkip st d).env n = getSlot st.env n := by
  rw [skip_env, get_setO h]
theorem ob_skip {d : Option Tmp} {r : Nat} : (stSkip st d).ob r = st.ob r := by
  show look (stSkip st d).objs r = _
  rw [skip_objs]; rfl
theorem bool_kill {c : Nat} {sv : SV} (hs : Stays sv) (h : getSlot st.env c = sv) {l : List (Nat × KK)} : ∀ x ∈ l, killS x.1 x.2 (getSlot st.env c) = getSlot st.env c := fun x hx => by
  rw [h]
  rcases hs with ⟨v, e⟩ | e <;> subst e <;> rfl
theorem stays_dead {sv : SV} (hs : Stays sv) : isDeadSV sv = false := by
  rcases hs with ⟨v, e⟩ | e <;> subst e <;> rfl
theorem vals_eq (h : ∀ n, .tmp n ∈ opOpnds o.op → getSlot st'.env n = getSlot st.env n) : valsOf st' o = valsOf st o :=
  getSlots_eq fun n hn => h n (opnds_mem.1 hn)
theorem bubble (hD : ConsDet g) {j m : Nat} {fr : Bool} {l2 : List DIt} {k : St → Option R} : ∀ (l1 : List DIt) (L : List LogE) (st : St), sortedK st.objs = true → (∀ i ∈ l1, Free all i.1 i.2.2.2 m fr o) →
    evalDraw g all (l1 ++ (j, m, fr, o) :: l2) L st k = some y →
    ∃ b, Want all st o b ∧
      (b = true → ∃ Kj : Eff → Option R, opSem g st o Kj = some y ∧ ∀ e, Kj e = some y → chkL fr m L (needsMem o) (valsOf st o) e = true ∧ evalDraw g all (l1 ++ l2) L (st.apply o.dst e) k = some y) ∧
      (b = false → evalDraw g all (l1 ++ l2) L (stSkip st o.dst) k = some y) := by
  intro l1
  induction l1 with
  | nil =>
    intro L st hs hF h
    obtain ⟨b, h1, h2, h3⟩ := draw_cons h
    refine ⟨b, h1, fun hb => ⟨_, h2 hb, fun e he => ⟨(cond_chk he).1, ?_⟩⟩, h3⟩
    exact draw_sub hD l2 _ _ _ (fun x hx => List.mem_cons_of_mem _ hx) (cond_chk he).2
  | cons i l1 ih =>
    intro L st hs hF h
    obtain ⟨ji, mi, fri, x⟩ := i
    have hF1 : ∀ i ∈ l1, Free all i.1 i.2.2.2 m fr o := fun i hi => hF i (by simp [hi])
    obtain ⟨hbit, hfr, hap, hnil⟩ := hF (ji, mi, fri, x) (by simp)
    simp only at hbit hap hnil
    obtain ⟨ap1, ap2, ap3⟩ := apart_eq hap
    have hop : ∀ n, Operand.tmp n ∈ opOpnds o.op → x.dst ≠ some n := fun n hn e => ap1 n e (by simp only [looksB, List.mem_append]; exact .inr (opnds_mem.2 hn))
    have hop' : ∀ n, Operand.tmp n ∈ opOpnds x.op → o.dst ≠ some n := fun n hn e => ap2 n e (by simp only [looksB, List.mem_append]; exact .inr (opnds_mem.2 hn))
    have ap3' : ∀ d, o.dst = some d → x.dst ≠ some d := fun d hd e => ap3 d e hd
    obtain ⟨bi, hw, hrun, hskip⟩ := draw_cons h
    have wx : ∀ {e : Eff}, Want all (st.apply o.dst e) x bi := fun {e} => hw.at fun c v hc hsv hv => by
      rw [slot_apply (fun q => ap2 c q hc) (bool_kill hsv hv)]; exact hv
    have wxs : Want all (stSkip st o.dst) x bi := hw.at fun c v hc hsv hv => by
      rw [slot_skip (fun q => ap2 c q hc)]; exact hv
    cases bi with
    | false =>
      have h1 := hskip rfl
      obtain ⟨b, g1, g2, g3⟩ := ih L _ (by rw [skip_objs]; exact hs) hF1 h1
      have hsl : ∀ n, .tmp n ∈ opOpnds o.op → getSlot (stSkip st x.dst).env n = getSlot st.env n := fun n hn => slot_skip (hop n hn)
      refine ⟨b, g1.at fun c v hc hsv hv => ?_, fun hb => ?_, fun hb => ?_⟩
      · rwa [slot_skip (fun q => ap1 c q hc)] at hv
      · obtain ⟨Kj, k1, k2⟩ := g2 hb
        refine ⟨Kj, ?_, fun e he => ?_⟩
        · rw [← opSem_ag (st' := stSkip st x.dst) hsl (fun n hn r hr => ob_skip)]; exact k1
        · obtain ⟨c1, c2⟩ := k2 e he
          rw [vals_eq hsl] at c1
          refine ⟨c1, ?_⟩
          rw [List.cons_append]; refine cons_draw wx (fun q => by cases q) fun _ => ?_
          rw [← skip_apply ap3]; exact c2
      · rw [List.cons_append]; refine cons_draw wxs (fun q => by cases q) fun _ => ?_
        rw [← skip_skip ap3]; exact g3 hb
    | true =>
      have h1 := hrun rfl
      obtain ⟨ex, q1, q3⟩ := det_op hD hnil h1
      obtain ⟨q4, q5⟩ := cond_chk q1
      obtain ⟨b, g1, g2, g3⟩ := ih _ _ (by rw [apply_objs]; exact sorted_upds hs) hF1 q5
      refine ⟨b, g1.at fun c v hc hsv hv => slot_back (fun q => ap1 c q hc) (stays_dead hsv) hv, fun hb => ?_, fun hb => ?_⟩
      · obtain ⟨Kj, k1, k2⟩ := g2 hb
        have split : ∀ e, Kj e = some y → noDead (valsOf (st.apply x.dst ex) o) = true ∧ chkAll m (needsMem o) (valsOf (st.apply x.dst ex) o) e L = true ∧
            commB { i := ji, mem := needsMem x, vals := valsOf st x, e := ex } (needsMem o) (valsOf (st.apply x.dst ex) o) e = true := fun e he => by
          have c1 := (k2 e he).1
          unfold chkL at c1
          rw [hfr, cond_true, Bool.and_eq_true] at c1
          refine ⟨c1.1, chkAll_iff.2 fun z hz => chkAll_iff.1 c1.2 z (List.mem_cons_of_mem _ hz), ?_⟩
          rcases chkAll_iff.1 c1.2 _ (List.mem_cons_self ..) with z | z
          · simp only at z; rw [hbit] at z; cases z
          · exact z
        obtain ⟨e0, he0⟩ := opSem_ex hD k1
        obtain ⟨nd, _, cm0⟩ := split e0 he0
        have hsl : ∀ n, .tmp n ∈ opOpnds o.op → getSlot (st.apply x.dst ex).env n = getSlot st.env n := fun n hn =>
          (slot_back (hop n hn) (noDead_mem nd n (opnds_mem.2 hn)) rfl).symm
        have hval : valsOf (st.apply x.dst ex) o = valsOf st o := vals_eq hsl
        have hEq : ∀ kk : Eff → Option R, opSem g (st.apply x.dst ex) o kk = opSem g st o kk := fun kk => by
          cases hm : needsMem o with
          | false => exact opSem_agN hm hsl
          | true =>
            refine opSem_ag hsl fun n hn r hr => ob_apply fun z hz => ?_
            simp only [commB, Bool.and_eq_true] at cm0
            have h5 := cm0.2
            rw [hval, hm] at h5
            exact offU_mem rfl h5 n (opnds_mem.2 hn) r hr z hz
        refine ⟨Kj, by rw [← hEq]; exact k1, fun e he => ?_⟩
        obtain ⟨_, c1, cm⟩ := split e he
        have c2 := (k2 e he).2
        refine ⟨?_, ?_⟩
        · unfold chkL
          rw [hfr, cond_true, Bool.and_eq_true, ← hval]
          exact ⟨nd, c1⟩
        · simp only [commB, Bool.and_eq_true, Bool.not_eq_true'] at cm
          obtain ⟨⟨⟨⟨m1, m2⟩, m3⟩, m4⟩, m5⟩ := cm
          have hsx : ∀ n, .tmp n ∈ opOpnds x.op → getSlot (st.apply o.dst e).env n = getSlot st.env n := fun n hn =>
            slot_apply (hop' n hn) ((offV_mem m4 n (opnds_mem.2 hn)).1)
          have hEx : ∀ kk : Eff → Option R, opSem g (st.apply o.dst e) x kk = opSem g st x kk := fun kk => by
            cases hm : needsMem x with
            | false => exact opSem_agN hm hsx
            | true => exact opSem_ag hsx fun n hn r hr => ob_apply fun z hz => (offV_mem m4 n (opnds_mem.2 hn)).2 hm r hr z hz
          rw [List.cons_append]; refine cons_draw wx (fun _ => ?_) fun q => by cases q
          rw [hEx, q3]
          show (bif chkL fri mi L (needsMem x) (valsOf (st.apply o.dst e) x) ex then evalDraw g all (l1 ++ l2) ({ i := ji, mem := needsMem x, vals := valsOf (st.apply o.dst e) x, e := ex } :: L) ((st.apply o.dst e).apply x.dst ex) k else none) = some y
          rw [vals_eq hsx, q4, cond_true, ← apply_comm ap3 hs (fun a ha z hz q => keysU_mem m1 z hz (q ▸ keysOf_mem ha)) (hitsK_mem m2) (hitsK_mem m3)]
          exact c2
      · rw [List.cons_append]; refine cons_draw wxs (fun _ => ?_) fun q => by cases q
        have hsx : ∀ n, .tmp n ∈ opOpnds x.op → getSlot (stSkip st o.dst).env n = getSlot st.env n := fun n hn => slot_skip (hop' n hn)
        have hEx : ∀ kk : Eff → Option R, opSem g (stSkip st o.dst) x kk = opSem g st x kk := fun kk => opSem_ag hsx fun n hn r hr => ob_skip
        rw [hEx, q3]
        show (bif chkL fri mi L (needsMem x) (valsOf (stSkip st o.dst) x) ex then evalDraw g all (l1 ++ l2) ({ i := ji, mem := needsMem x, vals := valsOf (stSkip st o.dst) x, e := ex } :: L) ((stSkip st o.dst).apply x.dst ex) k else none) = some y
        rw [vals_eq hsx, q4, cond_true, skip_apply ap3']
        exact g3 hb
end
end Go.AE
namespace Go.AE
inductive Reach (all : List Oper) : Nat → Nat → Prop where
  | one {i x : Nat} {o : Oper} : all[x]? = some o → i ∈ predsIn o.after.toList → Reach all i x
  | step {i p x : Nat} {o : Oper} : all[x]? = some o → p ∈ predsIn o.after.toList → Reach all i p → Reach all i x
theorem preds_mem {p : Nat} (l : List Edge) : p ∈ predsIn l ↔ ∃ e ∈ l, Region.binds .any e = true ∧ e.on = p := by
  induction l with
  | nil => simp [predsIn]
  | cons e l ih =>
    have yes : Region.binds .any e = true → predsIn (e :: l) = e.on :: predsIn l → (p ∈ predsIn (e :: l) ↔ ∃ x ∈ e :: l, Region.binds .any x = true ∧ x.on = p) := by
      intro h1 h2
      rw [h2, List.mem_cons, ih]
      constructor
      · rintro (h | ⟨x, hx, h⟩)
        · exact ⟨e, by simp, h1, h.symm⟩
        · exact ⟨x, by simp [hx], h⟩
      · rintro ⟨x, hx, h3, h4⟩
        cases hx with
        | head => exact .inl h4.symm
        | tail _ hx => exact .inr ⟨x, hx, h3, h4⟩
    have no : Region.binds .any e = false → predsIn (e :: l) = predsIn l → (p ∈ predsIn (e :: l) ↔ ∃ x ∈ e :: l, Region.binds .any x = true ∧ x.on = p) := by
      intro h1 h2
      rw [h2, ih]
      constructor
      · rintro ⟨x, hx, h⟩
        exact ⟨x, by simp [hx], h⟩
      · rintro ⟨x, hx, h3, h4⟩
        cases hx with
        | head => rw [h1] at h3; cases h3
        | tail _ hx => exact ⟨x, hx, h3, h4⟩
    cases hg : e.ground with
    | textOnly r => exact no (by unfold Region.binds; rw [hg]; rfl) (by simp only [predsIn, hg])
    | gcOnly r => exact no (by unfold Region.binds; rw [hg]; rfl) (by simp only [predsIn, hg])
    | data => exact yes (by unfold Region.binds; rw [hg]) (by simp only [predsIn, hg])
    | chain => exact yes (by unfold Region.binds; rw [hg]) (by simp only [predsIn, hg])
    | guard => exact yes (by unfold Region.binds; rw [hg]) (by simp only [predsIn, hg])
    | phase => exact yes (by unfold Region.binds; rw [hg]) (by simp only [predsIn, hg])
theorem doneHas_iff : ∀ {l : List (Nat × Oper)} {j : Nat}, doneHas l j = true ↔ ∃ x ∈ l, x.1 = j
  | [], j => by simp [doneHas]
  | (i, o) :: l, j => by
    simp only [doneHas, Bool.or_eq_true, nbeq_true, List.mem_cons, exists_eq_or_imp]
    rw [doneHas_iff]
theorem allDone_mem {done : List (Nat × Oper)} : ∀ {l : List Nat}, allDone done l = true → ∀ p ∈ l, ∃ x ∈ done, x.1 = p
  | q :: l, h, p, hp => by
    simp only [allDone, Bool.and_eq_true] at h
    cases hp with
    | head => exact doneHas_iff.1 h.1
    | tail _ hp => exact allDone_mem h.2 p hp
theorem cloMask_bit {all : List Oper} {acc : List (Nat × Nat)} (hacc : ∀ j m, look acc j = some m → ∀ i, m.testBit i = true → Reach all i j) : ∀ {ps : List Nat} {i : Nat}, (cloMask acc ps).testBit i = true → i ∈ ps ∨ ∃ p ∈ ps, Reach all i p
  | [], i, h => by simp [cloMask] at h
  | p :: ps, i, h => by
    simp only [cloMask, Nat.testBit_or, Bool.or_eq_true] at h
    rcases h with h | h | h
    · left
      rw [Nat.testBit_shiftLeft] at h
      simp only [Bool.and_eq_true, decide_eq_true_eq, Nat.testBit_one_eq_true_iff_self_eq_zero] at h
      have : i = p := by omega
      simp [this]
    · right
      split at h
      · rename_i m hm; exact ⟨p, by simp, hacc p m hm i h⟩
      · simp at h
    · rcases cloMask_bit hacc h with z | ⟨q, hq, z⟩
      · exact .inl (by simp [z])
      · exact .inr ⟨q, by simp [hq], z⟩
theorem okWith_mem {all : List Oper} {m : Nat} {o : Oper} (l : List (Nat × Oper)) (h : okWith all m o l = true) : ∀ x ∈ l, m.testBit x.1 = true ∨ (apartB all x.2 o = true ∧ isNilBin x.2 = false) := by
  induction l with
  | nil => intro x hx; cases hx
  | cons z l ih =>
    obtain ⟨i, z⟩ := z
    intro x hx
    simp only [okWith, Bool.and_eq_true, Bool.or_eq_true, Bool.not_eq_true'] at h
    cases hx with
    | head => exact h.1
    | tail _ hx => exact ih h.2 x hx
theorem free_any {m : Nat} {x : Nat × Oper} (h : m.testBit x.1 = false) (l : List (Nat × Oper)) (hx : x ∈ l) : anyFree m l = true := by
  induction l with
  | nil => cases hx
  | cons z l ih =>
    obtain ⟨i, z⟩ := z
    simp only [anyFree, Bool.or_eq_true, Bool.not_eq_true']
    cases hx with
    | head => exact .inl h
    | tail _ hx => exact .inr (ih hx)
def Ahead (all : List Oper) (i : Nat) (oi : Oper) (x : DIt) : Prop :=
  (Reach all i x.1 ∨ Free all i oi x.2.1 x.2.2.1 x.2.2.2) ∧ i ≠ x.1 ∧ x.1 ∉ predsIn oi.after.toList
theorem plan_ok {all : List Oper} : ∀ {ord : List Nat} {done : List (Nat × Oper)} {acc : List (Nat × Nat)} {l : List DIt}, drawPlan all ord done acc = some l →
    (∀ j m, look acc j = some m → ∀ i, m.testBit i = true → Reach all i j) → (∀ x ∈ done, all[x.1]? = some x.2) → (∀ x ∈ done, ∀ p ∈ predsIn x.2.after.toList, ∃ z ∈ done, z.1 = p) →
    l.map (·.1) = ord ∧ (∀ x ∈ l, all[x.1]? = some x.2.2.2 ∧ x.1 ∉ predsIn x.2.2.2.after.toList ∧ (∀ p ∈ predsIn x.2.2.2.after.toList, p < all.length)) ∧
      l.Pairwise (fun i x => Ahead all i.1 i.2.2.2 x) ∧ ∀ x ∈ l, ∀ z ∈ done, Ahead all z.1 z.2 x
  | [], done, acc, l, h, h1, h2, h3 => by
    simp only [drawPlan, Option.some.injEq] at h
    subst h
    exact ⟨rfl, fun _ h => (by cases h), List.Pairwise.nil, fun _ h => (by cases h)⟩
  | j :: rest, done, acc, l, h, h1, h2, h3 => by
    simp only [drawPlan] at h
    split at h
    · cases h
    · rename_i o ho
      rw [opers_get] at ho
      obtain ⟨hc, h⟩ := cond_some h
      simp only [Bool.and_eq_true, Bool.not_eq_true'] at hc
      obtain ⟨⟨hp, hnj⟩, hok⟩ := hc
      split at h
      · rename_i l' hl'
        simp only [Option.some.injEq] at h
        have hp := allDone_mem hp
        have hnj : ∀ x ∈ done, x.1 ≠ j := fun x hx e => by
          have := doneHas_iff.2 ⟨x, hx, e⟩
          rw [hnj] at this; cases this
        have hreach : ∀ i, (cloMask acc (predsIn o.after.toList)).testBit i = true → Reach all i j := fun i hi => by
          rcases cloMask_bit h1 hi with z | ⟨p, hp, z⟩
          · exact .one ho z
          · exact .step ho hp z
        obtain ⟨k1, k2, k3, k4⟩ := plan_ok hl' (fun j' m hm i hi => by
            simp only [look] at hm
            cases hb : Nat.beq j j' with
            | true =>
              rw [hb] at hm
              simp only [cond_true, Option.some.injEq] at hm
              subst hm
              rw [← nbeq_true.1 hb]; exact hreach i hi
            | false => rw [hb] at hm; exact h1 j' m hm i hi)
          (fun x hx => by
            cases hx with
            | head => exact ho
            | tail _ hx => exact h2 x hx)
          (fun x hx p hpx => by
            cases hx with
            | head => obtain ⟨z, hz, e⟩ := hp p hpx; exact ⟨z, by simp [hz], e⟩
            | tail _ hx => obtain ⟨z, hz, e⟩ := h3 x hx p hpx; exact ⟨z, by simp [hz], e⟩)
        subst h
        refine ⟨by simp only [List.map_cons, k1], ?_, ?_, ?_⟩
        · intro x hx
          cases hx with
          | head =>
            refine ⟨ho, fun hj => ?_, fun p hpx => ?_⟩
            · obtain ⟨z, hz, e⟩ := hp j hj; exact hnj z hz e
            · obtain ⟨z, hz, e⟩ := hp p hpx
              have := h2 z hz
              rw [e] at this
              exact (List.getElem?_eq_some_iff.1 this).1
          | tail _ hx => exact k2 x hx
        · refine List.Pairwise.cons (fun x hx => ?_) k3
          exact k4 x hx (j, o) (by simp)
        · intro x hx z hz
          cases hx with
          | head =>
            refine ⟨?_, hnj z hz, fun hj => ?_⟩
            · cases hb : (cloMask acc (predsIn o.after.toList)).testBit z.1 with
              | true => exact .inl (hreach _ hb)
              | false =>
                right
                rcases okWith_mem _ hok z hz with q | ⟨q1, q2⟩
                · rw [hb] at q; cases q
                · exact ⟨hb, free_any hb _ hz, q1, q2⟩
            · obtain ⟨u, hu, e⟩ := h3 z hz j hj
              exact hnj u hu e
          | tail _ hx => exact k4 x hx z (by simp [hz])
      · cases h
structure Far (all : List Oper) (rem : List DIt) (listed : Array Bool) : Prop where
  size : listed.size = all.length
  lst : ∀ i, i < all.length → (listed.getD i true = true ↔ ∀ x ∈ rem, x.1 ≠ i)
  mem : ∀ x ∈ rem, all[x.1]? = some x.2.2.2 ∧ x.1 ∉ predsIn x.2.2.2.after.toList ∧ (∀ p ∈ predsIn x.2.2.2.after.toList, p < all.length)
  pw : rem.Pairwise (fun i x => Ahead all i.1 i.2.2.2 x)
  down : ∀ i o, all[i]? = some o → (∀ x ∈ rem, x.1 ≠ i) → ∀ p ∈ predsIn o.after.toList, ∀ x ∈ rem, x.1 ≠ p
theorem reach_out {all : List Oper} {rem : List DIt} {listed : Array Bool} (F : Far all rem listed) {i x : Nat} (h : Reach all i x) : (∀ o, all[x]? = some o → ∀ p ∈ predsIn o.after.toList, ∀ z ∈ rem, z.1 ≠ p) → ∀ z ∈ rem, z.1 ≠ i := by
  induction h with
  | one hx hi => intro hp; exact hp _ hx _ hi
  | step hx hp' _ ih => intro hp; exact ih fun o ho => F.down _ o ho (hp _ hx _ hp')
theorem getD_lt {l : Array Bool} {i : Nat} (h : i < l.size) : l.getD i false = l.getD i true := by
  simp [Array.getD, h]
section
variable {P : Program} {tb : Hp} {C : Ctx tb} {Z : Sup} {st : St} {a : Act} {w w' : World} {g : Cfg} {o : Oper} {R : Type} {y : R}
theorem want_ok (Rl : Rel Z st a.tmps w) {all : List Oper} {b : Bool} (h : Want all st o b) : Region.wanted o (yielded all.toArray a.tmps) = b := by
  unfold Want at h
  split at h
  · rename_i hg; rw [h]; exact wanted_none hg _
  · rename_i i pol hg
    obtain ⟨c, sv, h1, h2, ⟨v, h4, h3⟩ | ⟨h4, h3⟩⟩ := h
    · subst h4
      rw [wanted_some hg, yielded_eq h1, getD_some (slot_bool Rl h2), h3]
      cases v <;> cases pol <;> rfl
    · subst h4 h3
      rw [wanted_some hg, yielded_eq h1]
      obtain ⟨vs, e, al⟩ : RelSV Z st.ob (.tup []) (a.tmps.getD c undef) := h2 ▸ Rl.env c
      have ev : vs = [] := by cases vs with | nil => rfl | cons _ _ => exact al.elim
      subst ev
      cases ho : a.tmps[c]? with
      | none => cases pol <;> rfl
      | some u =>
        have : a.tmps.getD c undef = u := by simp [Array.getD_eq_getD_getElem?, ho]
        rw [this] at e
        subst e
        cases pol <;> rfl
theorem any_ok (hg : tableOk P g.ty = true) (hc : ConsOk P tb g.con) {all : List Oper} {k : St → Option R} {Q : Exit → Act → World → Prop}
    (hQ : ∀ st' a' w' Z', k st' = some y → a'.defers = [] → Rel Z' st' a'.tmps w' → Fr C Z' w' → Q .normal a' w') :
    ∀ (n : Nat) (rem : List DIt) (listed : Array Bool) (st : St) (a : Act) (w : World) (Z : Sup) (L : List LogE), rem.length = n → Far all rem listed → a.defers = [] → Rel Z st a.tmps w → Fr C Z w → sortedK st.objs = true →
      evalDraw g all rem L st k = some y → wpAny P .any all.toArray Q n listed a w := by
  intro n
  induction n with
  | zero =>
    intro rem listed st a w Z L hn Fa hd Rl F hs h
    have hr : rem = [] := List.eq_nil_of_length_eq_zero hn
    subst hr
    refine ⟨?_, hQ st a w Z h hd Rl F⟩
    unfold Region.ready
    rw [List.filter_eq_nil_iff]
    intro i hi
    have hi : i < all.length := by simpa using hi
    have := (Fa.lst i hi).2 (by simp)
    rw [this]; simp
  | succ n ih =>
    intro rem listed st a w Z L hn Fa hd Rl F hs h
    have hlst : ∀ p, p < all.length → (∀ x ∈ rem, x.1 ≠ p) → listed.getD p false = true := fun p hp hx => by
      rw [getD_lt (by rw [Fa.size]; exact hp)]; exact (Fa.lst p hp).2 hx
    constructor
    · intro hr
      exfalso
      cases rem with
      | nil => cases hn
      | cons x rem =>
        obtain ⟨e1, e2, e3⟩ := Fa.mem x (by simp)
        have hx : x.1 < all.length := (List.getElem?_eq_some_iff.1 e1).1
        have : x.1 ∈ Region.ready .any all.toArray listed := by
          unfold Region.ready
          rw [List.mem_filter]
          refine ⟨by simpa using hx, ?_⟩
          have hl : listed.getD x.1 true = false := by
            cases hb : listed.getD x.1 true with
            | false => rfl
            | true => exact absurd rfl ((Fa.lst x.1 hx).1 hb x (by simp))
          rw [hl]
          simp only [List.getElem?_toArray, e1, Option.map_some, Option.getD_some, Bool.not_false, Bool.true_and]
          rw [Array.all_eq_true_iff_forall_mem]
          intro e he
          cases hb : Region.binds .any e with
          | false => rfl
          | true =>
            simp only [Bool.not_true, Bool.false_or]
            have hp : e.on ∈ predsIn x.2.2.2.after.toList := (preds_mem _).2 ⟨e, by simpa using he, hb, rfl⟩
            refine hlst _ (e3 _ hp) fun z hz => ?_
            cases hz with
            | head => exact fun q => e2 (q ▸ hp)
            | tail _ hz =>
              have := (List.pairwise_cons.1 Fa.pw).1 z hz
              exact fun q => this.2.2 (q ▸ hp)
        rw [hr] at this; cases this
    · intro i hi
      unfold Region.ready at hi
      rw [List.mem_filter] at hi
      obtain ⟨hi1, hi2⟩ := hi
      have hi1 : i < all.length := by simpa using hi1
      simp only [Bool.and_eq_true, Bool.not_eq_true'] at hi2
      obtain ⟨hi2, hi3⟩ := hi2
      obtain ⟨x, hx, hxi⟩ : ∃ x ∈ rem, x.1 = i := by
        apply Classical.byContradiction
        intro hne
        have := (Fa.lst i hi1).2 fun x hx e => hne ⟨x, hx, e⟩
        rw [hi2] at this; cases this
      subst hxi
      obtain ⟨j, m, fr, o⟩ := x
      obtain ⟨e1, e2, e3⟩ := Fa.mem _ hx
      simp only at e1 e2 e3 hi1 hi2 hi3
      have hpre : ∀ p ∈ predsIn o.after.toList, ∀ z ∈ rem, z.1 ≠ p := by
        intro p hp z hz
        obtain ⟨e, he, hb, hon⟩ := (preds_mem _).1 hp
        simp only [List.getElem?_toArray, e1, Option.map_some, Option.getD_some, Array.all_eq_true_iff_forall_mem] at hi3
        have h4 := hi3 e (by simpa using he)
        rw [hb] at h4
        simp only [Bool.not_true, Bool.false_or, hon] at h4
        rw [getD_lt (by rw [Fa.size]; exact e3 p hp)] at h4
        exact (Fa.lst p (e3 p hp)).1 h4 z hz
      obtain ⟨l1, l2, hsp⟩ := List.append_of_mem hx
      have hpw := Fa.pw
      rw [hsp, List.pairwise_append] at hpw
      obtain ⟨pw1, pw2, pw12⟩ := hpw
      have hfree : ∀ z ∈ l1, Free all z.1 z.2.2.2 m fr o := by
        intro z hz
        obtain ⟨q1, q2, q3⟩ := pw12 z hz (j, m, fr, o) (by simp)
        rcases q1 with q1 | q1
        · exfalso
          refine reach_out Fa q1 (fun o' ho' p hp => ?_) z (by rw [hsp]; simp [hz]) rfl
          rw [e1] at ho'; injection ho' with ho'; subst ho'
          exact hpre p hp
        · exact q1
      have hne1 : ∀ z ∈ l1, z.1 ≠ j := fun z hz => (pw12 z hz (j, m, fr, o) (by simp)).2.1
      have hne2 : ∀ z ∈ l2, z.1 ≠ j := fun z hz => ((List.pairwise_cons.1 pw2).1 z hz).2.1.symm
      have hrem : ∀ z ∈ l1 ++ l2, z ∈ rem := fun z hz => by
        rw [hsp]
        rcases List.mem_append.1 hz with q | q
        · simp [q]
        · simp [q]
      have Fa' : Far all (l1 ++ l2) (listed.setIfInBounds j true) := by
        refine ⟨by simp [Fa.size], ?_, fun z hz => Fa.mem z (hrem z hz), ?_, ?_⟩
        · intro p hp
          by_cases hpj : p = j
          · subst hpj
            refine ⟨fun _ z hz => ?_, fun _ => ?_⟩
            · rcases List.mem_append.1 hz with q | q
              · exact hne1 z q
              · exact hne2 z q
            · simp [Array.getD, Fa.size, hp]
          · have hg : (listed.setIfInBounds j true).getD p true = listed.getD p true := by
              simp only [Array.getD_eq_getD_getElem?, Array.getElem?_setIfInBounds]
              rw [if_neg (fun q => hpj q.symm)]
            rw [hg, Fa.lst p hp]
            refine ⟨fun h z hz => h z (hrem z hz), fun h z hz => ?_⟩
            rw [hsp] at hz
            rcases List.mem_append.1 hz with q | q
            · exact h z (List.mem_append_left _ q)
            · cases q with
              | head => exact fun q => hpj q.symm
              | tail _ q => exact h z (List.mem_append_right _ q)
        · rw [List.pairwise_append]
          exact ⟨pw1, (List.pairwise_cons.1 pw2).2, fun z hz u hu => pw12 z hz u (by simp [hu])⟩
        · intro p q hq hp r hr z hz
          by_cases hpj : p = j
          · subst hpj
            rw [e1] at hq; injection hq with hq; subst hq
            exact hpre r hr z (hrem z hz)
          · refine Fa.down p q hq (fun u hu => ?_) r hr z (hrem z hz)
            rw [hsp] at hu
            rcases List.mem_append.1 hu with v | v
            · exact hp u (by simp [v])
            · cases v with
              | head => exact fun q => hpj q.symm
              | tail _ v => exact hp u (List.mem_append_right _ v)
      have hlen : (l1 ++ l2).length = n := by
        have : rem.length = l1.length + (l2.length + 1) := by rw [hsp]; simp
        simp only [List.length_append]; omega
      rw [hsp] at h
      obtain ⟨b, hw, hrun, hskip⟩ := bubble (fun f ps c e => (hc f ps c e).2.2) l1 L st hs hfree h
      have hwant := want_ok Rl hw
      unfold wpOp
      simp only [List.getElem?_toArray, e1]
      rw [hwant]
      cases b with
      | true =>
        rw [if_pos rfl]
        obtain ⟨Kj, k1, k2⟩ := hrun rfl
        obtain ⟨e, he, hdoes⟩ := opSem_ok hg hc hd Rl F k1
        obtain ⟨c1, c2⟩ := k2 e he
        refine .inl (hdoes _ _ fun v w1 I => ?_)
        obtain ⟨hd1, Z1, R1, F1, K1⟩ := I
        exact ih _ _ _ _ w1 Z1 L hlen Fa' hd1 R1 F1 (by rw [apply_objs]; exact sorted_upds hs) c2
      | false =>
        rw [if_neg (by simp)]
        exact ih _ _ _ _ w Z L hlen Fa' (by rw [put_defers]; exact hd) Rl.skip F (by rw [skip_objs]; exact hs) (hskip rfl)
theorem coverN_mem {l : List Nat} : ∀ {n i : Nat}, coverN l n = true → i < n → i ∈ l
  | n + 1, i, h, hi => by
    simp only [coverN, Bool.and_eq_true] at h
    by_cases e : i = n
    · subst e; exact memNat_iff.1 h.1
    · exact coverN_mem h.2 (by omega)
theorem draw_ok (hg : tableOk P g.ty = true) (hc : ConsOk P tb g.con) (hm : P.follows .mixedOrders = true) {id : Nat} {ops : Array Oper} {ord : List Nat} {l : List DIt} (hlen : ord.length = ops.toList.length)
    (hcov : coverN ord ops.toList.length = true) (hs : sortedK st.objs = true)
    (hl : drawPlan ops.toList ord [] [] = some l) (hd : a.defers = []) (Rl : Rel Z st a.tmps w) (F : Fr C Z w) {k : St → Option R} {y : R} (h : evalDraw g ops.toList l [] st k = some y)
    {Q : Exit → Act → World → Prop} (hQ : ∀ st' a' w' Z', k st' = some y → a'.defers = [] → Rel Z' st' a'.tmps w' → Fr C Z' w' → Q .normal a' w') : (Code.region id ops true).wp P Q a w := by
  refine wp_region_any hm ?_
  obtain ⟨k1, k2, k3, _⟩ := plan_ok hl (fun _ _ h => by cases h) (fun _ h => by cases h) (fun _ h => by cases h)
  have hn : l.length = ops.size := by
    have : (l.map (·.1)).length = ord.length := by rw [k1]
    simp only [List.length_map] at this
    rw [this, hlen]; simp
  have hall : ∀ i, i < ops.toList.length → ∃ x ∈ l, x.1 = i := fun i hi => by
    have := coverN_mem hcov hi
    rw [← k1, List.mem_map] at this
    exact this
  have hw : ∀ (w0 : World), w0 = { w with drawn := w.drawn + 1 } → Rel Z st a.tmps w0 ∧ Fr C Z w0 := by
    intro w0 e
    subst e
    exact ⟨⟨Rl.imm, Rl.own, Rl.mdj, Rl.dj, Rl.obs, Rl.env, Rl.len, Rl.rse, Rl.pin⟩, ⟨F.os, F.tape, F.output, F.size, F.block, F.cell, F.frz, F.m, F.hs, F.mf, F.ptop, F.shp, F.blt⟩⟩
  obtain ⟨R0, F0⟩ := hw _ rfl
  have e : ops.toList.toArray = ops := by simp
  have := any_ok (P := P) (C := C) hg hc (all := ops.toList) hQ ops.size l (Array.replicate ops.size false) st a _ Z [] hn ⟨by simp, ?_, k2, k3, ?_⟩ hd R0 F0 hs h
  · rw [e] at this; exact this
  · intro i hi
    obtain ⟨x, hx, hxi⟩ := hall i hi
    constructor
    · intro q
      exfalso
      have hi' : i < ops.size := by simpa using hi
      simp [Array.getD, hi'] at q
    · intro q; exact absurd hxi (q x hx)
  · intro i o ho hx
    exfalso
    obtain ⟨x, hx', hxi⟩ := hall i (List.getElem?_eq_some_iff.1 ho).1
    exact hx x hx' hxi
end
end Go.AE
namespace Go.AE
theorem pathEq_eq : ∀ {p q : Path}, pathEq p q = true → p = q
  | [], [], _ => rfl
  | a :: p, b :: q, h => by
    simp only [pathEq, Bool.and_eq_true] at h
    obtain ⟨h1, h2⟩ := h
    have := pathEq_eq h2
    subst this
    cases a <;> cases b <;> simp [stpEq] at h1 <;> rfl
  | [], _ :: _, h => by cases h
  | _ :: _, [], h => by cases h
theorem fitCaps_ok : ∀ {l : List SkC} {cs : List Cap} {T : Type} {f : T → capsD l T}, fitCaps l cs = some f → ∀ t, (mkCaps l (f t)).2 = t ∧ (mkCaps l (f t)).1 = cs
  | [], [], T, f, h, t => by
    simp only [fitCaps, Option.some.injEq] at h
    subst h
    exact ⟨rfl, rfl⟩
  | .cp r p :: l, .cp r' p' :: cs, T, f, h, t => by
    simp only [fitCaps] at h
    obtain ⟨hb, h9⟩ := cond_some h
    simp only [Bool.and_eq_true] at hb
    obtain ⟨e1, e2⟩ := hb
    have e1 := Nat.eq_of_beq_eq_true e1
    have e2 := pathEq_eq e2
    subst e1 e2
    split at h9
    · rename_i f' hf
      simp only [Option.some.injEq] at h9
      subst h9
      obtain ⟨k1, k2⟩ := fitCaps_ok hf t
      exact ⟨k1, by simp only [mkCaps]; rw [k2]⟩
    · cases h9
  | .cr s :: l, .cr s' x :: cs, T, f, h, t => by
    simp only [fitCaps] at h
    split at h
    · rename_i e f' _ hf
      simp only [Option.some.injEq] at h
      subst h
      subst e
      obtain ⟨k1, k2⟩ := fitCaps_ok hf t
      exact ⟨k1, by simp only [mkCaps]; rw [k2]⟩
    · cases h
  | [], _ :: _, _, _, h, _ => by simp [fitCaps] at h
  | .cp _ _ :: _, [], _, _, h, _ => by simp [fitCaps] at h
  | .cp _ _ :: _, .cr _ _ :: _, _, _, h, _ => by simp [fitCaps] at h
  | .cr _ :: _, [], _, _, h, _ => by simp [fitCaps] at h
  | .cr _ :: _, .cp _ _ :: _, _, _, h, _ => by simp [fitCaps] at h
theorem relSV_cons {Z : Sup} {ob : Obs} {x x' : SV} {l l' : List SV} (h1 : ∀ v, RelSV Z ob x v → RelSV Z ob x' v) (h2 : ∀ i v, RelSV Z ob (getSlot l i) v → RelSV Z ob (getSlot l' i) v) :
    ∀ i v, RelSV Z ob (getSlot (x :: l) i) v → RelSV Z ob (getSlot (x' :: l') i) v
  | 0, v, h => h1 v h
  | i + 1, v, h => h2 i v h
theorem fitEnv_ok {Z : Sup} {ob : Obs} : ∀ {l : List Sk} {env : List SV} {T : Type} {f : T → envD l T}, fitEnv l env = some f → ∀ t,
    (mkEnv l (f t)).2 = t ∧ (mkEnv l (f t)).1.length = env.length ∧ ∀ i v, RelSV Z ob (getSlot env i) v → RelSV Z ob (getSlot (mkEnv l (f t)).1 i) v := by
  intro l
  induction l with
  | nil =>
    intro env T f h t
    cases env with
    | nil =>
      simp only [fitEnv, Option.some.injEq] at h
      subst h
      exact ⟨rfl, rfl, fun _ _ h => h⟩
    | cons _ _ => simp [fitEnv] at h
  | cons k l ih =>
    intro env T f h t
    cases env with
    | nil => cases k <;> simp [fitEnv] at h
    | cons x env =>
      cases k with
      | dead =>
        simp only [fitEnv] at h
        split at h
        · rename_i f' hf
          simp only [Option.some.injEq] at h
          subst h
          obtain ⟨k1, k2, k3⟩ := ih hf t
          exact ⟨k1, by simp only [mkEnv, List.length_cons, k2], relSV_cons (fun v _ => trivial) k3⟩
        · cases h
      | pv s =>
        cases x with
        | tup _ => simp [fitEnv] at h
        | one x =>
          cases x with
          | pv s' z =>
            simp only [fitEnv] at h
            split at h
            · rename_i e f' _ hf
              simp only [Option.some.injEq] at h
              subst h
              subst e
              obtain ⟨k1, k2, k3⟩ := ih hf t
              exact ⟨k1, by simp only [mkEnv, List.length_cons, k2], relSV_cons (fun v h => h) k3⟩
            · cases h
          | z s' =>
            simp only [fitEnv] at h
            split at h
            · rename_i e f' _ hf
              simp only [Option.some.injEq] at h
              subst h
              subst e
              obtain ⟨k1, k2, k3⟩ := ih hf t
              exact ⟨k1, by simp only [mkEnv, List.length_cons, k2], relSV_cons (fun v h => ⟨_, h, Rep_zero _ _ _⟩) k3⟩
            · cases h
          | _ => simp [fitEnv] at h
      | rp s =>
        cases x with
        | tup _ => simp [fitEnv] at h
        | one x =>
          cases x with
          | rp s' z =>
            simp only [fitEnv] at h
            split at h
            · rename_i e f' _ hf
              simp only [Option.some.injEq] at h
              subst h
              subst e
              obtain ⟨k1, k2, k3⟩ := ih hf t
              exact ⟨k1, by simp only [mkEnv, List.length_cons, k2], relSV_cons (fun v h => h) k3⟩
            · cases h
          | _ => simp [fitEnv] at h
      | ptr r p =>
        cases x with
        | tup _ => simp [fitEnv] at h
        | one x =>
          cases x with
          | ptr r' p' =>
            simp only [fitEnv] at h
            obtain ⟨hb, h9⟩ := cond_some h
            simp only [Bool.and_eq_true] at hb
            obtain ⟨e1, e2⟩ := hb
            have e1 := Nat.eq_of_beq_eq_true e1
            have e2 := pathEq_eq e2
            subst e1 e2
            split at h9
            · rename_i f' hf
              simp only [Option.some.injEq] at h9
              subst h9
              obtain ⟨k1, k2, k3⟩ := ih hf t
              exact ⟨k1, by simp only [mkEnv, List.length_cons, k2], relSV_cons (fun v h => h) k3⟩
            · cases h9
          | _ => simp [fitEnv] at h
      | ov r p =>
        cases x with
        | tup _ => simp [fitEnv] at h
        | one x =>
          cases x with
          | ov r' p' =>
            simp only [fitEnv] at h
            obtain ⟨hb, h9⟩ := cond_some h
            simp only [Bool.and_eq_true] at hb
            obtain ⟨e1, e2⟩ := hb
            have e1 := Nat.eq_of_beq_eq_true e1
            have e2 := pathEq_eq e2
            subst e1 e2
            split at h9
            · rename_i f' hf
              simp only [Option.some.injEq] at h9
              subst h9
              obtain ⟨k1, k2, k3⟩ := ih hf t
              exact ⟨k1, by simp only [mkEnv, List.length_cons, k2], relSV_cons (fun v h => h) k3⟩
            · cases h9
          | _ => simp [fitEnv] at h
      | fn f0 caps =>
        cases x with
        | tup _ => simp [fitEnv] at h
        | one x =>
          cases x with
          | fn f1 cs =>
            simp only [fitEnv] at h
            obtain ⟨hb, h9⟩ := cond_some h
            have e1 := Nat.eq_of_beq_eq_true hb
            subst e1
            split at h9
            · rename_i g1 f' hg hf
              simp only [Option.some.injEq] at h9
              subst h9
              obtain ⟨k1, k2, k3⟩ := ih hf t
              obtain ⟨j1, j2⟩ := fitCaps_ok hg (f' t)
              refine ⟨by simp only [mkEnv]; rw [j1]; exact k1, by simp only [mkEnv, List.length_cons]; rw [j1, k2], ?_⟩
              simp only [mkEnv]
              rw [j1, j2]
              exact relSV_cons (fun v h => h) k3
            · cases h9
          | _ => simp [fitEnv] at h
theorem pendIs_eq {s : S} {p : Option Path} (h : pendIs s p = true) : p = pendOf s := by
  unfold pendIs at h
  unfold pendOf
  split at h
  · rw [h]; rfl
  · cases hn : notBlt s with
    | true => rw [hn] at h; cases h
    | false => rfl
  · cases h
theorem fitObs_ok : ∀ {l : List SkO} {objs : List (Nat × Ob)} {t : obsD l}, fitObs l objs = some t → mkObs l t = objs
  | [], [], _, _ => rfl
  | b :: l, (r, ob) :: objs, t, h => by
    simp only [fitObs] at h
    split at h
    · rename_i e t' _ hp hf
      obtain ⟨hb, h9⟩ := cond_some h
      simp only [Option.some.injEq] at h9
      subst h9
      simp only [Bool.and_eq_true] at hb
      obtain ⟨⟨⟨q1, q2⟩, q3⟩, q4⟩ := hb
      have e1 := Nat.eq_of_beq_eq_true q1
      have e2 := O.beq_eq q2
      have ih := fitObs_ok hf
      clear h q1 q2
      obtain ⟨br, bs, bo, bm, bf⟩ := b
      obtain ⟨os, oo, ox, om, of', op⟩ := ob
      simp only at e e1 e2 q3 q4 hp
      have hp := pendIs_eq hp
      subst e e1 e2 hp
      have e3 : bm = om := by cases bm <;> cases om <;> simp_all
      have e4 : bf = of' := by cases bf <;> cases of' <;> simp_all
      subst e3 e4
      simp only [mkObs]
      rw [ih]
    · cases h
  | [], _ :: _, _, h => by simp [fitObs] at h
  | _ :: _, [], _, h => by simp [fitObs] at h
section
variable {P : Program} {tb : Hp} {C : Ctx tb} {Z : Sup} {st : St} {a : Act} {w w' : World} {g : Cfg} {o : Oper} {R : Type} {y : R}
theorem fitK_ok (Rl : Rel Z st a.tmps w) {sk : Skel} {kk : sk.D → Option R} (h : fitK sk st kk = some y) : ∃ d, kk d = some y ∧ Rel Z (sk.mk' d) a.tmps w := by
  unfold fitK at h
  split at h
  · rename_i f t hf ht
    have ho := fitObs_ok ht
    obtain ⟨h1, h2, h3⟩ := fitEnv_ok (Z := Z) (ob := st.ob) hf t
    have hob : (sk.mk' (f t)).objs = st.objs := by
      show mkObs sk.objs (mkEnv sk.env (f t)).2 = _
      rw [h1]; exact ho
    have hob' : (sk.mk' (f t)).ob = st.ob := by funext r; show look _ r = look _ r; rw [hob]
    refine ⟨f t, h, ⟨Rl.imm, Rl.own, Rl.mdj, Rl.dj, by rw [hob']; exact Rl.obs, ?_, ?_, by rw [hob']; exact Rl.rse, by rw [hob']; exact Rl.pin⟩⟩
    · intro i
      rw [hob']
      exact h3 i _ (Rl.env i)
    · show a.tmps.size = (mkEnv sk.env (f t)).1.length
      rw [h2]; exact Rl.len
  · cases h
theorem Ex.is_to {e : Ex} {ex : Exit} (h : e.is ex = true) : e.to = ex := by
  cases e <;> cases ex <;> simp [Ex.is] at h
  · rfl
  · subst h; rfl
  · rfl
theorem exOut_ok (Rl : Rel Z st a.tmps w) (F : Fr C Z w) {k : Exit → St → Option R} : ∀ {xs : List XS} {ex : Exit}, exOut xs ex st (fun e => exK k xs e) = some y →
    ∃ st' Z', k ex st' = some y ∧ Rel Z' st' a.tmps w ∧ Fr C Z' w
  | [], ex, h => by cases h
  | [x], ex, h => by
    simp only [exOut] at h
    obtain ⟨hb, h9⟩ := cond_some h
    obtain ⟨Z2, R2, F2⟩ := norm_ok Rl F x.live
    obtain ⟨d, h1, R3⟩ := fitK_ok R2 h9
    simp only [exK] at h1
    rw [Ex.is_to hb] at h1
    exact ⟨_, Z2, h1, R3, F2⟩
  | x :: x2 :: xs, ex, h => by
    simp only [exOut] at h
    cases hb : x.ex.is ex with
    | true =>
      rw [hb] at h
      simp only [cond_true] at h
      obtain ⟨Z2, R2, F2⟩ := norm_ok Rl F x.live
      obtain ⟨d, h1, R3⟩ := fitK_ok R2 h
      simp only [exK, onSum] at h1
      rw [Ex.is_to hb] at h1
      exact ⟨_, Z2, h1, R3, F2⟩
    | false =>
      rw [hb] at h
      exact exOut_ok (xs := x2 :: xs) Rl F h
theorem exOut_some (Rl : Rel Z st a.tmps w) (F : Fr C Z w) : ∀ {xs : List XS} {ex : Exit} {e : XD xs}, exOut xs ex st some = some e →
    ∃ st' Z', Rel Z' st' a.tmps w ∧ Fr C Z' w ∧ ∀ {R : Type} (k : Exit → St → Option R), exK k xs e = k ex st' := by
  have key : ∀ {T : Type} {xs : List XS} {ex : Exit} {kx : XD xs → Option T} {t : T}, exOut xs ex st kx = some t →
      ∃ e st' Z', kx e = some t ∧ Rel Z' st' a.tmps w ∧ Fr C Z' w ∧ ∀ {R : Type} (k : Exit → St → Option R), exK k xs e = k ex st' := by
    intro T xs
    induction xs with
    | nil => intro ex kx t h; cases h
    | cons x xs ih =>
      intro ex kx t h
      cases xs with
      | nil =>
        simp only [exOut] at h
        obtain ⟨hb, h⟩ := cond_some h
        obtain ⟨Z2, R2, F2⟩ := norm_ok Rl F x.live
        obtain ⟨d, h1, R3⟩ := fitK_ok R2 h
        exact ⟨d, _, Z2, h1, R3, F2, fun k => by simp only [exK]; rw [Ex.is_to hb]⟩
      | cons x2 xs =>
        simp only [exOut] at h
        cases hb : x.ex.is ex with
        | true =>
          rw [hb] at h
          simp only [cond_true] at h
          obtain ⟨Z2, R2, F2⟩ := norm_ok Rl F x.live
          obtain ⟨d, h1, R3⟩ := fitK_ok R2 h
          exact ⟨.inl d, _, Z2, h1, R3, F2, fun k => by simp only [exK, onSum]; rw [Ex.is_to hb]⟩
        | false =>
          rw [hb] at h
          obtain ⟨e, st', Z', h1, R3, F3, hk⟩ := ih h
          exact ⟨.inr e, st', Z', h1, R3, F3, fun k => by simp only [exK, onSum]; exact hk k⟩
  intro xs ex e h
  obtain ⟨e', st', Z', h1, R3, F3, hk⟩ := key h
  injection h1 with h1
  subst h1
  exact ⟨st', Z', R3, F3, hk⟩
end
end Go.AE
namespace Go.AE
theorem wp_loop_fuel {P : Program} {Q : Exit → Act → World → Prop} {a : Act} {w : World} {c : Code} (I : Nat → Act → World → Prop) {n : Nat} (h₀ : I n a w)
    (round : ∀ n a w, I n a w → ∃ m, n = m + 1 ∧ c.wp P (Exit.then (fun a' w' => I m a' w') Q) a w) : (Code.loop c).wp P Q a w := by
  intro b k cs
  have key : ∀ n a w, I n a w → ∃ e a' w', Q e a' w' ∧ Arrives P (lone (b.at a (.code c :: .inLoop c :: k)) cs w) b k cs e a' w' := by
    intro n
    induction n with
    | zero => intro a w hI; obtain ⟨m, e, _⟩ := round 0 a w hI; cases e
    | succ n ih =>
      intro a w hI
      obtain ⟨m, e0, hw⟩ := round _ a w hI
      have e0 : n = m := by omega
      subst e0
      obtain ⟨e, a₁, w₁, hq, harr⟩ := hw b (.inLoop c :: k) cs
      cases e with
      | normal =>
        obtain ⟨e₂, a₂, w₂, hq₂, harr₂⟩ := ih a₁ w₁ hq
        exact ⟨e₂, a₂, w₂, hq₂, .of_steps (Steps.trans harr (.one step_inLoop)) harr₂⟩
      | exit id => exact ⟨_, a₁, w₁, hq, .pass (x := .inLoop c) rfl (fun _ _ => .inl (by simp)) harr⟩
      | goto l => exact ⟨_, a₁, w₁, hq, .pass (x := .inLoop c) rfl (fun _ _ => .inl (by simp)) harr⟩
      | ret => exact ⟨_, a₁, w₁, hq, .pass (x := .inLoop c) rfl (fun _ _ => .inl (by simp)) harr⟩
      | panic ch => exact ⟨_, a₁, w₁, hq, .pass (x := .inLoop c) rfl (fun _ _ => .inl (by simp)) harr⟩
      | outgrown => exact ⟨_, a₁, w₁, hq, .pass (x := .inLoop c) rfl (fun _ _ => .inl (by simp)) harr⟩
  obtain ⟨e, a', w', hq, harr⟩ := key _ a w h₀
  exact ⟨e, a', w', hq, .of_steps (.one step_loop) harr⟩
section
variable {P : Program} {tb : Hp} {C : Ctx tb} {Z : Sup} {st : St} {a : Act} {w w' : World} {g : Cfg} {o : Oper} {R : Type} {y : R}
def PostC {tb : Hp} (C : Ctx tb) (k : Exit → St → Option R) (y : R) (ex : Exit) (a : Act) (w : World) : Prop :=
  ∃ st' Z', k ex st' = some y ∧ a.defers = [] ∧ Rel Z' st' a.tmps w ∧ Fr C Z' w
def LoopOk (P : Program) (tb : Hp) (c : Code) (L : LoopCon) : Prop :=
  ∀ {R : Type} (C : Ctx tb) (st : St) (k : Exit → St → Option R) (y : R) (a : Act) (w : World) (Z : Sup), a.defers = [] → Rel Z st a.tmps w → Fr C Z w →
    L.run st k = some y → (Code.loop c).wp P (PostC C k y) a w
def loopsOf : Code → List Code
  | .loop c => c :: loopsOf c
  | .seq a b => loopsOf a ++ loopsOf b
  | .block _ c => loopsOf c
  | .scope c => loopsOf c
  | .cond _ a b => loopsOf a ++ loopsOf b
  | _ => []
def LoopsOk (P : Program) (tb : Hp) (g : Cfg) (c : Code) : Prop := ∀ b ∈ loopsOf c, ∀ id L, loopKey b = some id → lookLoop g.loops id = some L → LoopOk P tb b L
theorem LoopsOk.seq1 {x y : Code} (h : LoopsOk P tb g (.seq x y)) : LoopsOk P tb g x := fun b hb => h b (by simp [loopsOf, hb])
theorem LoopsOk.seq2 {x y : Code} (h : LoopsOk P tb g (.seq x y)) : LoopsOk P tb g y := fun b hb => h b (by simp [loopsOf, hb])
theorem LoopsOk.cond1 {o : Operand} {x y : Code} (h : LoopsOk P tb g (.cond o x y)) : LoopsOk P tb g x := fun b hb => h b (by simp [loopsOf, hb])
theorem LoopsOk.cond2 {o : Operand} {x y : Code} (h : LoopsOk P tb g (.cond o x y)) : LoopsOk P tb g y := fun b hb => h b (by simp [loopsOf, hb])
theorem LoopsOk.inLoop {x : Code} (h : LoopsOk P tb g (.loop x)) : LoopsOk P tb g x := fun b hb => h b (by simp [loopsOf, hb])
theorem code_ok (hg : tableOk P g.ty = true) (hc : ConsOk P tb g.con) (hm : P.follows .mixedOrders = true) (N : Nat) : ∀ (c : Code), LoopsOk P tb g c → ∀ (st : St) {R : Type} (k : Exit → St → Option R) (y : R) (a : Act) (w : World) (Z : Sup), a.defers = [] → Rel Z st a.tmps w → Fr C Z w →
    code g N c st k = some y → c.wp P (PostC C k y) a w := by
  intro c
  induction c with
  | skip => intro hL st R k y a w Z hd Rl F h; exact wp_skip ⟨st, Z, h, hd, Rl, F⟩
  | region id ops draw =>
    intro hL st R k y a w Z hd Rl F h
    cases draw with
    | true =>
      simp only [code, cond_true] at h
      obtain ⟨hlen, h⟩ := cond_some h
      simp only [Bool.and_eq_true] at hlen
      obtain ⟨⟨hlen, hcov⟩, hs⟩ := hlen
      split at h
      · rename_i l hl
        exact draw_ok hg hc hm (Nat.eq_of_beq_eq_true hlen) hcov hs hl hd Rl F h (fun st' a' w' Z' h1 d1 R1 F1 => ⟨st', Z', h1, d1, R1, F1⟩)
      · cases h
    | false =>
      simp only [code, cond_false] at h
      refine wp_region_list ?_
      have := evalOps_ok (P := P) (C := C) hg hc _ _ _ _ _ _ a w Z hd Rl F h (Q := PostC C k y) (rest := []) (fun st' a' w' h1 A => by
        obtain ⟨Z', R', F', _⟩ := A.ex
        exact ⟨st', Z', h1, A.defers, R', F'⟩)
      simpa using this
  | seq c1 c2 ih1 ih2 =>
    intro hL st R k y a w Z hd Rl F h
    simp only [code] at h
    split at h
    · refine wp_seq (Code.wp_mono ?_ (ih1 hL.seq1 st _ y a w Z hd Rl F h))
      rintro ex a1 w1 ⟨st1, Z1, h1, d1, R1, F1⟩
      cases ex with
      | normal =>
        obtain ⟨Z2, R2, F2⟩ := normAt_ok (g := g) R1 F1 c2
        exact ih2 hL.seq2 _ k y a1 w1 Z2 d1 R2 F2 h1
      | exit id => exact ⟨st1, Z1, h1, d1, R1, F1⟩
      | goto l => exact ⟨st1, Z1, h1, d1, R1, F1⟩
      | ret => exact ⟨st1, Z1, h1, d1, R1, F1⟩
      | panic ch => exact ⟨st1, Z1, h1, d1, R1, F1⟩
      | outgrown => exact ⟨st1, Z1, h1, d1, R1, F1⟩
    · rename_i xs hj
      obtain ⟨e, he, h2⟩ := bindO_some h
      refine wp_seq (Code.wp_mono ?_ (ih1 hL.seq1 st _ e a w Z hd Rl F he))
      rintro ex a1 w1 ⟨st1, Z1, h1, d1, R1, F1⟩
      obtain ⟨st2, Z2, R2, F2, hk⟩ := exOut_some R1 F1 h1
      rw [hk] at h2
      cases ex with
      | normal =>
        obtain ⟨Z3, R3, F3⟩ := normAt_ok (g := g) R2 F2 c2
        exact ih2 hL.seq2 _ k y a1 w1 Z3 d1 R3 F3 h2
      | exit id => exact ⟨st2, Z2, h2, d1, R2, F2⟩
      | goto l => exact ⟨st2, Z2, h2, d1, R2, F2⟩
      | ret => exact ⟨st2, Z2, h2, d1, R2, F2⟩
      | panic ch => exact ⟨st2, Z2, h2, d1, R2, F2⟩
      | outgrown => exact ⟨st2, Z2, h2, d1, R2, F2⟩
  | cond c c1 c2 ih1 ih2 =>
    intro hL st R k y a w Z hd Rl F h
    simp only [code] at h
    obtain ⟨t, ht, h1⟩ := asBool?_eq h
    have hb := eval_bool Rl ht
    have hst : ∀ v, t = v → Rel Z (stCond st c v) a.tmps w := by
      intro v e
      subst e
      cases c with
      | tmp n =>
        have h0 : RelAV Z st.ob (.pv .bool t) (a.tmps.getD n undef) := rel_bool.2 hb
        exact Rl.slot h0
      | const _ => exact Rl
      | global _ => exact Rl
      | func _ => exact Rl
    rcases ifB_eq h1 with ⟨e, h2⟩ | ⟨e, h2⟩
    · exact wp_cond_split hb (fun _ => ih1 hL.cond1 _ k y a w Z hd (hst true e) F h2) (fun q => by rw [e] at q; cases q)
    · exact wp_cond_split hb (fun q => by rw [e] at q; cases q) (fun _ => ih2 hL.cond2 _ k y a w Z hd (hst false e) F h2)
  | block id c ih =>
    intro hL st R k y a w Z hd Rl F h
    refine wp_block (Code.wp_mono ?_ (ih hL st _ y a w Z hd Rl F h))
    rintro ex a1 w1 ⟨st1, Z1, h1, d1, R1, F1⟩
    cases ex with
    | exit id' =>
      simp only [Exit.inBlock]
      simp only at h1
      cases hb : Nat.beq id' id with
      | true =>
        rw [hb] at h1
        rw [if_pos (Nat.eq_of_beq_eq_true hb)]
        exact ⟨st1, Z1, h1, d1, R1, F1⟩
      | false =>
        rw [hb] at h1
        rw [if_neg (fun q => by subst q; simp at hb)]
        exact ⟨st1, Z1, h1, d1, R1, F1⟩
    | normal => exact ⟨st1, Z1, h1, d1, R1, F1⟩
    | goto l => exact ⟨st1, Z1, h1, d1, R1, F1⟩
    | ret => exact ⟨st1, Z1, h1, d1, R1, F1⟩
    | panic ch => exact ⟨st1, Z1, h1, d1, R1, F1⟩
    | outgrown => exact ⟨st1, Z1, h1, d1, R1, F1⟩
  | loop c ih =>
    intro hL st R k y a w Z hd Rl F h
    simp only [code] at h
    split at h
    · rename_i id hid
      split at h
      · rename_i L hLk
        obtain ⟨Z2, R2, F2⟩ := normAt_ok (g := g) Rl F c
        exact hL c (by simp [loopsOf]) id L hid hLk C _ k y a w Z2 hd R2 F2 h
      · cases h
    · cases h
  | exit id => intro hL st R k y a w Z hd Rl F h; exact wp_exit ⟨st, Z, h, hd, Rl, F⟩
  | scope c ih =>
    intro hL st R k y a w Z hd Rl F h
    refine wp_scope_straight (Code.wp_mono ?_ (ih hL st _ y a w Z hd Rl F h))
    rintro ex a1 w1 ⟨st1, Z1, h1, d1, R1, F1⟩
    cases ex with
    | goto l => cases h1
    | normal => exact ⟨st1, Z1, h1, d1, R1, F1⟩
    | exit id => exact ⟨st1, Z1, h1, d1, R1, F1⟩
    | ret => exact ⟨st1, Z1, h1, d1, R1, F1⟩
    | panic ch => exact ⟨st1, Z1, h1, d1, R1, F1⟩
    | outgrown => exact ⟨st1, Z1, h1, d1, R1, F1⟩
  | ret => intro hL st R k y a w Z hd Rl F h; exact wp_ret ⟨st, Z, h, hd, Rl, F⟩
  | rangeFunc => intro hL st R k y a w Z hd Rl F h; simp [code] at h
  | label => intro hL st R k y a w Z hd Rl F h; simp [code] at h
  | goto => intro hL st R k y a w Z hd Rl F h; simp [code] at h
  | refuse => intro hL st R k y a w Z hd Rl F h; simp [code] at h
end
end Go.AE
namespace Go.AE
section
variable {P : Program} {tb : Hp} {C : Ctx tb} {Z : Sup} {st : St} {a : Act} {w w' : World} {g : Cfg} {o : Oper} {R : Type} {y : R}
theorem loop_ok (hg : tableOk P g.ty = true) (hc : ConsOk P tb g.con) (hm : P.follows .mixedOrders = true) {N : Nat} {c : Code} {sk : Skel} {xs : List XS} {step : {R : Type} → sk.D → (sk.D → Option R) → (XD xs → Option R) → Option R}
    (hL : LoopsOk P tb g c) (hstep : ∀ {R : Type} (d : sk.D) (kn : sk.D → Option R) (kx : XD xs → Option R), roundK g N c sk xs d kn kx = step d kn kx) : LoopOk P tb c (loopCon N sk xs step) := by
  intro R C st k y a w Z hd Rl F h
  have h : fitK sk st (fun d => loopP step N d fun e => exK k xs e) = some y := h
  obtain ⟨d, h1, R1⟩ := fitK_ok Rl h
  refine wp_loop_fuel (fun n a w => ∃ d Z, loopP (R := R) step n d (fun e => exK k xs e) = some y ∧ a.defers = [] ∧ Rel Z (sk.mk' d) a.tmps w ∧ Fr C Z w) (n := N) ⟨d, Z, h1, hd, R1, F⟩ ?_
  rintro n a1 w1 ⟨d1, Z1, h1, d1', R1, F1⟩
  cases n with
  | zero => cases h1
  | succ n =>
    refine ⟨n, rfl, ?_⟩
    simp only [loopP] at h1
    rw [← hstep] at h1
    unfold roundK at h1
    refine Code.wp_mono ?_ (code_ok hg hc hm N c hL _ _ y a1 w1 Z1 d1' R1 F1 h1)
    rintro ex a2 w2 ⟨st2, Z3, h3, d3, R3, F3⟩
    cases ex with
    | normal =>
      obtain ⟨Z4, R4, F4⟩ := normAt_ok (g := g) R3 F3 c
      obtain ⟨d', h5, R5⟩ := fitK_ok R4 h3
      exact ⟨d', Z4, h5, d3, R5, F4⟩
    | exit id => obtain ⟨st4, Z4, h4, R4, F4⟩ := exOut_ok R3 F3 h3; exact ⟨st4, Z4, h4, d3, R4, F4⟩
    | goto l => obtain ⟨st4, Z4, h4, R4, F4⟩ := exOut_ok R3 F3 h3; exact ⟨st4, Z4, h4, d3, R4, F4⟩
    | ret => obtain ⟨st4, Z4, h4, R4, F4⟩ := exOut_ok R3 F3 h3; exact ⟨st4, Z4, h4, d3, R4, F4⟩
    | panic ch => obtain ⟨st4, Z4, h4, R4, F4⟩ := exOut_ok R3 F3 h3; exact ⟨st4, Z4, h4, d3, R4, F4⟩
    | outgrown => obtain ⟨st4, Z4, h4, R4, F4⟩ := exOut_ok R3 F3 h3; exact ⟨st4, Z4, h4, d3, R4, F4⟩
end
end Go.AE
namespace Go.AE
section
variable {P : Program} {tb : Hp} {C : Ctx tb} {Z : Sup} {st : St} {a : Act} {w w' : World} {g : Cfg} {o : Oper} {R : Type} {y : R}
theorem rel_keepO {Z' : Sup} {ob ob' : Obs} (hm : Le Z.m Z'.m) (hk : ∀ r o, ob r = some o → ob' r = some o ∧ Z'.hs r = Z.hs r ∧ Z'.tops r = Z.tops r ∧ Z'.pd r = Z.pd r ∧ Z'.rs r = Z.rs r) {x : AV} {v : Value} (hv : RelAV Z ob x v) : RelAV Z' ob' x v := by
  have ptr : ∀ r p v, isPtr Z ob r p v → isPtr Z' ob' r p v := by
    intro r p v ⟨o, s', b, off, e1, e2, e3⟩
    obtain ⟨h0, h1, h2, h3, h4⟩ := hk r o e1
    exact ⟨o, s', b, off, h0, by rw [h4, h2]; exact e2, e3⟩
  have rp : ∀ s (x : den s) v, isRp Z s x v → isRp Z' s x v := by
    intro s x v ⟨b, off, c, e1, e2, e3⟩
    exact ⟨b, off, c, e1, e2.mono hm, Rep_mono hm _ _ _ _ _ e3⟩
  cases x with
  | pv s x => obtain ⟨c, e, r⟩ := hv; exact ⟨c, e, Rep_mono hm _ _ _ _ _ r⟩
  | rp s x => exact rp s x v hv
  | z s => exact hv
  | dead => trivial
  | ptr r p => exact ptr r p v hv
  | ov r p =>
    obtain ⟨o, s', t, c, e1, e2, e3, e4⟩ := hv
    obtain ⟨h0, h1, h2, h3, h4⟩ := hk r o e1
    exact ⟨o, s', t, c, h0, by rw [h1, h2]; exact e2, by rw [h1]; exact e3, e4⟩
  | bx r p =>
    obtain ⟨o, s', t, c, b0, f0, e1, e2, e3, e4, e5, e6⟩ := hv
    obtain ⟨h0, h1, h2, h3, h4⟩ := hk r o e1
    exact ⟨o, s', t, c, b0, f0, h0, by rw [h1, h2]; exact e2, by rw [h1]; exact e3, e4, e5, e6.mono hm⟩
  | osub r p lo hi =>
    obtain ⟨o, e, s', t, ad, len, cap, e1, e2, e3, e4⟩ := hv
    obtain ⟨h0, h1, h2, h3, h4⟩ := hk r o e1
    exact ⟨o, e, s', t, ad, len, cap, h0, by rw [h1, h2]; exact e2, by rw [h1]; exact e3, e4⟩
  | app r p =>
    obtain ⟨o, b, off, e1, e2, e3⟩ := hv
    obtain ⟨h0, h1, h2, h3, h4⟩ := hk r o e1
    exact ⟨o, b, off, h0, e2, by rw [h3]; exact e3⟩
  | fn f caps =>
    obtain ⟨vs, e, al⟩ := hv
    refine ⟨vs, e, al.imp fun c hc v hcv => ?_⟩
    cases c with
    | cp r p => exact ptr r p v hcv
    | cr s x => exact rp s x v hcv
def entSup (m : Hp) (hs : Nat → Hp) (tops : Nat → Top) : Sup := { m, hs, tops, pd := fun _ => none, rs := hs, ptop := tops }
theorem RepT_top {m : Hp} {md : Mode} {v : Value} {d : Dy} {h : Hp} (r : OneRep m md v d h) (hmd : md = .io ∨ md = .iov ∨ md = .tk) :
    ∃ t, RepT m d.s d.o h t d.x ∧ ((md = .io ∧ ∃ b off, t = .mem b off ∧ v = .pointer (some ⟨b, off, none⟩)) ∨ (md ≠ .io ∧ ∃ c, t = .flt c ∧ v = mkVal d.s c)) := by
  rcases hmd with e | e | e <;> subst e
  · obtain ⟨b, off, h1, h2⟩ := r; exact ⟨.mem b off, h2, .inl ⟨rfl, b, off, rfl, h1⟩⟩
  · obtain ⟨c, h1, h2⟩ := r; exact ⟨.flt c, h2, .inr ⟨by simp, c, rfl, h1⟩⟩
  · obtain ⟨c, h1, h2⟩ := r; exact ⟨.flt c, h2, .inr ⟨by simp, c, rfl, h1⟩⟩
def Ent (tops : Nat → Top) : Nat → List Mode → List Dy → List Value → Prop
  | i, .io :: ms, _ :: ds, v :: vs => (∃ b off, tops i = .mem b off ∧ v = .pointer (some ⟨b, off, none⟩)) ∧ Ent tops (i + 1) ms ds vs
  | i, .iov :: ms, d :: ds, v :: vs => (∃ c, tops i = .flt c ∧ v = mkVal d.s c) ∧ Ent tops (i + 1) ms ds vs
  | i, _ :: ms, _ :: ds, _ :: vs => Ent tops (i + 1) ms ds vs
  | _, [], [], [] => True
  | _, _, _, _ => False
theorem Ent_congr {tops tops' : Nat → Top} : ∀ {i : Nat} {ms : List Mode} {ds : List Dy} {vs : List Value}, (∀ j, i ≤ j → tops' j = tops j) → Ent tops i ms ds vs → Ent tops' i ms ds vs
  | i, .io :: ms, _ :: ds, v :: vs, h, ⟨⟨b, off, e1, e2⟩, r⟩ => ⟨⟨b, off, (h i (Nat.le_refl _)).trans e1, e2⟩, Ent_congr (fun j hj => h j (by omega)) r⟩
  | i, .iov :: ms, d :: ds, v :: vs, h, ⟨⟨c, e1, e2⟩, r⟩ => ⟨⟨c, (h i (Nat.le_refl _)).trans e1, e2⟩, Ent_congr (fun j hj => h j (by omega)) r⟩
  | i, .v :: ms, _ :: ds, _ :: vs, h, r => Ent_congr (i := i + 1) (ms := ms) (ds := ds) (vs := vs) (fun j hj => h j (by omega)) r
  | i, .rd :: ms, _ :: ds, _ :: vs, h, r => Ent_congr (i := i + 1) (ms := ms) (ds := ds) (vs := vs) (fun j hj => h j (by omega)) r
  | i, .nl :: ms, _ :: ds, _ :: vs, h, r => Ent_congr (i := i + 1) (ms := ms) (ds := ds) (vs := vs) (fun j hj => h j (by omega)) r
  | i, .tk :: ms, _ :: ds, _ :: vs, h, r => Ent_congr (i := i + 1) (ms := ms) (ds := ds) (vs := vs) (fun j hj => h j (by omega)) r
  | i, [], [], [], h, r => trivial
theorem enter_ok {m : Hp} : ∀ {ms : List Mode} {ds : List Dy} {vs : List Value} {H : Hp} (i : Nat), ArgsRep m ms ds vs H →
    ∃ (hs : Nat → Hp) (tops : Nat → Top), (∀ j, j < i → hs j = Hp.e) ∧ (∀ j j', j ≠ j' → Dj (hs j) (hs j')) ∧ (∀ j, Le (hs j) H) ∧
      (∀ r o, look (enterArgs i ms ds).2 r = some o → i ≤ r ∧ o.pend = none ∧ RelOb (entSup m hs tops) r o) ∧
      All2 (RelAV (entSup m hs tops) (look (enterArgs i ms ds).2)) (enterArgs i ms ds).1 vs ∧ Ent tops i ms ds vs
  | [], [], [], H, i, r => ⟨fun _ => Hp.e, fun _ => .flt [], fun _ _ => rfl, fun _ _ _ => Dj.e _, fun _ => Le.e _, fun r o h => (by cases h), trivial, trivial⟩
  | q :: ms, d :: ds, v :: vs, H, i, ⟨h1, h2, sp, r1, rr⟩ => by
    obtain ⟨hs, tops, g1, g2, g3, g4, g5, g6⟩ := enter_ok (i + 1) rr
    by_cases hq : q = .io ∨ q = .iov ∨ q = .tk
    · obtain ⟨t, rt, ht⟩ := RepT_top r1 hq
      generalize hpq : enterArgs (i + 1) ms ds = pq at g4 g5
      obtain ⟨as, os⟩ := pq
      simp only at g4 g5
      have hi : hs i = Hp.e := g1 i (by omega)
      have ndj : ∀ j, j ≠ i → Dj h1 (hs j) := fun j hj => sp.dj.le (Le.refl _) (g3 j)
      have new : ∀ (x : AV) (ob : Ob), ob.pend = none → RelOb (entSup m (fun j => if j = i then h1 else hs j) (fun j => if j = i then t else tops j)) i ob →
          RelAV (entSup m (fun j => if j = i then h1 else hs j) (fun j => if j = i then t else tops j)) (look ((i, ob) :: os)) x v → enterArgs i (q :: ms) (d :: ds) = (x :: as, (i, ob) :: os) → Ent (fun j => if j = i then t else tops j) i (q :: ms) (d :: ds) (v :: vs) →
          ∃ (hs : Nat → Hp) (tops : Nat → Top), (∀ j, j < i → hs j = Hp.e) ∧ (∀ j j', j ≠ j' → Dj (hs j) (hs j')) ∧ (∀ j, Le (hs j) H) ∧
            (∀ r o, look (enterArgs i (q :: ms) (d :: ds)).2 r = some o → i ≤ r ∧ o.pend = none ∧ RelOb (entSup m hs tops) r o) ∧
            All2 (RelAV (entSup m hs tops) (look (enterArgs i (q :: ms) (d :: ds)).2)) (enterArgs i (q :: ms) (d :: ds)).1 (v :: vs) ∧ Ent tops i (q :: ms) (d :: ds) (v :: vs) := by
        intro x ob hp ho hx he hent
        refine ⟨fun j => if j = i then h1 else hs j, fun j => if j = i then t else tops j, ?_, ?_, ?_, ?_, ?_, hent⟩
        · intro j hj
          show (if j = i then h1 else hs j) = _
          rw [if_neg (by omega)]; exact g1 j (by omega)
        · intro j j' hne
          show Dj (if j = i then h1 else hs j) (if j' = i then h1 else hs j')
          by_cases c1 : j = i
          · rw [if_pos c1, if_neg (fun e => hne (c1.trans e.symm))]; exact ndj j' (fun e => hne (c1.trans e.symm))
          · rw [if_neg c1]
            by_cases c2 : j' = i
            · rw [if_pos c2]; exact (ndj j c1).symm
            · rw [if_neg c2]; exact g2 j j' hne
        · intro j
          show Le (if j = i then h1 else hs j) H
          by_cases c1 : j = i
          · rw [if_pos c1]; exact sp.left
          · rw [if_neg c1]; exact (g3 j).trans sp.right
        · rw [he]
          intro r o h
          simp only [look] at h
          cases hb : Nat.beq i r with
          | true =>
            rw [hb] at h
            simp only [cond_true, Option.some.injEq] at h
            have := Nat.eq_of_beq_eq_true hb
            subst this h
            exact ⟨Nat.le_refl _, hp, ho⟩
          | false =>
            rw [hb] at h
            obtain ⟨k1, k2, k3⟩ := g4 r o h
            have hr : ¬ r = i := by omega
            exact ⟨by omega, k2, RelOb_move (Z := entSup m hs tops) (r := r) rfl (by simp [entSup, hr]) (by simp [entSup, hr]) rfl (by simp [entSup, hr]) k3⟩
        · rw [he]
          refine ⟨hx, ?_⟩
          have keep : ∀ r o, look os r = some o → look ((i, ob) :: os) r = some o ∧ (entSup m (fun j => if j = i then h1 else hs j) (fun j => if j = i then t else tops j)).hs r = (entSup m hs tops).hs r ∧ (entSup m (fun j => if j = i then h1 else hs j) (fun j => if j = i then t else tops j)).tops r = (entSup m hs tops).tops r ∧ (entSup m (fun j => if j = i then h1 else hs j) (fun j => if j = i then t else tops j)).pd r = (entSup m hs tops).pd r ∧ (entSup m (fun j => if j = i then h1 else hs j) (fun j => if j = i then t else tops j)).rs r = (entSup m hs tops).rs r := by
           intro r o h
           obtain ⟨k1, k2, k3⟩ := g4 r o h
           have hr : ¬ r = i := by omega
           have hb : Nat.beq i r = false := by
             cases hb : Nat.beq i r with
             | false => rfl
             | true => exact absurd (Nat.eq_of_beq_eq_true hb).symm hr
           exact ⟨by simp only [look, hb]; exact h, by simp [entSup, hr], by simp [entSup, hr], rfl, by simp [entSup, hr]⟩
          exact g5.imp fun x _ v hv => rel_keepO (Z' := entSup m (fun j => if j = i then h1 else hs j) (fun j => if j = i then t else tops j)) (ob' := look ((i, ob) :: os)) (Le.refl m) keep hv
      have g6' : Ent (fun j => if j = i then t else tops j) (i + 1) ms ds vs := Ent_congr (fun j hj => if_neg (by omega)) g6
      have lk : ∀ ob : Ob, look ((i, ob) :: os) i = some ob := fun ob => by simp [look]
      rcases ht with ⟨e, b, off, et, ev⟩ | ⟨e, c, et, ev⟩
      · subst e et
        refine new (.ptr i []) { s := d.s, o := d.o, x := d.x, mem := true } rfl ⟨by simp [entSup], ?_⟩ ⟨_, d.s, b, off, lk _, by simp [entSup, res_nil], ev⟩ (by simp only [enterArgs, hpq]) ⟨⟨b, off, if_pos rfl, ev⟩, g6'⟩
        show RepT m d.s d.o (if i = i then h1 else _) (if i = i then .mem b off else _) d.x
        rw [if_pos rfl, if_pos rfl]; exact rt
      · subst et
        rcases hq with e2 | e2 | e2
        · exact absurd e2 e
        · subst e2
          refine new (.ov i []) { s := d.s, o := d.o, x := d.x, fixed := true } rfl ⟨by simp [entSup], ?_⟩ ⟨_, d.s, .flt c, c, lk _, by simp [entSup, res_nil], rfl, ev⟩ (by simp only [enterArgs, hpq]) ⟨⟨c, if_pos rfl, ev⟩, g6'⟩
          show RepT m d.s d.o (if i = i then h1 else _) (if i = i then .flt c else _) d.x
          rw [if_pos rfl, if_pos rfl]; exact rt
        · subst e2
          refine new (.ov i []) { s := d.s, o := d.o, x := d.x } rfl ⟨by simp [entSup], ?_⟩ ⟨_, d.s, .flt c, c, lk _, by simp [entSup, res_nil], rfl, ev⟩ (by simp only [enterArgs, hpq]) g6'
          show RepT m d.s d.o (if i = i then h1 else _) (if i = i then .flt c else _) d.x
          rw [if_pos rfl, if_pos rfl]; exact rt
    · have hq2 : q = .v ∨ q = .rd ∨ q = .nl := by cases q <;> simp_all
      rcases hq2 with e | e | e <;> subst e
      · obtain ⟨e1, c, e2, e3⟩ := r1
        refine ⟨hs, tops, fun j hj => g1 j (by omega), g2, fun j => (g3 j).trans sp.right, fun r o h => ?_, ⟨⟨c, e2, e3⟩, g5⟩, g6⟩
        obtain ⟨k1, k2, k3⟩ := g4 r o h
        exact ⟨by omega, k2, k3⟩
      · obtain ⟨e1, b, off, c, e2, e3, e4⟩ := r1
        refine ⟨hs, tops, fun j hj => g1 j (by omega), g2, fun j => (g3 j).trans sp.right, fun r o h => ?_, ⟨⟨b, off, c, e2, e3, e4⟩, g5⟩, g6⟩
        obtain ⟨k1, k2, k3⟩ := g4 r o h
        exact ⟨by omega, k2, k3⟩
      · obtain ⟨e1, e2⟩ := r1
        refine ⟨hs, tops, fun j hj => g1 j (by omega), g2, fun j => (g3 j).trans sp.right, fun r o h => ?_, ⟨e2, g5⟩, g6⟩
        obtain ⟨k1, k2, k3⟩ := g4 r o h
        exact ⟨by omega, k2, k3⟩
  | [], _ :: _, _, _, _, r => by simp [ArgsRep] at r
  | [], [], _ :: _, _, _, r => by simp [ArgsRep] at r
  | _ :: _, [], _, _, _, r => by simp [ArgsRep] at r
  | _ :: _, _ :: _, [], _, _, r => by simp [ArgsRep] at r
end
end Go.AE
namespace Go.AE
section
variable {P : Program} {tb : Hp} {C : Ctx tb} {Z : Sup} {st : St} {a : Act} {w w' : World} {g : Cfg} {o : Oper} {R : Type} {y : R}
theorem takeCaps_ok {ob : Obs} : ∀ {n : Nat} {l r : List AV} {c : List Cap} {fl : List Value}, takeCaps n l = some (c, r) → All2 (RelAV Z ob) l fl →
    ∃ cs fl', fl = cs ++ fl' ∧ cs.length = n ∧ All2 (RelCap Z ob) c cs ∧ All2 (RelAV Z ob) r fl'
  | 0, l, r, c, fl, h, hr => by
    simp only [takeCaps, Option.some.injEq, Prod.mk.injEq] at h
    obtain ⟨e1, e2⟩ := h
    subst e1 e2
    exact ⟨[], fl, rfl, rfl, trivial, hr⟩
  | n + 1, .ptr p q :: l, r, c, v :: fl, h, ⟨h1, h2⟩ => by
    simp only [takeCaps] at h
    split at h
    · rename_i c' r' he
      simp only [Option.some.injEq, Prod.mk.injEq] at h
      obtain ⟨e1, e2⟩ := h
      subst e1 e2
      obtain ⟨cs, fl', k1, k2, k3, k4⟩ := takeCaps_ok he h2
      exact ⟨v :: cs, fl', by rw [k1]; rfl, by simp [k2], ⟨h1, k3⟩, k4⟩
    · cases h
  | n + 1, .rp s x :: l, r, c, v :: fl, h, ⟨h1, h2⟩ => by
    simp only [takeCaps] at h
    split at h
    · rename_i c' r' he
      simp only [Option.some.injEq, Prod.mk.injEq] at h
      obtain ⟨e1, e2⟩ := h
      subst e1 e2
      obtain ⟨cs, fl', k1, k2, k3, k4⟩ := takeCaps_ok he h2
      exact ⟨v :: cs, fl', by rw [k1]; rfl, by simp [k2], ⟨h1, k3⟩, k4⟩
    · cases h
  | n + 1, [], r, c, fl, h, hr => by simp [takeCaps] at h
  | n + 1, .pv _ _ :: l, r, c, fl, h, hr => by simp [takeCaps] at h
  | n + 1, .z _ :: l, r, c, fl, h, hr => by simp [takeCaps] at h
  | n + 1, .ov _ _ :: l, r, c, fl, h, hr => by simp [takeCaps] at h
  | n + 1, .osub _ _ _ _ :: l, r, c, fl, h, hr => by simp [takeCaps] at h
  | n + 1, .app _ _ :: l, r, c, fl, h, hr => by simp [takeCaps] at h
  | n + 1, .fn _ _ :: l, r, c, fl, h, hr => by simp [takeCaps] at h
  | n + 1, .dead :: l, r, c, fl, h, hr => by simp [takeCaps] at h
theorem dropN_rel {ob : Obs} : ∀ {n : Nat} {l : List AV} {fl : List Value}, All2 (RelAV Z ob) l fl → All2 (RelAV Z ob) (dropN n l) (fl.drop n)
  | 0, l, fl, h => h
  | n + 1, [], [], h => h
  | n + 1, x :: l, v :: fl, ⟨h1, h2⟩ => dropN_rel (n := n) (l := l) (fl := fl) h2
theorem all2_one {ob : Obs} : ∀ {l : List AV} {fl : List Value}, All2 (RelAV Z ob) l fl → All2 (RelSV Z ob) (l.map .one) fl
  | [], [], h => h
  | x :: l, v :: fl, ⟨h1, h2⟩ => ⟨h1, all2_one h2⟩
theorem pars_ok {ob : Obs} : ∀ {ps : List Par} {vs fl : List Value} {as : List AV}, ParsV ps vs fl → All2 (RelAV Z ob) as fl → All2 (RelSV Z ob) (pars ps as) vs
  | [], vs, fl, as, h, hr => by rw [show fl = vs from h] at hr; exact all2_one hr
  | .one :: ps, v :: vs, fl, as, ⟨fl', e, h⟩, hr => by
    subst e
    match as, hr with
    | x :: as, ⟨h1, h2⟩ => exact ⟨h1, pars_ok h h2⟩
  | .fn f n :: ps, v :: vs, fl, as, ⟨cs, fl', e1, e2, e3, h⟩, hr => by
    subst e3
    simp only [pars]
    split
    · rename_i c r he
      obtain ⟨cs', fl2, k1, k2, k3, k4⟩ := takeCaps_ok he hr
      have : cs = cs' ∧ fl' = fl2 := List.append_inj k1 (e2.trans k2.symm)
      obtain ⟨q1, q2⟩ := this
      subst q1 q2
      exact ⟨⟨cs, e1, k3⟩, pars_ok h k4⟩
    · have := dropN_rel (n := n) hr
      rw [← e2, List.drop_left] at this
      rw [← e2]
      exact ⟨trivial, pars_ok h this⟩
  | .one :: ps, [], fl, as, h, hr => by simp [ParsV] at h
  | .fn f n :: ps, [], fl, as, h, hr => by simp [ParsV] at h
theorem getSlot_app : ∀ (l m : List SV) (i : Nat), getSlot (l ++ m) i = if i < l.length then getSlot l i else getSlot m (i - l.length)
  | [], m, i => by simp
  | a :: l, m, 0 => by simp [getSlot]
  | a :: l, m, i + 1 => by
    show getSlot (l ++ m) i = _
    rw [getSlot_app l m i]
    by_cases h : i < l.length
    · rw [if_pos h, if_pos (by simpa using h)]; rfl
    · rw [if_neg h, if_neg (by simpa using h)]; congr 1; simp
theorem getSlot_replic : ∀ (n i : Nat), getSlot (replic (.one .dead) n) i = .one .dead
  | 0, i => getSlot_nil i
  | n + 1, 0 => rfl
  | n + 1, i + 1 => getSlot_replic n i
theorem all2_get {ob : Obs} : ∀ {l : List SV} {vs : List Value}, All2 (RelSV Z ob) l vs → ∀ i, i < l.length → RelSV Z ob (getSlot l i) (vs.getD i undef)
  | x :: l, v :: vs, ⟨h1, h2⟩, 0, _ => h1
  | x :: l, v :: vs, ⟨h1, h2⟩, i + 1, h => all2_get h2 i (by simpa using h)
  | [], _, _, i, h => by simp at h
theorem entry_env {ob : Obs} {l : List SV} {vs : List Value} (n : Nat) (h : All2 (RelSV Z ob) l vs) :
    (∀ i, RelSV Z ob (getSlot (padTo n l) i) ((vs.toArray ++ Array.replicate (n - vs.toArray.size) undef).getD i undef)) ∧
    (vs.toArray ++ Array.replicate (n - vs.toArray.size) undef).size = (padTo n l).length := by
  have hl := h.len
  constructor
  · intro i
    unfold padTo
    rw [getSlot_app]
    by_cases hi : i < l.length
    · rw [if_pos hi]
      have := all2_get h i hi
      have e : (vs.toArray ++ Array.replicate (n - vs.toArray.size) undef).getD i undef = vs.getD i undef := by
        rw [Array.getD_eq_getD_getElem?, Array.getElem?_append_left (by simpa [← hl] using hi)]
        simp [List.getD_eq_getElem?_getD]
      rw [e]; exact this
    · rw [if_neg hi, getSlot_replic]; trivial
  · have hrl : ∀ (n : Nat), (replic (SV.one .dead) n).length = n := by intro n; rw [replic_eq]; simp
    simp [padTo, hrl, hl]
end
end Go.AE
namespace Go.AE
section
variable {P : Program} {tb : Hp} {C : Ctx tb} {Z : Sup} {st : St} {a : Act} {w w' : World} {g : Cfg} {o : Oper} {R : Type} {y : R}
def letGo (Z : Sup) (r : Nat) (hm : Hp) : Sup :=
  { Z with m := Un Z.m hm, hs := fun x => if x = r then Hp.e else Z.hs x, rs := fun x => if x = r then Hp.e else Z.rs x }
theorem rel_letGo (Rl : Rel Z st a.tmps w) {r : Nat} {hm : Hp} (hle : Le hm (Z.hs r)) : Rel (letGo Z r hm) { st with objs := dropOb st.objs r, env := killEnv r .all st.env } a.tmps w := by
  have dm : Dj Z.m hm := (Rl.mdj r).le (Le.refl _) hle
  have hob : ∀ x, ({ st with objs := dropOb st.objs r, env := killEnv r .all st.env } : St).ob x = if x = r then none else st.ob x := fun x => look_drop st.objs r x
  refine ⟨?_, ?_, ?_, ?_, ?_, ?_, ?_, ?_, ?_⟩
  · intro b o v e
    rcases (Un.sp dm).some e with z | z
    · exact Rl.imm _ _ _ z
    · exact (Rl.own r _ _ _ (hle _ _ _ z)).1
  · intro x b o v e
    simp only [letGo] at e
    split at e
    · cases e
    · exact Rl.own x _ _ _ e
  · intro x
    simp only [letGo]
    split
    · exact Dj.e _
    · rename_i hx
      intro b o
      cases e : Un Z.m hm b o with
      | none => exact .inl rfl
      | some v =>
        right
        rcases (Un.sp dm).some e with z | z
        · rcases Rl.mdj x b o with q | q
          · rw [z] at q; cases q
          · exact q
        · rcases Rl.dj x r hx b o with q | q
          · exact q
          · rw [hle _ _ _ z] at q; cases q
  · intro x x' hne
    simp only [letGo]
    split
    · exact (Dj.e _).symm
    · split
      · exact Dj.e _
      · exact Rl.dj x x' hne
  · intro x ob hx
    rw [hob] at hx
    split at hx
    · cases hx
    · rename_i h1
      exact RelOb_keep (Z := Z) (Un.le_left _ _) (by simp [letGo, h1]) rfl rfl (by simp [letGo, h1]) (Rl.obs x ob hx)
  · intro i
    have base := kills_env (Z := Z) (Z' := letGo Z r hm) (ob := st.ob) (ob' := ({ st with objs := dropOb st.objs r, env := killEnv r .all st.env } : St).ob) (tmps := a.tmps) [(r, .all)] st.env i (fun x v hun hx => by
      refine rel_keep (Z := Z) (Z' := letGo Z r hm) (bad := fun z => z = r) (Un.le_left _ _) ?_ ?_ ?_ ?_ ?_ ?_ hx
      · intro z hz; rw [hob, if_neg hz]
      · intro z hz; simp [letGo, hz]
      · intro z hz; rfl
      · intro z hz; rfl
      · intro z hz; simp [letGo, hz]
      · intro z hz; subst hz; exact hun (z, .all) (by simp)) (Rl.env i)
    rcases base with h | h
    · exact h
    · show RelSV _ _ (getSlot (killEnv r .all st.env) i) _
      rw [show killEnv r .all st.env = kills [(r, .all)] st.env from rfl, h]; trivial
  · show a.tmps.size = (killEnv r .all st.env).length
    rw [killEnv_len]; exact Rl.len
  · intro x ob hx hp
    rw [hob] at hx
    split at hx
    · cases hx
    · rename_i h1
      simp only [letGo, h1, if_false]
      exact Rl.rse x ob hx hp
  · intro x ob hx hlt hmf
    rw [hob] at hx
    split at hx
    · cases hx
    · exact Rl.pin x ob hx hlt hmf
end
end Go.AE
namespace Go.AE
section
variable {P : Program} {tb : Hp} {C : Ctx tb} {Z : Sup} {st : St} {a : Act} {w w' : World} {g : Cfg} {o : Oper} {R : Type} {y : R}
structure Taken (Z : Sup) (st : St) (a : Act) (w : World) (b : Bool) (v : Value) (d : Dy) (st' : St) (Z2 : Sup) (hr : Hp) : Prop where
  rel : Rel Z2 st' a.tmps w
  m : Le Z.m Z2.m
  one : ResOne Z2.m b v d hr
  hs : ∀ r, Le (Z2.hs r) (Z.hs r)
  dj : ∀ r, Dj hr (Z2.hs r)
  djm : Dj Z2.m hr
  src : ∀ b o u, hr b o = some u → ∃ r, Z.hs r b o = some u
  md : ∀ b o, Z2.m b o ≠ none → Z.m b o ≠ none ∨ ∃ r, Z.hs r b o ≠ none
  ob : ∀ r ob, st'.ob r = some ob → st.ob r = some ob ∧ Z2.tops r = Z.tops r ∧ Z2.hs r = Z.hs r
  ptop : Z2.ptop = Z.ptop
theorem taken_none (Rl : Rel Z st a.tmps w) {b : Bool} {v : Value} {d : Dy} (h : ResOne Z.m b v d Hp.e) : Taken Z st a w b v d st Z Hp.e :=
  ⟨Rl, Le.refl _, h, fun _ => Le.refl _, fun _ => (Dj.e _).symm, Dj.e _, fun _ _ _ e => (by cases e), fun _ _ h => .inl h, fun r ob h => ⟨h, rfl, rfl⟩, rfl⟩
theorem taken_go (Rl : Rel Z st a.tmps w) {r : Nat} {hm hr hS : Hp} (sp : Sp hS hm hr) (hle : Le hS (Z.hs r)) {b : Bool} {v : Value} {d : Dy} (h : ResOne (Un Z.m hm) b v d hr) :
    Taken Z st a w b v d { st with objs := dropOb st.objs r, env := killEnv r .all st.env } (letGo Z r hm) hr := by
  have h1 := sp.left.trans hle
  have h2 := sp.right.trans hle
  have dm : Dj Z.m hm := (Rl.mdj r).le (Le.refl _) h1
  refine ⟨rel_letGo Rl h1, Un.le_left _ _, h, ?_, ?_, ?_, fun b o u e => ⟨r, h2 _ _ _ e⟩, ?_, ?_, rfl⟩
  · intro x
    simp only [letGo]
    split
    · exact Le.e _
    · exact Le.refl _
  · intro x
    simp only [letGo]
    split
    · exact Dj.e _
    · rename_i hx; exact (Rl.dj r x (fun e => hx e.symm)).le h2 (Le.refl _)
  · intro b o
    cases e : Un Z.m hm b o with
    | none => exact .inl e
    | some u =>
      right
      rcases (Un.sp dm).some e with z | z
      · rcases (Rl.mdj r).le (Le.refl _) h2 b o with q | q
        · rw [z] at q; cases q
        · exact q
      · rcases sp.dj b o with q | q
        · rw [z] at q; cases q
        · exact q
  · intro b o hne
    cases e : (letGo Z r hm).m b o with
    | none => exact absurd e hne
    | some u =>
      have e : Un Z.m hm b o = some u := e
      rcases (Un.sp dm).some e with z | z
      · left; rw [z]; simp
      · right; exact ⟨r, by rw [h1 _ _ _ z]; simp⟩
  · intro x ob hx
    have hx : look (dropOb st.objs r) x = some ob := hx
    rw [look_drop] at hx
    split at hx
    · cases hx
    · rename_i h3; exact ⟨hx, rfl, by simp [letGo, h3]⟩
theorem resultK_ok (Rl : Rel Z st a.tmps w) {b : Bool} {m : O} {x : AV} {v : Value} {kk : Dy → St → Option R} (hv : RelAV Z st.ob x v) (h : resultK st b m x kk = some y) :
    ∃ d st' Z2 hr, kk d st' = some y ∧ Taken Z st a w b v d st' Z2 hr := by
  unfold resultK at h
  split at h
  · rename_i s x
    obtain ⟨hle, hk⟩ := cond_some h
    obtain ⟨c, e, r⟩ := hv
    obtain ⟨hm, h', sp, r2⟩ := Rep_weaken s m .imm Z.m Hp.e c x hle (Dj.e _) r
    have e1 : hm = Hp.e := funext fun b => funext fun o => by have := (sp b o).2; cases q : hm b o with | none => rfl | some u => have := sp.left _ _ _ q; cases this
    have e2 : h' = Hp.e := funext fun b => funext fun o => by cases q : h' b o with | none => rfl | some u => have := sp.right _ _ _ q; cases this
    subst e1 e2
    rw [Un_e_right] at r2
    exact ⟨_, _, Z, Hp.e, hk, taken_none Rl ⟨c, e, r2⟩⟩
  · rename_i s
    exact ⟨_, _, Z, Hp.e, h, taken_none Rl ⟨_, hv, Rep_zero _ _ _⟩⟩
  · rename_i r p
    split at h
    · rename_i ob hob
      split at h
      · rename_i hf hp ho
        obtain ⟨s, x, t, c, h1, A⟩ := at_of_get Rl hob hp ho h
        obtain ⟨hc, hk⟩ := cond_some h1
        simp only [Bool.and_eq_true] at hc
        obtain ⟨⟨hle, _⟩, _⟩ := hc
        obtain ⟨hR, rep, hRle⟩ := A.rep
        obtain ⟨hm, h', sp, r2⟩ := Rep_weaken s m _ Z.m hR c x hle ((Rl.mdj r).le (Le.refl _) hRle) rep
        exact ⟨_, _, _, h', hk, taken_go Rl sp hRle ⟨c, A.ov hv, r2⟩⟩
      · cases h
    · cases h
  · rename_i r
    split at h
    · rename_i ob hob
      split at h
      · rename_i hmem hp _
        obtain ⟨hle, hk⟩ := cond_some h
        have hro := Rl.obs r ob hob
        obtain ⟨b, off, ht⟩ := hro.1.1 hmem
        have hr2 := hro.2
        rw [hp] at hr2
        have hr2 : RepT Z.m ob.s ob.o (Z.hs r) (Z.tops r) ob.x := hr2
        rw [ht] at hr2
        obtain ⟨c, h2, sp, rep⟩ := hr2
        obtain ⟨hm, h', sp2, r2⟩ := Rep_weaken ob.s m _ Z.m h2 c ob.x hle ((Rl.mdj r).le (Le.refl _) sp.right) rep
        obtain ⟨s1, s2⟩ := Sp.assoc sp.symm sp2
        obtain ⟨o', s', b', off', e1, e2, e3⟩ := hv
        rw [hob] at e1; injection e1 with e1; subst e1
        rw [res_nil, ht] at e2
        simp only [Option.some.injEq, Prod.mk.injEq, Top.mem.injEq] at e2
        obtain ⟨_, q1, q2⟩ := e2
        subst q1 q2
        exact ⟨_, _, _, _, hk, taken_go Rl s1 (Le.refl _) ⟨b, off, e3, c, h', s2.symm, r2⟩⟩
      · cases h
    · cases h
  · cases h
theorem resultCellK_ok (hg : tableOk P g.ty = true) (Rl : Rel Z st a.tmps w) {m : O} {ad : Tmp} {t : TypeId} {kk : Dy → St → Option R} (h : resultCellK g st m ad t kk = some y) :
    ∃ d st' Z2 hr v, kk d st' = some y ∧ ((do loadVar t (← asAddr (a.tmps.getD ad undef)) : Sem Value).run P w = .ok v w) ∧ Taken Z st a w false v d st' Z2 hr := by
  unfold resultCellK at h
  have hv := eval_rel Rl none (.tmp ad)
  split at h
  · rename_i r he
    rw [he] at hv
    split at h
    · rename_i ob s hob hs
      split at h
      · rename_i es _ hp hb
        simp only [Bool.and_eq_true] at hb
        obtain ⟨hmem, h50⟩ := hb
        obtain ⟨hle, hk⟩ := cond_some h
        have hro := Rl.obs r ob hob
        obtain ⟨b, off, ht⟩ := hro.1.1 hmem
        have hr2 := hro.2
        rw [hp] at hr2
        have hr2 : RepT Z.m ob.s ob.o (Z.hs r) (Z.tops r) ob.x := hr2
        rw [ht] at hr2
        obtain ⟨c, h2, sp, rep⟩ := hr2
        obtain ⟨hm, h', sp2, r2⟩ := Rep_weaken ob.s m _ Z.m h2 c ob.x hle ((Rl.mdj r).le (Le.refl _) sp.right) rep
        obtain ⟨o', s', b', off', e1, e2, e3⟩ := hv
        rw [hob] at e1; injection e1 with e1; subst e1
        rw [res_nil, ht] at e2
        simp only [Option.some.injEq, Prod.mk.injEq, Top.mem.injEq] at e2
        obtain ⟨_, q1, q2⟩ := e2
        subst q1 q2
        have ety := tableOk_at hg hs
        have hlen := Rep_len _ _ _ _ _ _ rep
        have hld : (loadVar t ⟨b, off, none⟩).run P w = .ok (mkVal s c) w := run_loadVar_ok ety (by rw [hlen, es]) (fun j v e => hat_v.1 (Rl.own r _ _ _ (sp.left _ _ _ (blk_v e))).1)
        refine ⟨_, _, _, _, mkVal ob.s c, hk, ?_, taken_go Rl sp2 sp.right ⟨c, rfl, r2⟩⟩
        have e3 : a.tmps.getD ad undef = .pointer (some ⟨b, off, none⟩) := e3
        rw [e3, es, Sem.run_bind]
        exact hld
      · cases h
    · cases h
  · cases h
end
end Go.AE
namespace Go.AE
section
variable {P : Program} {tb : Hp} {C : Ctx tb} {Z : Sup} {st : St} {a : Act} {w w' : World} {g : Cfg} {o : Oper} {R : Type} {y : R}
def varRun (a : Act) : ResultVar → Sem Value
  | .tmp t => pure (a.tmps.getD t undef)
  | .cell b t => do loadVar t (← asAddr (a.tmps.getD b undef))
def VarsOk (P : Program) (a : Act) (w : World) : List ResultVar → List Value → Prop
  | [], [] => True
  | x :: xs, v :: vs => (varRun a x).run P w = .ok v w ∧ VarsOk P a w xs vs
  | _, _ => False
structure TakenL (Z : Sup) (st : St) (a : Act) (w : World) (bs : List Bool) (vals : List Value) (rs : List Dy) (st' : St) (Z2 : Sup) (HR : Hp) : Prop where
  rel : Rel Z2 st' a.tmps w
  m : Le Z.m Z2.m
  res : ResRep Z2.m bs rs vals HR
  hs : ∀ r, Le (Z2.hs r) (Z.hs r)
  dj : ∀ r, Dj HR (Z2.hs r)
  djm : Dj Z2.m HR
  src : ∀ b o u, HR b o = some u → ∃ r, Z.hs r b o = some u
  md : ∀ b o, Z2.m b o ≠ none → Z.m b o ≠ none ∨ ∃ r, Z.hs r b o ≠ none
  ob : ∀ r ob, st'.ob r = some ob → st.ob r = some ob ∧ Z2.tops r = Z.tops r ∧ Z2.hs r = Z.hs r
  ptop : Z2.ptop = Z.ptop
theorem ResOne_mono {m m' : Hp} (hm : Le m m') {b : Bool} {v : Value} {d : Dy} {h : Hp} (r : ResOne m b v d h) : ResOne m' b v d h := by
  cases b with
  | true => obtain ⟨b, off, e, c, h2, sp, q⟩ := r; exact ⟨b, off, e, c, h2, sp, Rep_mono hm _ _ _ _ _ q⟩
  | false => obtain ⟨c, e, q⟩ := r; exact ⟨c, e, Rep_mono hm _ _ _ _ _ q⟩
theorem resultsK_ok (hg : tableOk P g.ty = true) : ∀ {bs : List (Bool × O)} {vars : List ResultVar} {st : St} {Z : Sup} {kk : List Dy → St → Option R} {y : R}, Rel Z st a.tmps w → resultsK g bs vars st kk = some y →
    ∃ rs st' Z2 HR vs, kk rs st' = some y ∧ VarsOk P a w vars vs ∧ TakenL Z st a w (bs.map (·.1)) vs rs st' Z2 HR := by
  have join : ∀ {st st1 st2 : St} {Z Z1 Z2 : Sup} {b : Bool} {bs : List Bool} {v : Value} {vs : List Value} {d : Dy} {rs : List Dy} {hr HR : Hp}, Taken Z st a w b v d st1 Z1 hr → TakenL Z1 st1 a w bs vs rs st2 Z2 HR →
      TakenL Z st a w (b :: bs) (v :: vs) (d :: rs) st2 Z2 (Un hr HR) := by
    intro st st1 st2 Z Z1 Z2 b bs v vs d rs hr HR T L
    have d12 : Dj hr HR := fun b o => by
      cases e : HR b o with
      | none => exact .inr rfl
      | some u =>
        left
        obtain ⟨r, hr2⟩ := L.src _ _ _ e
        rcases T.dj r b o with z | z
        · exact z
        · rw [hr2] at z; cases z
    have dmh : Dj Z2.m hr := fun b o => by
      cases e : hr b o with
      | none => exact .inr rfl
      | some u =>
        left
        cases e2 : Z2.m b o with
        | none => rfl
        | some u2 =>
          exfalso
          rcases L.md b o (by rw [e2]; simp) with z | ⟨r, z⟩
          · rcases T.djm b o with q | q
            · exact z q
            · rw [e] at q; cases q
          · rcases T.dj r b o with q | q
            · rw [e] at q; cases q
            · exact z q
    refine ⟨L.rel, T.m.trans L.m, ⟨hr, HR, Un.sp d12, ResOne_mono L.m T.one, L.res⟩, fun r => (L.hs r).trans (T.hs r), ?_, ?_, ?_, ?_, ?_, L.ptop.trans T.ptop⟩
    · intro r b o
      cases e : Z2.hs r b o with
      | none => exact .inr rfl
      | some u =>
        left
        have e1 : hr b o = none := by
          rcases T.dj r b o with z | z
          · exact z
          · rw [L.hs r _ _ _ e] at z; cases z
        have e2 : HR b o = none := by
          rcases L.dj r b o with z | z
          · exact z
          · rw [e] at z; cases z
        simp [Un, e1, e2]
    · intro b o
      rcases dmh b o with z | z
      · exact .inl z
      · rcases L.djm b o with z2 | z2
        · exact .inl z2
        · right; simp [Un, z, z2]
    · intro b o u e
      rcases (Un.sp d12).some e with z | z
      · exact T.src _ _ _ z
      · obtain ⟨r, z⟩ := L.src _ _ _ z
        exact ⟨r, T.hs r _ _ _ z⟩
    · intro b o hne
      rcases L.md b o hne with z | ⟨r, z⟩
      · exact T.md b o z
      · right
        cases e : Z1.hs r b o with
        | none => exact absurd e z
        | some u => exact ⟨r, by rw [T.hs r _ _ _ e]; simp⟩
    · intro r ob hx
      obtain ⟨k1, k2, k3⟩ := L.ob r ob hx
      obtain ⟨j1, j2, j3⟩ := T.ob r ob k1
      exact ⟨j1, k2.trans j2, k3.trans j3⟩
  intro bs
  induction bs with
  | nil =>
    intro vars st Z kk y Rl h
    cases vars with
    | nil => exact ⟨[], st, Z, Hp.e, [], h, trivial, Rl, Le.refl _, rfl, fun _ => Le.refl _, fun _ => (Dj.e _).symm, Dj.e _, fun _ _ _ e => (by cases e), fun _ _ h => .inl h, fun r ob h => ⟨h, rfl, rfl⟩, rfl⟩
    | cons v vars => simp [resultsK] at h
  | cons bm bs ih =>
    intro vars st Z kk y Rl h
    obtain ⟨b, m⟩ := bm
    cases vars with
    | nil => simp [resultsK] at h
    | cons v vars =>
      cases v with
      | tmp t =>
        simp only [resultsK] at h
        have hv := eval_rel Rl none (.tmp t)
        obtain ⟨d, st1, Z1, hr, h1, T⟩ := resultK_ok (b := b) (m := m) Rl hv h
        obtain ⟨rs, st2, Z2, HR, vs, h2, ho, L⟩ := ih T.rel h1
        exact ⟨d :: rs, st2, Z2, Un hr HR, _ :: vs, h2, ⟨rfl, ho⟩, join T L⟩
      | cell ad t =>
        simp only [resultsK] at h
        cases b with
        | true => cases h
        | false =>
          simp only [cond_false] at h
          obtain ⟨d, st1, Z1, hr, v, h1, hrun, T⟩ := resultCellK_ok hg Rl h
          obtain ⟨rs, st2, Z2, HR, vs, h2, ho, L⟩ := ih T.rel h1
          exact ⟨d :: rs, st2, Z2, Un hr HR, v :: vs, h2, ⟨hrun, ho⟩, join T L⟩
end
end Go.AE
namespace Go.AE
section
variable {P : Program} {tb : Hp} {C : Ctx tb} {Z : Sup} {st : St} {a : Act} {w w' : World} {g : Cfg} {o : Oper} {R : Type} {y : R}
theorem ioBack_ok (Rl : Rel Z st a.tmps w) : ∀ {ms : List Mode} {ds : List Dy} {fl : List Value} {i : Nat} {kk : List Dy → Option R}, Ent Z.ptop i ms ds fl → ioBack st (ioNums i ms ds) kk = some y →
    ∃ ios H', kk ios = some y ∧ IosRep Z.m ms fl ios H' ∧ ∀ b o u, H' b o = some u → ∃ r, i ≤ r ∧ Z.hs r b o = some u := by
  have one : ∀ {i : Nat} {s : S} {l : List (Nat × S)} {kk : List Dy → Option R}, ioBack st ((i, s) :: l) kk = some y →
      ∃ ob : Ob, ioBack st l (fun ds => kk (⟨ob.s, ob.o, ob.x⟩ :: ds)) = some y ∧ ob.s = s ∧ Z.tops i = Z.ptop i ∧ RepT Z.m ob.s ob.o (Z.hs i) (Z.ptop i) ob.x := by
    intro i s l kk h
    simp only [ioBack] at h
    split at h
    · rename_i ob hob
      split at h
      · rename_i hs hp _ hb
        simp only [Bool.and_eq_true, Bool.or_eq_true] at hb
        obtain ⟨hb1, hb2⟩ := hb
        have hlt : i < 50 := by have := Nat.le_of_ble_eq_true hb2; omega
        have ht := Rl.pin i ob hob hlt hb1
        have ho := (Rl.obs i ob hob).2
        rw [hp] at ho
        rw [← ht]
        exact ⟨ob, h, hs, rfl, ho⟩
      · cases h
    · cases h
  have join : ∀ {i : Nat} {H' : Hp}, (∀ b o u, H' b o = some u → ∃ r, i + 1 ≤ r ∧ Z.hs r b o = some u) → Dj (Z.hs i) H' := by
    intro i H' h b o
    cases e : H' b o with
    | none => exact .inr rfl
    | some u =>
      left
      obtain ⟨r, hr, e2⟩ := h b o u e
      rcases Rl.dj i r (by omega) b o with z | z
      · exact z
      · rw [e2] at z; cases z
  have src : ∀ {i : Nat} {H' : Hp}, Dj (Z.hs i) H' → (∀ b o u, H' b o = some u → ∃ r, i + 1 ≤ r ∧ Z.hs r b o = some u) → ∀ b o u, Un (Z.hs i) H' b o = some u → ∃ r, i ≤ r ∧ Z.hs r b o = some u := by
    intro i H' dj h b o u e
    rcases (Un.sp dj).some e with z | z
    · exact ⟨i, Nat.le_refl _, z⟩
    · obtain ⟨r, hr, e2⟩ := h b o u z
      exact ⟨r, by omega, e2⟩
  intro ms
  induction ms with
  | nil =>
    intro ds fl i kk hE h
    match ds, fl, hE with
    | [], [], _ => exact ⟨[], Hp.e, h, rfl, fun _ _ _ e => by cases e⟩
  | cons q ms ih =>
    intro ds fl i kk hE h
    match q, ds, fl, hE with
    | .io, d :: ds, v :: fl, ⟨⟨b, off, e1, e2⟩, r⟩ =>
      obtain ⟨ob, h1, hs, ht, hr⟩ := one h
      obtain ⟨ios, H', k1, k2, k3⟩ := ih r h1
      rw [e1] at hr
      exact ⟨_, Un (Z.hs i) H', k1, ⟨Z.hs i, H', Un.sp (join k3), ⟨b, off, e2, hr⟩, k2⟩, src (join k3) k3⟩
    | .iov, d :: ds, v :: fl, ⟨⟨c, e1, e2⟩, r⟩ =>
      obtain ⟨ob, h1, hs, ht, hr⟩ := one h
      obtain ⟨ios, H', k1, k2, k3⟩ := ih r h1
      rw [e1] at hr
      exact ⟨_, Un (Z.hs i) H', k1, ⟨Z.hs i, H', Un.sp (join k3), ⟨c, by rw [e2]; show _ = mkVal ob.s c; rw [hs], hr⟩, k2⟩, src (join k3) k3⟩
    | .v, d :: ds, v :: fl, r =>
      obtain ⟨ios, H', k1, k2, k3⟩ := ih (i := i + 1) (ds := ds) (fl := fl) r h
      exact ⟨ios, H', k1, k2, fun b o u e => let ⟨x, hx, e2⟩ := k3 b o u e; ⟨x, by omega, e2⟩⟩
    | .rd, d :: ds, v :: fl, r =>
      obtain ⟨ios, H', k1, k2, k3⟩ := ih (i := i + 1) (ds := ds) (fl := fl) r h
      exact ⟨ios, H', k1, k2, fun b o u e => let ⟨x, hx, e2⟩ := k3 b o u e; ⟨x, by omega, e2⟩⟩
    | .nl, d :: ds, v :: fl, r =>
      obtain ⟨ios, H', k1, k2, k3⟩ := ih (i := i + 1) (ds := ds) (fl := fl) r h
      exact ⟨ios, H', k1, k2, fun b o u e => let ⟨x, hx, e2⟩ := k3 b o u e; ⟨x, by omega, e2⟩⟩
    | .tk, d :: ds, v :: fl, r =>
      obtain ⟨ios, H', k1, k2, k3⟩ := ih (i := i + 1) (ds := ds) (fl := fl) r h
      exact ⟨ios, H', k1, k2, fun b o u e => let ⟨x, hx, e2⟩ := k3 b o u e; ⟨x, by omega, e2⟩⟩
theorem results_run (P : Program) (fn : Func) (a : Act) (w : World) {vs : List Value} (h : VarsOk P a w fn.results.toList vs) :
    (results fn a.tmps).run P w = .ok (packV vs) w := by
  have key : ∀ (l : List ResultVar) (vs : List Value), VarsOk P a w l vs → (l.mapM (m := Sem) (varRun a)).run P w = .ok vs w := by
    intro l
    induction l with
    | nil => intro vs h; cases vs with
      | nil => rfl
      | cons _ _ => exact h.elim
    | cons x l ih =>
      intro vs h
      cases vs with
      | nil => exact h.elim
      | cons v vs =>
        obtain ⟨h1, h2⟩ := h
        rw [List.mapM_cons, Sem.run_bind, h1, Result.andThen_ok, Sem.run_bind, ih vs h2, Result.andThen_ok, Sem.run_pure]
  unfold results
  rw [Array.mapM_eq_mapM_toList, Sem.run_bind, Sem.run_map]
  have key' := key _ _ h
  have e : ∀ F : ResultVar → Sem Value, F = varRun a → (fn.results.toList.mapM F).run P w = .ok vs w := by rintro F rfl; exact key'
  refine Eq.trans (congrArg (fun r : Result (List Value) => Result.andThen (Result.andThen r (fun (l : List Value) w' => Result.ok l.toArray w')) (fun (l : Array Value) w' => Sem.run P (pure (if h : l.size = 1 then l[0] else Value.tuple l)) w')) (e _ (by funext x; cases x <;> rfl))) ?_
  show Result.ok (if h : vs.toArray.size = 1 then vs.toArray[0] else .tuple vs.toArray) w = _
  congr 1
  match vs with
  | [] => rfl
  | [v] => rfl
  | v :: u :: l => simp [packV]
noncomputable def mkCon (g : Cfg) (N : Nat) (fn : Func) (ps : List Par) (modes : List Mode) (res : List (Bool × O)) : Con :=
  { modes, ptrs := res.map (·.1), fn := fun ds k => bindO (body g N fn ps modes res ds fun r i => some (r, i)) fun p => k p.1 p.2 }
theorem body_ok {f : FuncId} {fn : Func} {N : Nat} {ps : List Par} {modes : List Mode} {res : List (Bool × O)} (hg : tableOk P g.ty = true) (hc : ConsOk P tb g.con) (hm : P.follows .mixedOrders = true) (hf : P.funcs[f]? = some fn) (hL : ∀ c, fn.body = some c → LoopsOk P tb g c) :
    ConOk P tb f ps (mkCon g N fn ps modes res) := by
  refine ⟨fun _ => ?_, fun b h => by cases h⟩
  intro w m H vs fl ds htab hps har himm hHeld hdj R k y h
  obtain ⟨⟨rs, ios⟩, h1, h2⟩ := bindO_eq h
  refine ⟨rs, ios, h2, ?_⟩
  unfold body at h1
  split at h1
  · cases h1
  · rename_i c hb
    have har : ArgsRep m modes ds fl H := har
    obtain ⟨hs, tops, g1, g2, g3, g4, g5, g6⟩ := enter_ok 0 har
    generalize hpq : enterArgs 0 modes ds = pq at h1 g4 g5
    obtain ⟨as, os⟩ := pq
    simp only at h1 g4 g5
    refine calls_of_wp hf hb ?_
    have e5 := entry_env fn.ntmps (pars_ok (Z := entSup m hs tops) hps g5)
    have Rl : Rel (entSup m hs tops) { env := padTo fn.ntmps (pars ps as), objs := os } (vs.toArray ++ Array.replicate (fn.ntmps - vs.toArray.size) undef) w :=
      ⟨himm, fun r b o v e => hHeld b o v (g3 r _ _ _ e), fun r => hdj.le (Le.refl _) (g3 r), g2, fun r o e => (g4 r o e).2.2, e5.1, e5.2, fun _ _ _ _ => rfl, fun _ _ _ _ _ => rfl⟩
    have F : Fr { w := w, ptop := tops, m := m, h := H, tab := htab } (entSup m hs tops) w :=
      ⟨rfl, rfl, rfl, Nat.le_refl _, fun _ _ _ => rfl, fun _ _ _ _ => rfl, fun _ _ _ => rfl, Le.refl _, fun r b o e => .inl (by
        cases q : (entSup m hs tops).hs r b o with
        | none => exact absurd q e
        | some u => show H b o ≠ none; rw [g3 r _ _ _ q]; simp), fun b o e => .inl e, rfl, fun _ _ => rfl, fun _ _ _ _ _ h _ => by cases h⟩
    refine Code.wp_mono ?_ (code_ok hg hc hm N c (hL c hb) _ _ (rs, ios) { tmps := vs.toArray ++ Array.replicate (fn.ntmps - vs.toArray.size) undef, defers := [] } w _ rfl Rl F h1)
    have fin : ∀ (st' : St) (a' : Act) (w' : World) (Z' : Sup), a'.defers = [] → Rel Z' st' a'.tmps w' → Fr { w := w, ptop := tops, m := m, h := H, tab := htab } Z' w' →
        resultsK g res fn.results.toList st' (fun rs st' => ioBack st' (ioNums 0 modes ds) fun ios => some (rs, ios)) = some (rs, ios) →
        a'.defers = [] ∧ ∃ v, (results fn a'.tmps).run P w' = .ok v w' ∧ CallPost m H w (mkCon g N fn ps modes res) fl rs ios (.returned v) w' := by
      intro st' a' w' Z' hd R' F' e
      obtain ⟨rs', st2, Z2, HR, vs2, k1, k2, T⟩ := resultsK_ok hg R' e
      have hpt : Z2.ptop = tops := by rw [T.ptop]; exact F'.ptop
      obtain ⟨ios', H', j1, j2, j3⟩ := ioBack_ok T.rel (ms := modes) (ds := ds) (fl := fl) (i := 0) (by rw [hpt]; exact g6) k1
      simp only [Option.some.injEq, Prod.mk.injEq] at j1
      obtain ⟨q1, q2⟩ := j1
      subst q1 q2
      have heldZ : ∀ b o u r, Z2.hs r b o = some u → hat w' b o = some u ∧ NF w' b := fun b o u r e => T.rel.own r b o u e
      refine ⟨hd, _, results_run P fn a' w' k2, _, Z2.m, H', HR, rfl, ⟨F'.os, F'.tape, F'.output, F'.size, F'.block, F'.cell, F'.frz, F'.shp⟩, F'.m.trans T.m, T.rel.imm, ?_, ?_, ?_, T.djm, ?_, ?_, ?_, ?_, j2, T.res⟩
      · intro b o u e
        obtain ⟨r, _, e2⟩ := j3 b o u e
        exact heldZ b o u r e2
      · intro b o u e
        obtain ⟨r, e2⟩ := T.src b o u e
        exact R'.own r b o u e2
      · intro b o
        cases e : H' b o with
        | none => exact .inr rfl
        | some u =>
          left
          obtain ⟨r, _, e2⟩ := j3 b o u e
          rcases T.rel.mdj r b o with z | z
          · exact z
          · rw [e2] at z; cases z
      · intro b o
        cases e : H' b o with
        | none => exact .inl rfl
        | some u =>
          right
          obtain ⟨r, _, e2⟩ := j3 b o u e
          rcases T.dj r b o with z | z
          · exact z
          · rw [e2] at z; cases z
      · intro b o e
        rcases T.md b o e with z | ⟨r, z⟩
        · exact F'.mf b o z
        · rcases F'.hs r b o z with q | q
          · exact .inr (.inl q)
          · exact .inr (.inr q)
      · intro b o e
        cases q : H' b o with
        | none => exact absurd q e
        | some u =>
          obtain ⟨r, _, e2⟩ := j3 b o u q
          exact F'.hs r b o (by rw [T.hs r _ _ _ e2]; simp)
      · intro b o e
        cases q : HR b o with
        | none => exact absurd q e
        | some u =>
          obtain ⟨r, e2⟩ := T.src b o u q
          exact F'.hs r b o (by rw [e2]; simp)
    rintro ex a' w' ⟨st', Z', k1, k2, k3, k4⟩
    cases ex with
    | normal => exact fin st' a' w' Z' k2 k3 k4 k1
    | ret => exact fin st' a' w' Z' k2 k3 k4 k1
    | exit id => cases k1
    | goto l => cases k1
    | panic ch => cases k1
    | outgrown => cases k1
theorem ConOk.weaken {f : FuncId} {ps : List Par} {c c' : Con} (h : ConOk P tb f ps c) (hm : c'.modes = c.modes) (hp : c'.ptrs = c.ptrs)
    (hfn : ∀ (ds : List Dy) {R : Type} (k : List Dy → List Dy → Option R) (y : R), c'.fn ds k = some y → c.fn ds k = some y) (h0 : c.bl = none) (h0' : c'.bl = none) : ConOk P tb f ps c' := by
  refine ⟨fun _ => ?_, fun b q => by rw [h0'] at q; cases q⟩
  intro w m H vs fl ds ht h1 h2 h3 h4 h5 R k y h6
  rw [hm] at h2
  obtain ⟨res, ios, k1, k2⟩ := h.1 h0 w m H vs fl ds ht h1 h2 h3 h4 h5 k y (hfn ds k y h6)
  refine ⟨res, ios, k1, k2.mono fun e w' hP => ?_⟩
  unfold CallPost at hP ⊢
  rw [hm, hp]
  exact hP
end
end Go.AE
namespace Go.AE
theorem castDm_eq {R : Type} {s : S} {o : O} {d : Dy} {k : den s → Option R} {y : R} (h : castDm s o d k = some y) : ∃ x, d = ⟨s, o, x⟩ ∧ k x = some y := by
  unfold castDm at h
  obtain ⟨hb, h9⟩ := cond_some h
  have e := O.beq_eq hb
  clear h hb
  unfold castD at h9
  split at h9
  · rename_i hs _
    obtain ⟨ds, do', dx⟩ := d
    simp only at hs e
    subst hs e
    exact ⟨dx, rfl, h9⟩
  · cases h9
theorem O.beq_self : ∀ o : O, o.beq o = true
  | .imm => rfl
  | .own o => O.beq_self o
  | .pr a b => by simp only [O.beq, O.beq_self a, O.beq_self b]; rfl
theorem castDm_self {R : Type} {s : S} {o : O} {x : den s} {k : den s → Option R} : castDm s o ⟨s, o, x⟩ k = k x := by
  unfold castDm
  simp only [O.beq_self, cond_true]
  unfold castD
  split
  · rfl
  · rename_i h _; exact absurd rfl h
theorem none_some {R : Type} {y : R} {p : Prop} (h : (none : Option R) = some y) : p := by cases h
def bindF {A R : Type} (m : Option A) (f : A → Option R) : Option R := bindO m f
theorem bindF_ifB {A R : Type} {c : Bool} {a b : Option A} {f : A → Option R} : bindF (ifB c a b) f = ifB c (bindF a f) (bindF b f) := by
  unfold ifB bindF; split <;> rfl
theorem bindF_bindO {A B R : Type} {m : Option A} {f : A → Option B} {g : B → Option R} : bindF (bindO m f) g = bindO m fun x => bindF (f x) g := by
  cases m <;> rfl
theorem bindF_pure {A R : Type} {x : A} {f : A → Option R} : bindF (some x) f = f x := rfl
theorem bindF_none {A R : Type} {f : A → Option R} : bindF none f = none := rfl
theorem bindF_onSum {A B C R : Type} {f : A → Option C} {g : B → Option C} {x : A ⊕ B} {h : C → Option R} : bindF (onSum f g x) h = onSum (fun a => bindF (f a) h) (fun b => bindF (g b) h) x := by
  cases x <;> rfl
theorem bindF_loopP {D E R R' : Type} {s1 : D → (D → Option R) → (E → Option R) → Option R} {s2 : D → (D → Option R') → (E → Option R') → Option R'} {g : R → Option R'}
    (hs : ∀ d kn kx, bindF (s1 d kn kx) g = s2 d (fun d' => bindF (kn d') g) (fun e => bindF (kx e) g)) : ∀ (n : Nat) (d : D) (k : E → Option R), bindF (loopP s1 n d k) g = loopP s2 n d fun e => bindF (k e) g
  | 0, d, k => rfl
  | n + 1, d, k => by
    show bindF (s1 d _ k) g = s2 d _ _
    rw [hs]
    congr 1
    funext d'
    exact bindF_loopP hs n d' k
theorem pars_eq : ∀ {ps qs : List Par}, parsBeq ps qs = true → ps = qs
  | [], [], _ => rfl
  | a :: ps, b :: qs, h => by
    simp only [parsBeq, Bool.and_eq_true] at h
    obtain ⟨h1, h2⟩ := h
    rw [pars_eq h2]
    cases a <;> cases b <;> simp [Par.beq] at h1 <;> simp_all
  | [], _ :: _, h => by cases h
  | _ :: _, [], h => by cases h
section
variable {P : Program} {tb : Hp} {g : Cfg}
theorem consOk_nil : ConsOk P tb [] := fun f ps c h => by cases h
theorem consOk_cons {f : FuncId} {ps : List Par} {c : Con} {l : List ((FuncId × List Par) × Con)} (hb : hasBody P f) (hc : ConOk P tb f ps c) (hd : ConDet c) (hl : ConsOk P tb l) : ConsOk P tb (((f, ps), c) :: l) := by
  intro f' ps' c' h
  simp only [lookCon] at h
  cases hh : Nat.beq f f' && parsBeq ps ps' with
  | true =>
    rw [hh] at h
    simp only [cond_true, Option.some.injEq] at h
    simp only [Bool.and_eq_true] at hh
    have e1 := Nat.eq_of_beq_eq_true hh.1
    have e2 := pars_eq hh.2
    subst e1 e2 h
    exact ⟨hb, hc, hd⟩
  | false =>
    rw [hh] at h
    exact hl f' ps' c' h
def fnBody (fn : Func) : Code := match fn.body with | some c => c | none => .skip
theorem conOk_mk {N : Nat} {fn : Func} {f : FuncId} {ps : List Par} {modes : List Mode} {res : List (Bool × O)} {c : Con} (hg : tableOk P g.ty = true) (hc : ConsOk P tb g.con) (hm : P.follows .mixedOrders = true)
    (hf : P.funcs[f]? = some fn) (hL : LoopsOk P tb g (fnBody fn)) (e1 : c.modes = modes) (e0 : c.bl = none) (e2 : c.ptrs = res.map (·.1))
    (h : ∀ (ds : List Dy) {R : Type} (k : List Dy → List Dy → Option R) (y : R), c.fn ds k = some y → (mkCon g N fn ps modes res).fn ds k = some y) : ConOk P tb f ps c :=
  have hL' : ∀ b, fn.body = some b → LoopsOk P tb g b := fun b hb => by
    have e : fnBody fn = b := by
      unfold fnBody
      rw [hb]
    rw [← e]
    exact hL
  (body_ok (N := N) (modes := modes) (res := res) hg hc hm hf hL').weaken e1 e2 h rfl e0
theorem con_fin {T R : Type} {N : Nat} {fn : Func} {ps : List Par} {modes : List Mode} {res : List (Bool × O)} {ds : List Dy} {m : Option T} {A B : T → List Dy} {k : List Dy → List Dy → Option R} {y : R}
    (hb : body g N fn ps modes res ds (fun r i => some (r, i)) = bindO m fun r => some (A r, B r)) (h : (bindO m fun r => k (A r) (B r)) = some y) : (mkCon g N fn ps modes res).fn ds k = some y := by
  show bindO (body g N fn ps modes res ds fun r i => some (r, i)) (fun p => k p.1 p.2) = some y
  rw [hb]
  obtain ⟨r, e, h⟩ := bindO_some h
  rw [e]; exact h
def nthLoop (c : Code) (i : Nat) : Code := match (loopsOf c)[i]? with | some b => b | none => .skip
def LoopsL (P : Program) (tb : Hp) (g : Cfg) : List Code → Prop
  | [] => True
  | b :: l => (∀ id L, loopKey b = some id → lookLoop g.loops id = some L → LoopOk P tb b L) ∧ LoopsL P tb g l
theorem loopsL_mem : ∀ {l : List Code}, LoopsL P tb g l → ∀ b ∈ l, ∀ id L, loopKey b = some id → lookLoop g.loops id = some L → LoopOk P tb b L
  | x :: l, h, b, hb => by
    cases hb with
    | head => exact h.1
    | tail _ hb => exact loopsL_mem h.2 b hb
theorem loopsL {c : Code} {l : List Code} (e : loopsOf c = l) (h : LoopsL P tb g l) : LoopsOk P tb g c := fun b hb => loopsL_mem h b (e ▸ hb)
theorem loopOne {b : Code} {id : Nat} {L0 : LoopCon} (h1 : loopKey b = some id) (h2 : lookLoop g.loops id = some L0) (h : LoopOk P tb b L0) : ∀ id' L, loopKey b = some id' → lookLoop g.loops id' = some L → LoopOk P tb b L := by
  intro id' L e1 e2
  rw [h1] at e1
  injection e1 with e1
  subst e1
  rw [h2] at e2
  injection e2 with e2
  subst e2
  exact h
end
end Go.AE
namespace Go.AE
def fn1 {T : Type} (S0 : S) (O0 : O) (f : den S0 → Option T) (A B : T → List Dy) {R : Type} (ds : List Dy) (k : List Dy → List Dy → Option R) : Option R := match ds with | [d0] => castDm S0 O0 d0 fun x0 => bindO (f x0) fun r => k (A r) (B r) | _ => none
theorem fn1_inv {T : Type} {S0 : S} {O0 : O} {f : den S0 → Option T} {A B : T → List Dy} {R : Type} {ds : List Dy} {k : List Dy → List Dy → Option R} {y : R} (h : fn1 S0 O0 f A B ds k = some y) : ∃ x0, ds = [⟨S0, O0, x0⟩] ∧ (bindO (f x0) fun r => k (A r) (B r)) = some y := by
  unfold fn1 at h
  cases ds with
  | nil => exact none_some h
  | cons d0 ds =>
  cases ds with
  | cons _ _ => exact none_some h
  | nil =>
  have h0 : (castDm S0 O0 d0 fun x0 => bindO (f x0) fun r => k (A r) (B r)) = some y := h
  clear h
  obtain ⟨x0, rfl, h1⟩ := castDm_eq h0
  exact ⟨x0, rfl, h1⟩
theorem det1 {T : Type} {ms : List Mode} {pt : List Bool} {S0 : S} {O0 : O} {f : den S0 → Option T} {A B : T → List Dy} : ConDet { modes := ms, ptrs := pt, fn := fn1 S0 O0 f A B } := by
  intro ds R k y h
  obtain ⟨x0, rfl, h2⟩ := fn1_inv h
  obtain ⟨r, e, h⟩ := bindO_some h2
  refine ⟨_, _, h, fun k' => ?_⟩
  show (castDm S0 O0 (⟨S0, O0, x0⟩ : Dy) fun x0 => bindO (f x0) fun r => k' (A r) (B r)) = _
  simp only [castDm_self]
  rw [e]
  rfl
theorem ok1 {P : Program} {tb : Hp} {g : Cfg} {N : Nat} {fn : Func} {fid : FuncId} {ps : List Par} {modes : List Mode} {pt : List Bool} {res : List (Bool × O)} {T : Type} {S0 : S} {O0 : O} {f : den S0 → Option T} {A B : T → List Dy} (hg : tableOk P g.ty = true) (hc : ConsOk P tb g.con) (hm : P.follows .mixedOrders = true) (hf : P.funcs[fid]? = some fn) (hL : LoopsOk P tb g (fnBody fn)) (e2 : pt = res.map (·.1))
    (hb : ∀ x0, body g N fn ps modes res [⟨S0, O0, x0⟩] (fun r i => some (r, i)) = bindO (f x0) fun r => some (A r, B r)) : ConOk P tb fid ps { modes := modes, ptrs := pt, fn := fn1 S0 O0 f A B } := by
  refine conOk_mk (g := g) (N := N) (res := res) hg hc hm hf hL rfl rfl e2 ?_
  intro ds R k y h
  obtain ⟨x0, rfl, h2⟩ := fn1_inv h
  exact con_fin (hb x0) h2
def fn2 {T : Type} (S0 : S) (O0 : O) (S1 : S) (O1 : O) (f : den S0 → den S1 → Option T) (A B : T → List Dy) {R : Type} (ds : List Dy) (k : List Dy → List Dy → Option R) : Option R := match ds with | [d0, d1] => castDm S0 O0 d0 fun x0 => castDm S1 O1 d1 fun x1 => bindO (f x0 x1) fun r => k (A r) (B r) | _ => none
theorem fn2_inv {T : Type} {S0 : S} {O0 : O} {S1 : S} {O1 : O} {f : den S0 → den S1 → Option T} {A B : T → List Dy} {R : Type} {ds : List Dy} {k : List Dy → List Dy → Option R} {y : R} (h : fn2 S0 O0 S1 O1 f A B ds k = some y) : ∃ x0 x1, ds = [⟨S0, O0, x0⟩, ⟨S1, O1, x1⟩] ∧ (bindO (f x0 x1) fun r => k (A r) (B r)) = some y := by
  unfold fn2 at h
  cases ds with
  | nil => exact none_some h
  | cons d0 ds =>
  cases ds with
  | nil => exact none_some h
  | cons d1 ds =>
  cases ds with
  | cons _ _ => exact none_some h
  | nil =>
  have h0 : (castDm S0 O0 d0 fun x0 => castDm S1 O1 d1 fun x1 => bindO (f x0 x1) fun r => k (A r) (B r)) = some y := h
  clear h
  obtain ⟨x0, rfl, h1⟩ := castDm_eq h0
  obtain ⟨x1, rfl, h2⟩ := castDm_eq h1
  exact ⟨x0, x1, rfl, h2⟩
theorem det2 {T : Type} {ms : List Mode} {pt : List Bool} {S0 : S} {O0 : O} {S1 : S} {O1 : O} {f : den S0 → den S1 → Option T} {A B : T → List Dy} : ConDet { modes := ms, ptrs := pt, fn := fn2 S0 O0 S1 O1 f A B } := by
  intro ds R k y h
  obtain ⟨x0, x1, rfl, h2⟩ := fn2_inv h
  obtain ⟨r, e, h⟩ := bindO_some h2
  refine ⟨_, _, h, fun k' => ?_⟩
  show (castDm S0 O0 (⟨S0, O0, x0⟩ : Dy) fun x0 => castDm S1 O1 (⟨S1, O1, x1⟩ : Dy) fun x1 => bindO (f x0 x1) fun r => k' (A r) (B r)) = _
  simp only [castDm_self]
  rw [e]
  rfl
theorem ok2 {P : Program} {tb : Hp} {g : Cfg} {N : Nat} {fn : Func} {fid : FuncId} {ps : List Par} {modes : List Mode} {pt : List Bool} {res : List (Bool × O)} {T : Type} {S0 : S} {O0 : O} {S1 : S} {O1 : O} {f : den S0 → den S1 → Option T} {A B : T → List Dy} (hg : tableOk P g.ty = true) (hc : ConsOk P tb g.con) (hm : P.follows .mixedOrders = true) (hf : P.funcs[fid]? = some fn) (hL : LoopsOk P tb g (fnBody fn)) (e2 : pt = res.map (·.1))
    (hb : ∀ x0 x1, body g N fn ps modes res [⟨S0, O0, x0⟩, ⟨S1, O1, x1⟩] (fun r i => some (r, i)) = bindO (f x0 x1) fun r => some (A r, B r)) : ConOk P tb fid ps { modes := modes, ptrs := pt, fn := fn2 S0 O0 S1 O1 f A B } := by
  refine conOk_mk (g := g) (N := N) (res := res) hg hc hm hf hL rfl rfl e2 ?_
  intro ds R k y h
  obtain ⟨x0, x1, rfl, h2⟩ := fn2_inv h
  exact con_fin (hb x0 x1) h2
def fn3 {T : Type} (S0 : S) (O0 : O) (S1 : S) (O1 : O) (S2 : S) (O2 : O) (f : den S0 → den S1 → den S2 → Option T) (A B : T → List Dy) {R : Type} (ds : List Dy) (k : List Dy → List Dy → Option R) : Option R := match ds with | [d0, d1, d2] => castDm S0 O0 d0 fun x0 => castDm S1 O1 d1 fun x1 => castDm S2 O2 d2 fun x2 => bindO (f x0 x1 x2) fun r => k (A r) (B r) | _ => none
theorem fn3_inv {T : Type} {S0 : S} {O0 : O} {S1 : S} {O1 : O} {S2 : S} {O2 : O} {f : den S0 → den S1 → den S2 → Option T} {A B : T → List Dy} {R : Type} {ds : List Dy} {k : List Dy → List Dy → Option R} {y : R} (h : fn3 S0 O0 S1 O1 S2 O2 f A B ds k = some y) : ∃ x0 x1 x2, ds = [⟨S0, O0, x0⟩, ⟨S1, O1, x1⟩, ⟨S2, O2, x2⟩] ∧ (bindO (f x0 x1 x2) fun r => k (A r) (B r)) = some y := by
  unfold fn3 at h
  cases ds with
  | nil => exact none_some h
  | cons d0 ds =>
  cases ds with
  | nil => exact none_some h
  | cons d1 ds =>
  cases ds with
  | nil => exact none_some h
  | cons d2 ds =>
  cases ds with
  | cons _ _ => exact none_some h
  | nil =>
  have h0 : (castDm S0 O0 d0 fun x0 => castDm S1 O1 d1 fun x1 => castDm S2 O2 d2 fun x2 => bindO (f x0 x1 x2) fun r => k (A r) (B r)) = some y := h
  clear h
  obtain ⟨x0, rfl, h1⟩ := castDm_eq h0
  obtain ⟨x1, rfl, h2⟩ := castDm_eq h1
  obtain ⟨x2, rfl, h3⟩ := castDm_eq h2
  exact ⟨x0, x1, x2, rfl, h3⟩
theorem det3 {T : Type} {ms : List Mode} {pt : List Bool} {S0 : S} {O0 : O} {S1 : S} {O1 : O} {S2 : S} {O2 : O} {f : den S0 → den S1 → den S2 → Option T} {A B : T → List Dy} : ConDet { modes := ms, ptrs := pt, fn := fn3 S0 O0 S1 O1 S2 O2 f A B } := by
  intro ds R k y h
  obtain ⟨x0, x1, x2, rfl, h2⟩ := fn3_inv h
  obtain ⟨r, e, h⟩ := bindO_some h2
  refine ⟨_, _, h, fun k' => ?_⟩
  show (castDm S0 O0 (⟨S0, O0, x0⟩ : Dy) fun x0 => castDm S1 O1 (⟨S1, O1, x1⟩ : Dy) fun x1 => castDm S2 O2 (⟨S2, O2, x2⟩ : Dy) fun x2 => bindO (f x0 x1 x2) fun r => k' (A r) (B r)) = _
  simp only [castDm_self]
  rw [e]
  rfl
theorem ok3 {P : Program} {tb : Hp} {g : Cfg} {N : Nat} {fn : Func} {fid : FuncId} {ps : List Par} {modes : List Mode} {pt : List Bool} {res : List (Bool × O)} {T : Type} {S0 : S} {O0 : O} {S1 : S} {O1 : O} {S2 : S} {O2 : O} {f : den S0 → den S1 → den S2 → Option T} {A B : T → List Dy} (hg : tableOk P g.ty = true) (hc : ConsOk P tb g.con) (hm : P.follows .mixedOrders = true) (hf : P.funcs[fid]? = some fn) (hL : LoopsOk P tb g (fnBody fn)) (e2 : pt = res.map (·.1))
    (hb : ∀ x0 x1 x2, body g N fn ps modes res [⟨S0, O0, x0⟩, ⟨S1, O1, x1⟩, ⟨S2, O2, x2⟩] (fun r i => some (r, i)) = bindO (f x0 x1 x2) fun r => some (A r, B r)) : ConOk P tb fid ps { modes := modes, ptrs := pt, fn := fn3 S0 O0 S1 O1 S2 O2 f A B } := by
  refine conOk_mk (g := g) (N := N) (res := res) hg hc hm hf hL rfl rfl e2 ?_
  intro ds R k y h
  obtain ⟨x0, x1, x2, rfl, h2⟩ := fn3_inv h
  exact con_fin (hb x0 x1 x2) h2
def fn4 {T : Type} (S0 : S) (O0 : O) (S1 : S) (O1 : O) (S2 : S) (O2 : O) (S3 : S) (O3 : O) (f : den S0 → den S1 → den S2 → den S3 → Option T) (A B : T → List Dy) {R : Type} (ds : List Dy) (k : List Dy → List Dy → Option R) : Option R := match ds with | [d0, d1, d2, d3] => castDm S0 O0 d0 fun x0 => castDm S1 O1 d1 fun x1 => castDm S2 O2 d2 fun x2 => castDm S3 O3 d3 fun x3 => bindO (f x0 x1 x2 x3) fun r => k (A r) (B r) | _ => none
theorem fn4_inv {T : Type} {S0 : S} {O0 : O} {S1 : S} {O1 : O} {S2 : S} {O2 : O} {S3 : S} {O3 : O} {f : den S0 → den S1 → den S2 → den S3 → Option T} {A B : T → List Dy} {R : Type} {ds : List Dy} {k : List Dy → List Dy → Option R} {y : R} (h : fn4 S0 O0 S1 O1 S2 O2 S3 O3 f A B ds k = some y) : ∃ x0 x1 x2 x3, ds = [⟨S0, O0, x0⟩, ⟨S1, O1, x1⟩, ⟨S2, O2, x2⟩, ⟨S3, O3, x3⟩] ∧ (bindO (f x0 x1 x2 x3) fun r => k (A r) (B r)) = some y := by
  unfold fn4 at h
  cases ds with
  | nil => exact none_some h
  | cons d0 ds =>
  cases ds with
  | nil => exact none_some h
  | cons d1 ds =>
  cases ds with
  | nil => exact none_some h
  | cons d2 ds =>
  cases ds with
  | nil => exact none_some h
  | cons d3 ds =>
  cases ds with
  | cons _ _ => exact none_some h
  | nil =>
  have h0 : (castDm S0 O0 d0 fun x0 => castDm S1 O1 d1 fun x1 => castDm S2 O2 d2 fun x2 => castDm S3 O3 d3 fun x3 => bindO (f x0 x1 x2 x3) fun r => k (A r) (B r)) = some y := h
  clear h
  obtain ⟨x0, rfl, h1⟩ := castDm_eq h0
  obtain ⟨x1, rfl, h2⟩ := castDm_eq h1
  obtain ⟨x2, rfl, h3⟩ := castDm_eq h2
  obtain ⟨x3, rfl, h4⟩ := castDm_eq h3
  exact ⟨x0, x1, x2, x3, rfl, h4⟩
theorem det4 {T : Type} {ms : List Mode} {pt : List Bool} {S0 : S} {O0 : O} {S1 : S} {O1 : O} {S2 : S} {O2 : O} {S3 : S} {O3 : O} {f : den S0 → den S1 → den S2 → den S3 → Option T} {A B : T → List Dy} : ConDet { modes := ms, ptrs := pt, fn := fn4 S0 O0 S1 O1 S2 O2 S3 O3 f A B } := by
  intro ds R k y h
  obtain ⟨x0, x1, x2, x3, rfl, h2⟩ := fn4_inv h
  obtain ⟨r, e, h⟩ := bindO_some h2
  refine ⟨_, _, h, fun k' => ?_⟩
  show (castDm S0 O0 (⟨S0, O0, x0⟩ : Dy) fun x0 => castDm S1 O1 (⟨S1, O1, x1⟩ : Dy) fun x1 => castDm S2 O2 (⟨S2, O2, x2⟩ : Dy) fun x2 => castDm S3 O3 (⟨S3, O3, x3⟩ : Dy) fun x3 => bindO (f x0 x1 x2 x3) fun r => k' (A r) (B r)) = _
  simp only [castDm_self]
  rw [e]
  rfl
theorem ok4 {P : Program} {tb : Hp} {g : Cfg} {N : Nat} {fn : Func} {fid : FuncId} {ps : List Par} {modes : List Mode} {pt : List Bool} {res : List (Bool × O)} {T : Type} {S0 : S} {O0 : O} {S1 : S} {O1 : O} {S2 : S} {O2 : O} {S3 : S} {O3 : O} {f : den S0 → den S1 → den S2 → den S3 → Option T} {A B : T → List Dy} (hg : tableOk P g.ty = true) (hc : ConsOk P tb g.con) (hm : P.follows .mixedOrders = true) (hf : P.funcs[fid]? = some fn) (hL : LoopsOk P tb g (fnBody fn)) (e2 : pt = res.map (·.1))
    (hb : ∀ x0 x1 x2 x3, body g N fn ps modes res [⟨S0, O0, x0⟩, ⟨S1, O1, x1⟩, ⟨S2, O2, x2⟩, ⟨S3, O3, x3⟩] (fun r i => some (r, i)) = bindO (f x0 x1 x2 x3) fun r => some (A r, B r)) : ConOk P tb fid ps { modes := modes, ptrs := pt, fn := fn4 S0 O0 S1 O1 S2 O2 S3 O3 f A B } := by
  refine conOk_mk (g := g) (N := N) (res := res) hg hc hm hf hL rfl rfl e2 ?_
  intro ds R k y h
  obtain ⟨x0, x1, x2, x3, rfl, h2⟩ := fn4_inv h
  exact con_fin (hb x0 x1 x2 x3) h2
def dd : Nat → List Sk → List Sk
  | 0, l => l
  | n + 1, l => .dead :: dd n l
end Go.AE
namespace Go.AE
open Go.RowKit (Below)
def memOf (w : World) : Hp := hat w
theorem below_of {w w' : World} (M : Mod Hp.e w w') : Below w.heap.size w w' :=
  ⟨M.os, M.tape, M.output, M.size, fun k hk => M.block k hk fun _ => rfl⟩
theorem law_calls {P : Program} {tb : Hp} {f : FuncId} {ps : List Par} {c : Con} {W : World} {vs : List Value} {ds : List Dy} {o : O} (ok : ConOk P tb f ps c) (hp : ParsV ps vs vs) (ha : ArgsRep (memOf W) c.modes ds vs Hp.e)
    (hptr : c.ptrs = [false]) (hbl : c.bl = none) (htb : Le tb (memOf W)) (h : c.fn ds (fun r i => some (r, i)) = some ([⟨.bool, o, true⟩], [])) :
    Calls P f vs.toArray W fun e W' => e = .returned (.bool true) ∧ Below W.heap.size W W' := by
  obtain ⟨res, ios, h1, h2⟩ := ok.1 hbl W (memOf W) Hp.e vs vs ds htb hp ha (fun b o v e => e) (fun _ _ _ e => by cases e) (Dj.e _) _ _ h
  simp only [Option.some.injEq, Prod.mk.injEq] at h1
  obtain ⟨e1, e2⟩ := h1
  subst e1 e2
  refine h2.mono fun e W' hP => ?_
  obtain ⟨rvs, m', H', HR, he, M, _, _, _, _, _, _, _, _, _, _, _, hres⟩ := hP
  refine ⟨?_, below_of M⟩
  rw [hptr] at hres
  cases rvs with
  | nil => simp [ResRep] at hres
  | cons v rvs =>
    obtain ⟨a, b, _, hone, hnil⟩ := hres
    cases rvs with
    | cons _ _ => simp [ResRep] at hnil
    | nil =>
      obtain ⟨cc, hv, _, hc⟩ := hone
      rw [he, hv, hc]
      rfl
theorem argsRep_nil {m : Hp} : ArgsRep m [] [] [] Hp.e := rfl
theorem argsRep_v {m : Hp} {ms : List Mode} {ds : List Dy} {vs : List Value} {s : S} {x : den s} {c : List Value} (hr : Rep m s .imm Hp.e c x) (h : ArgsRep m ms ds vs Hp.e) :
    ArgsRep m (.v :: ms) (⟨s, .imm, x⟩ :: ds) (mkVal s c :: vs) Hp.e := ⟨Hp.e, Hp.e, Sp.e_left _, ⟨rfl, c, rfl, hr⟩, h⟩
end Go.AE
