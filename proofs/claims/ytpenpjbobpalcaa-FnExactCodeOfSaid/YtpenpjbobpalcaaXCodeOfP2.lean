/- Plain laws of those functions. -/
import Derived.Test.YtpenpjbobpalcaaXCodeOfP1
namespace Go.AE.F
open Go.AE
theorem zF6 (l : List NodeT) (hl : l.length ≤ 1000) : ∀ (d F a : Nat) (kind : Int), 300 + d < F → d ≤ 20 → Tot (fun v => v < 0 ∨ ∃ e : Nat, v = (e : Int) ∧ TreeR l d a e) (zA7 F l (a : Int) kind (21 - (d : Int))) := by
  intro d
  induction d with
  | zero =>
    intro F a kind hF hd
    obtain ⟨F, rfl⟩ := zBL hF
    show Tot _ (zA7.st F (zA7 F) l (a : Int) kind (21 - ((0 : Nat) : Int)))
    unfold zA7.st
    have e : ∀ c : Bool, (ifB c (some true) (some (pGt (21 - ((0 : Nat) : Int)) 20))) = some true := fun c => by cases c <;> rfl
    rw [e, zA8, ifB_t, zA8, ifB_t]
    exact Tot.ret (.inl (by omega))
  | succ d ih =>
    intro F a kind hF hd
    obtain ⟨F, rfl⟩ := zBL hF
    show Tot _ (zA7.st F (zA7 F) l (a : Int) kind (21 - ((d + 1 : Nat) : Int)))
    unfold zA7.st
    rw [zBK]
    refine Tot.bind (P := fun c => c = false → a < l.length) (Tot.ite (fun _ => Tot.ret fun h => by cases h) (fun h => Tot.ret fun _ => ?_)) fun c hc => ?_
    · rw [pGe_d] at h
      have := of_decide_eq_false h
      omega
    have neg : Tot (fun v : Int => v < 0 ∨ ∃ e : Nat, v = (e : Int) ∧ TreeR l (d + 1) a e) (some (-1)) := Tot.ret (.inl (by omega))
    refine Tot.bind (P := fun c' => c' = false → a < l.length) ?_ fun c' hc' => ?_
    · refine Tot.ite (fun _ => Tot.ret fun h => by cases h) (fun h => ?_)
      have hlt := hc h
      rw [zBM hlt, zA8]
      exact Tot.bind (zF1 F (by omega) _) fun y _ => Tot.ret fun _ => hlt
    refine Tot.ite (fun _ => neg) (fun h => ?_)
    have hlt := hc' h
    have hget : l[a]? = some l[a] := List.getElem?_eq_getElem hlt
    rw [zBM hlt, zA8]
    generalize l[a] = n at hget
    refine Tot.bind (P := TT) (Tot.both (Tot.ret trivial) (Tot.ret trivial)) fun c1 _ => ?_
    have st : ∀ x, Tot TT (zB3 F x) := fun x => by
      unfold zB3
      exact Tot.bind (P := TT) (Tot.both (Tot.ret trivial) (Tot.ret trivial)) fun _ _ => Tot.ret trivial
    have ex : ∀ x, Tot TT (zB2 F x) := fun x => by
      unfold zB2
      exact Tot.bind (P := TT) (Tot.both (Tot.ret trivial) (Tot.ret trivial)) fun _ _ => Tot.ret trivial
    refine Tot.bind (P := TT) (Tot.both (Tot.ret trivial) (Tot.bind (P := TT) (Tot.both (Tot.bind (st _) fun _ _ => Tot.ret trivial) (Tot.ret trivial)) fun _ _ => Tot.ret trivial)) fun c2 _ => ?_
    refine Tot.bind (P := TT) (Tot.both (Tot.ret trivial) (Tot.bind (P := TT) (Tot.both (Tot.bind (ex _) fun _ _ => Tot.ret trivial) (Tot.ret trivial)) fun _ _ => Tot.ret trivial)) fun c3 _ => ?_
    refine Tot.both neg ?_
    obtain ⟨s, q1, q0, q3, q4⟩ := zCF F n
    rw [q1, zA8]
    have hstar : (ByteArray.mk #[42]).size = 1 := rfl
    refine Tot.bind (P := fun c => c = false → pSEq s (ByteArray.mk #[42]) = true ∨ n.2.2.2.1 = (s.size : Int)) ?_ fun c4 h4 => ?_
    · refine Tot.ite (fun _ => Tot.ret fun h => ?_) (fun h => Tot.ret fun _ => .inl ?_)
      · rw [pNe_d] at h
        right
        have h2 : decide (n.2.2.2.1 = pSize s) = true := by simpa using h
        exact of_decide_eq_true h2
      · rw [zBS] at h
        simpa using h
    refine Tot.bind (P := fun c => c = false → c4 = false ∧ 0 ≤ n.2.2.2.1) ?_ fun c5 h5 => ?_
    · refine Tot.ite (fun _ => Tot.ret fun h => by cases h) (fun h => Tot.ret fun h2 => ⟨h, ?_⟩)
      rw [pLt_d] at h2
      have := of_decide_eq_false h2
      omega
    refine Tot.bind (P := fun c => c = false → c5 = false ∧ n.2.2.2.1 ≤ 200) ?_ fun c6 h6 => ?_
    · refine Tot.ite (fun _ => Tot.ret fun h => by cases h) (fun h => Tot.ret fun h2 => ⟨h, ?_⟩)
      rw [pGt_d] at h2
      have := of_decide_eq_false h2
      omega
    refine Tot.ite (fun _ => neg) (fun h => ?_)
    obtain ⟨g1, g2⟩ := h6 h
    obtain ⟨g3, g4⟩ := h5 g1
    have g5 := h4 g3
    have hnok : nodeOk n := by
      refine ⟨g4, g2, fun h => ?_, fun h => ?_⟩
      · rcases g5 with g5 | g5
        · exfalso
          have := q3 h
          rw [zDG (by rw [hstar]; omega)] at g5; cases g5
        · have := q3 h; omega
      · rcases g5 with g5 | g5
        · exfalso
          have := q4 h
          rw [zDG (by rw [hstar]; omega)] at g5; cases g5
        · have := q4 h; omega
    obtain ⟨K, hK⟩ : ∃ K : Nat, n.2.2.2.1 = (K : Int) := ⟨n.2.2.2.1.toNat, by omega⟩
    rw [zBI (by omega) (by omega)]
    refine zBR (fun m d' => ∃ i e : Nat, d'.1 = l ∧ d'.2.1 = 21 - ((d + 1 : Nat) : Int) ∧ d'.2.2.1 = s ∧ d'.2.2.2.1 = (e : Int) ∧ d'.2.2.2.2.1 = (i : Int) ∧ d'.2.2.2.2.2.1 = n ∧ i ≤ K ∧ K ≤ m + i ∧ chainR (TreeR l d) i (a + 1) e)
      (fun e => match e with | .inl x => ∃ e : Nat, x.1 = (e : Int) ∧ chainR (TreeR l d) K (a + 1) e | .inr x => x.1 < 0) ?_ ?_ F K _ (by omega) ⟨0, a + 1, rfl, rfl, rfl, by show (a : Int) + 1 = _; omega, rfl, rfl, by omega, by omega, rfl⟩
    · intro e he
      rcases e with ⟨x, u⟩ | ⟨x, u⟩
      · obtain ⟨e, h1, h2⟩ := he
        exact Tot.ret (.inr ⟨e, h1, n, hget, hnok, by rw [hK, Int.toNat_natCast]; exact h2⟩)
      · exact Tot.ret (.inl he)
    · intro m d' kn kx ⟨i, e, h1, h2, h3, h4, h5, h6, h7, h8, h9⟩ hn hx
      unfold zA7.l11
      simp only [h1, h2, h3, h4, h5, h6, hK]
      refine Tot.ite (fun h => ?_) (fun h => hx _ ?_)
      · have hlt : (i : Int) < (K : Int) := by rw [pLt_d] at h; exact of_decide_eq_true h
        have hdd : pAdd .i64 (21 - ((d + 1 : Nat) : Int)) 1 = 21 - (d : Int) := by rw [zBI (by omega) (by omega)]; omega
        rw [hdd]
        have next : ∀ v : Int, (v < 0 ∨ ∃ e' : Nat, v = (e' : Int) ∧ TreeR l d e e') → Tot (fun r : ((List NodeT) × Int × ByteArray × Int × Int × NodeT × Unit) ⊕ (Int × Unit) => (∃ e' : Nat, r = .inl (l, 21 - ((d + 1 : Nat) : Int), s, (e' : Int), (i : Int), n, ()) ∧ TreeR l d e e') ∨ r = .inr (-1, ())) (ifB (pLt v 0) (some (.inr ((-1), ()))) (some (.inl (l, 21 - ((d + 1 : Nat) : Int), s, v, (i : Int), n, ())))) := fun v hv => by
          refine Tot.ite (fun _ => Tot.ret (.inr rfl)) (fun h => Tot.ret (.inl ?_))
          rw [pLt_d] at h
          have := of_decide_eq_false h
          rcases hv with hv | ⟨e', w1, w2⟩
          · exact absurd hv this
          · subst w1; exact ⟨e', rfl, w2⟩
        refine Tot.bind (P := fun r : ((List NodeT) × Int × ByteArray × Int × Int × NodeT × Unit) ⊕ (Int × Unit) => (∃ e' : Nat, r = .inl (l, 21 - ((d + 1 : Nat) : Int), s, (e' : Int), (i : Int), n, ()) ∧ TreeR l d e e') ∨ r = .inr (-1, ())) ?_ ?_
        · refine Tot.ite (fun h => ?_) (fun h => ?_)
          · have hns : pSEq s (ByteArray.mk #[42]) = false := by rw [zBS] at h; simpa using h
            have hsz : (K : Int) = (s.size : Int) := by
              rcases g5 with g5 | g5
              · rw [hns] at g5; cases g5
              · rw [← hK]; exact g5
            refine Tot.bind (zD4 s i (by omega)) fun b _ => ?_
            exact Tot.bind (ih F e b (by omega) (by omega)) next
          · exact Tot.bind (ih F e 115 (by omega) (by omega)) next
        · intro r hr
          rcases hr with ⟨e', rfl, ht⟩ | rfl
          · refine hn (m - 1) _ (by omega) ⟨i + 1, e', rfl, rfl, rfl, rfl, ?_, rfl, by omega, by omega, zC8 i h9 ht⟩
            show pAdd .i64 (i : Int) 1 = _
            rw [zBI (by omega) (by omega)]; rfl
          · exact hx _ (by show (-1 : Int) < 0; omega)
      · rw [pLt_d] at h
        have := of_decide_eq_false h
        have : i = K := by omega
        subst this
        exact ⟨e, rfl, h9⟩
theorem zDI (N : Nat) (hN : 2000 < N) (l : List NodeT) (hl : l.length ≤ 1000) : Tot (fun v : List ByteArray => v.length ≤ l.length) (zA5 N l) := by
  unfold zA5
  refine zBR (fun m d => ∃ i : Nat, d.1 = l ∧ d.2.1 = (i : Int) ∧ d.2.2.1.length ≤ i ∧ i ≤ l.length ∧ l.length ≤ m + i) (fun e => e.1.length ≤ l.length) (fun e he => Tot.ret he) ?_ N l.length _ (by omega) ⟨0, rfl, rfl, by simp, by omega, by omega⟩
  intro m d kn kx ⟨i, h1, h2, h3, h4, h5⟩ hn hx
  unfold zA5.l3
  simp only [h1, h2, zBK]
  refine Tot.ite (fun h => ?_) (fun _ => hx _ (by show d.2.2.1.length ≤ l.length; omega))
  have hlt : i < l.length := by rw [pLt_d] at h; have := of_decide_eq_true h; omega
  refine Tot.bind (P := fun r : (List NodeT) × Int × List ByteArray × Unit => r.1 = l ∧ r.2.1 = (i : Int) ∧ r.2.2.1.length ≤ i + 1) ?_ fun r hr => ?_
  · rw [zBM hlt, zA8]
    refine Tot.bind (P := TT) (Tot.both (Tot.ret trivial) (Tot.ret trivial)) fun c _ => ?_
    refine Tot.both (Tot.ret ⟨rfl, rfl, by show d.2.2.1.length ≤ i + 1; omega⟩) ?_
    refine zBR (fun m' d' => ∃ j : Nat, d'.1 = l ∧ d'.2.1 = (i : Int) ∧ d'.2.2.2.1 = (j : Int) ∧ d'.2.2.2.2.1.length ≤ i ∧ d'.2.2.2.2.1.length ≤ m' + j) (fun e => e.1 = l ∧ e.2.1 = (i : Int) ∧ e.2.2.2.1.length ≤ i) ?_ ?_ N i _ (by omega) ⟨0, rfl, rfl, rfl, h3, by omega⟩
    · intro e ⟨e1, e2, e3⟩
      simp only [e1, e2]
      refine Tot.both ?_ (Tot.ret ⟨rfl, rfl, by show e.2.2.2.1.length ≤ i + 1; omega⟩)
      rw [zBM hlt, zA8]
      exact Tot.fit (by simp; omega) (Tot.ret ⟨rfl, rfl, by show (pApp e.2.2.2.1 _).length ≤ i + 1; simp [pApp]; omega⟩)
    · intro m' d' kn' kx' ⟨j, g1, g2, g3, g4, g5⟩ hn' hx'
      unfold zA5.l8
      simp only [g1, g2, g3, zBK]
      refine Tot.ite (fun h => ?_) (fun _ => hx' _ ⟨rfl, rfl, g4⟩)
      have hlt2 : j < d'.2.2.2.2.1.length := by rw [pLt_d] at h; have := of_decide_eq_true h; omega
      refine Tot.bind (P := fun r : (List NodeT) × Int × Bool × Int × List ByteArray × Unit => r.1 = l ∧ r.2.1 = (i : Int) ∧ r.2.2.2.1 = (j : Int) ∧ r.2.2.2.2.1 = d'.2.2.2.2.1) ?_ fun r hr => ?_
      · refine Tot.both (Tot.ret ⟨rfl, rfl, rfl, rfl⟩) ?_
        rw [zBM hlt2, zA8, zA8, zBM hlt, zA8]
        exact Tot.ret ⟨rfl, rfl, rfl, rfl⟩
      · obtain ⟨r1, r2, r3, r4⟩ := hr
        exact hn' (m' - 1) _ (by omega) ⟨j + 1, r1, r2, by show pAdd .i64 r.2.2.2.1 1 = _; rw [r3, zBI (by omega) (by omega)]; rfl, by rw [r4]; exact g4, by rw [r4]; omega⟩
  · obtain ⟨r1, r2, r3⟩ := hr
    exact hn (m - 1) _ (by omega) ⟨i + 1, r1, by show pAdd .i64 r.2.1 1 = _; rw [r2, zBI (by omega) (by omega)]; rfl, r3, by omega, by omega⟩
theorem zE0 (N : Nat) (hN : 2000 < N) (l : List NodeT) (hl : l.length ≤ 1000) : Tot (fun c => c = true → l.length ≤ 200 ∧ ∃ e, TreeR l 20 0 e ∧ e = l.length) (zAV N l) := by
  unfold zAV
  rw [zBK]
  refine Tot.bind (P := fun c => c = true → l.length ≤ 200 ∧ ∃ e, TreeR l 20 0 e ∧ e = l.length) ?_ fun c hc => ?_
  · refine Tot.ite (fun h => ?_) (fun _ => Tot.ret fun h => by cases h)
    have hle : l.length ≤ 200 := by rw [pLe_d] at h; have := of_decide_eq_true h; omega
    refine Tot.bind (zF6 l hl 20 N 0 98 (by omega) (by omega)) fun v hv => Tot.ret fun h => ⟨hle, ?_⟩
    rw [pEq_d] at h
    have h := of_decide_eq_true h
    rcases hv with hv | ⟨e, h1, h2⟩
    · omega
    · exact ⟨e, h2, by omega⟩
  refine Tot.bind (P := fun d => d = true → c = true) (Tot.ite (fun h => Tot.bind (zDI N hN l hl) fun _ _ => Tot.ret fun _ => h) (fun _ => Tot.ret fun h => by cases h)) fun d hd => Tot.ret fun h => hc (hd h)
end Go.AE.F
namespace Go.AE.F
open Go.AE
theorem zEB (s : ByteArray) : ∀ (n i : Nat) (r : List UInt8), s.size - i = n → ByteArray.toList.loop s i r = r.reverse ++ s.data.toList.drop i
  | 0, i, r, h => by
    rw [ByteArray.toList.loop, if_neg (by omega), List.drop_eq_nil_of_le, List.append_nil]
    have : s.data.toList.length = s.size := Array.length_toList
    omega
  | n + 1, i, r, h => by
    have hs : s.data.toList.length = s.size := Array.length_toList
    rw [ByteArray.toList.loop, if_pos (by omega), zEB s n (i + 1) _ (by omega), List.reverse_cons, List.append_assoc]
    congr 1
    rw [List.drop_eq_getElem_cons (by omega : i < s.data.toList.length)]
    have hi : i < s.data.size := by have : s.data.size = s.size := rfl; omega
    show [s.data[i]!] ++ _ = _
    rw [getElem!_pos s.data i hi]; simp
theorem zCT (s : ByteArray) : s.toList = s.data.toList := by
  unfold ByteArray.toList
  rw [zEB s s.size 0 [] (by omega)]; rfl
theorem zBV (a b : ByteArray) : pSEq a b = decide (a = b) := by
  unfold pSEq
  rw [zCT, zCT]
  by_cases h : a = b
  · subst h; simp
  · rw [decide_eq_false h, beq_eq_false_iff_ne]
    intro e
    apply h
    cases a; cases b
    simp only [ByteArray.mk.injEq]
    exact Array.ext' e
def okB (b : UInt8) : Bool := (decide (97 ≤ b.toNat) && decide (b.toNat ≤ 122)) || decide (b.toNat = 45)
def keyG (s : ByteArray) : Bool := decide (1 ≤ s.size) && decide (s.size ≤ 20) && s.data.toList.all okB
theorem zD1 (s : ByteArray) : s.data.toList.length = s.size := Array.length_toList
theorem zCV (N : Nat) (s : ByteArray) (hs : s.size ≤ 20) (k : (Unit) ⊕ (Bool × Unit) → Option Bool) (h1 : k (.inl ()) = some true) (h2 : ∀ b, k (.inr (b, ())) = some b) :
    ∀ (n i : Nat), i ≤ s.size → s.size < n + i → loopP (zAG.l4 N) n (s, (i : Int), ()) k = some ((s.data.toList.drop i).all okB)
  | 0, i, h, hn => by omega
  | n + 1, i, h, hn => by
    have hl := zD1 s
    rw [zBJ]; unfold zAG.l4
    simp only [zF2, hl]
    by_cases hi : i < s.size
    · rw [pLt_t (by omega), ifB_t, zCH (by omega)]
      rw [List.drop_eq_getElem_cons (by omega : i < s.data.toList.length), List.all_cons]
      generalize s.data.toList[i]'(by omega) = b
      simp only [zA8, zBN, zC0, pGe_d, pLe_d, pEq_d, zBS]
      have e : (decide ((b.toNat : Int) ≥ 97) && decide ((b.toNat : Int) ≤ 122) || decide ((b.toNat : Int) = 45)) = okB b := by
        unfold okB
        congr 1
        · congr 1
          · exact decide_eq_decide.2 (by omega)
          · exact decide_eq_decide.2 (by omega)
        · exact decide_eq_decide.2 (by omega)
      rw [e]
      cases okB b with
      | false => simp only [Bool.not_false, ifB_t, h2, Bool.false_and]
      | true =>
        simp only [Bool.not_true, ifB_f, Bool.true_and]
        rw [zBI (by omega) (by omega)]
        exact zCV N s hs k h1 h2 n (i + 1) (by omega) (by omega)
    · rw [pLt_f (by omega), ifB_f, h1, List.drop_eq_nil_of_le (by omega)]; rfl
theorem zEO (N : Nat) (hN : 30 < N) (s : ByteArray) : zAG N s = some (keyG s) := by
  unfold zAG keyG
  simp only [pSize, pLt_d, pGt_d, zC0, zA8]
  by_cases h1 : 1 ≤ s.size
  · by_cases h2 : s.size ≤ 20
    · have e : (decide ((s.size : Int) < 1) || decide ((s.size : Int) > 20)) = false := by rw [decide_eq_false (by omega), decide_eq_false (by omega)]; rfl
      rw [e, ifB_f, decide_eq_true h1, decide_eq_true h2]
      refine (zCV N s h2 _ ?_ ?_ N 0 (by omega) (by omega)).trans ?_
      · rfl
      · intro b; rfl
      · rw [List.drop_zero]; rfl
    · rw [decide_eq_true (by omega : (s.size : Int) > 20), Bool.or_true, ifB_t, decide_eq_false h2, Bool.and_false]; rfl
  · rw [decide_eq_true (by omega : (s.size : Int) < 1), Bool.true_or, ifB_t, decide_eq_false h1]; rfl
end Go.AE.F
