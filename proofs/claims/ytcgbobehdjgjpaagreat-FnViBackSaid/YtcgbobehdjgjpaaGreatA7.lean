/- The abstract evaluator of the program's own code, and its soundness: part 7. -/
import Derived.Test.YtcgbobehdjgjpaaGreatA6
import Derived.Lib.Strings
import Derived.Lib.Slices
import Derived.Lib.Walk
import Derived.Lib.Bytealg
namespace Go.AE
def pIB (s : ByteArray) (c : Int) : Int := match s.data.toList.findIdx? (fun b => b == c.toNat.toUInt8) with | some i => (i : Int) | none => -1
theorem ib_find (c : UInt8) : ∀ l : List UInt8, Lib.indexByte l c = match l.findIdx? (fun b => b == c) with | some i => (i : Int) | none => -1
  | [] => rfl
  | b :: l => by
    unfold Lib.indexByte
    rw [List.findIdx?_cons]
    cases hb : (b == c) with
    | true => rfl
    | false =>
      simp only [Bool.false_eq_true, if_false]
      rw [ib_find c l]
      cases l.findIdx? (fun b => b == c) with
      | none => rfl
      | some i =>
        simp only [Option.map_some]
        have : ((i : Int) == -1) = false := by simp
        rw [this]
        simp
def ibCon (F : ByteArray → Int → Option Int) : Con :=
  { modes := [.v, .v], ptrs := [false], fn := fn2 .str .imm (.int .u8) .imm F (fun r => [⟨.int .i64, .imm, r⟩]) (fun _ => []) }
theorem ib_conOk {P : Program} {f : FuncId} (hr : ∀ (s : ByteArray) (c : Int) (w : World), Calls P f #[.string s, .int .u8 c] w fun e w' => e = .returned (.int .i64 (Lib.indexByte s.data.toList c.toNat.toUInt8)) ∧ w' = w)
    {F : ByteArray → Int → Option Int} (hF : ∀ s c, F s c = some (pIB s c)) : ConOk P f [.one, .one] (ibCon F) := by
  intro w m H vs fl ds hp ha himm hH hD R k y h
  obtain ⟨s, c, rfl, h2⟩ := fn2_inv h
  clear h
  obtain ⟨r, er, hk⟩ := bindO_some h2
  rw [hF] at er
  injection er with er
  subst er
  refine ⟨_, _, hk, ?_⟩
  clear hk h2
  match vs, hp with
  | v0 :: vs, ⟨fl1, e0, hp⟩ =>
  match vs, hp with
  | v1 :: vs, ⟨fl2, e1, hp⟩ =>
  have e4 : fl2 = vs := hp
  subst e4 e1 e0
  obtain ⟨h0, h12, s0, ⟨z0, c0, ev0, rep0⟩, h1, hb, s1, ⟨z1, c1, ev1, rep1⟩, hend⟩ := ha
  cases fl2 with
  | cons _ _ => exact hend.elim
  | nil =>
  have hend : hb = Hp.e := hend
  subst z0 z1 hend
  have q1 := s1.eq_right
  subst q1
  have q1 := s0.eq_right
  subst q1
  have ec0 : c0 = [.string s] := rep0.2
  have ec1 : c1 = [.int .u8 c] := rep1.2
  subst ec0 ec1
  have ev0 : v0 = .string s := ev0
  have ev1 : v1 = .int .u8 c := ev1
  subst ev0 ev1
  refine (hr s c w).mono fun en w' hh => ?_
  obtain ⟨q1, q2⟩ := hh
  subst q1 q2
  rw [ib_find]
  exact ⟨[_], m, Hp.e, Hp.e, rfl, Mod.refl _ _, Le.refl _, himm, (fun b o u e => by cases e), (fun b o u e => by cases e), (Dj.e _).symm.symm, (Dj.e _).symm.symm, (Dj.e _), fun b o h => .inl h, fun b o h => absurd rfl h, fun b o h => absurd rfl h, rfl, Hp.e, Hp.e, Sp.e_right _, ⟨[_], rfl, ⟨rfl, rfl⟩⟩, rfl⟩
theorem ib_det {F : ByteArray → Int → Option Int} : ConDet (ibCon F) := det2
end Go.AE
