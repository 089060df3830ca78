/-
  Proved here: what two iterators and bits.Len64 give.
  Conditions: those that the theorems name.
-/
import Derived.Test.YtlndinolkjgjbaaPh
import Derived.Test.YtlndinolkjgjbaaTb
import Derived.Test.YtlndinolkjgjbaaFn
import Derived.Shelf.Small.Bits
set_option linter.all false
set_option maxRecDepth 100000
namespace Go.Proofs.Bol
open Go.Px

def lenRen : Go.Shelf.Ren := { f := fun x => match x with | 129 => 95 | n => n, t := fun x => match x with | 53 => 136 | 3 => 3 | 4 => 4 | 46 => 132 | 5 => 5 | 9 => 9 | n => n, g := fun x => x }

theorem lenLays : Lays.n129 Try.prog lenRen :=
  { mixed := Eq.refl true, f129 := Eq.trans Try.func95 (congrArg some (Eq.refl (Body.n129 lenRen))),
    t3 := Try.underlying3, a3 := Try.isAgg3, z3 := Try.sizeOf3, v3 := Try.zeroValue3, t4 := Try.underlying4,
    a4 := Try.isAgg4, z4 := Try.sizeOf4, v4 := Try.zeroValue4, t5 := Try.underlying5, a5 := Try.isAgg5, z5 := Try.sizeOf5,
    v5 := Try.zeroValue5, t9 := Try.underlying9, a9 := Try.isAgg9, z9 := Try.sizeOf9, v9 := Try.zeroValue9,
    t46 := Try.underlying132, a46 := Try.isAgg132, z46 := Try.sizeOf132, v46 := Try.zeroValue132,
    t53 := Try.underlying136, a53 := Try.isAgg136, z53 := Try.sizeOf136, v53 := Try.zeroValue136 }

theorem bitLen_log (n : Nat) (h : n < 2 ^ 64) : Lib.bitLen n = if n = 0 then 0 else Nat.log2 n + 1 := by
  have aux : ∀ f n, n < 2 ^ f → Lib.bitLenAux f n = if n = 0 then 0 else Nat.log2 n + 1 := by
    intro f
    induction f with
    | zero => intro n hn; have : n = 0 := by omega
              subst this; rfl
    | succ f ih =>
      intro n hn
      unfold Lib.bitLenAux
      by_cases h0 : n = 0
      · simp [h0]
      · rw [if_neg h0, if_neg h0, ih (n / 2) (by rw [Nat.pow_succ] at hn; omega), Nat.log2_def n]
        by_cases h2 : 2 ≤ n
        · rw [if_pos h2, if_neg (by omega)]
          omega
        · have : n = 1 := by omega
          subst this
          rfl
  exact aux 64 n h

theorem len64_calls (x y : Int) (h : bits_Len64 x = some y) (w : Go.World) : CallsW Try.prog 95 #[.int .u64 x] w fun e w' => e = .returned (.int .i64 y) ∧ w' = w := by
  unfold bits_Len64 at h
  by_cases hc : (decide (0 ≤ x) && decide (x ≤ 18446744073709551615)) = true
  · rw [hc] at h
    simp only [cond_true, Option.some.injEq] at h
    simp only [Bool.and_eq_true, decide_eq_true_eq] at hc
    have := (callsIn_wide (n := 0)).2 (Any.bits_Len64 lenLays x w hc.1 hc.2)
    rw [bitLen_log x.toNat (by omega)] at this
    have he : (((if x.toNat = 0 then 0 else Nat.log2 x.toNat + 1 : Nat)) : Int) = y := by
      rw [← h]
      have : x.toNat = 0 ↔ x = 0 := by omega
      by_cases hx : x = 0
      · simp [hx]
      · rw [if_neg (fun e => hx (this.1 e)), if_neg hx]
    rw [he] at this
    exact this
  · have hc : (decide (0 ≤ x) && decide (x ≤ 18446744073709551615)) = false := by simpa using hc
    rw [hc] at h
    simp at h

theorem ok_bits_Len64 : EntOK Try.prog D e_bits_Len64 := by
  refine fun1_ok tabOK ⟨Try.f95, by kernel_rfl, by kernel_rfl, by kernel_rfl⟩ fun x y h w ok v hv => ?_
  have hv : RelV D w ok (.int .u64 x) v := hv
  have hv : v = .int .u64 x := by
    cases hv with
    | cell h => cases h; rfl
  subst hv
  refine (len64_calls x y h w).mono ?_
  rintro e w' ⟨rfl, rfl⟩
  exact ⟨_, rfl, rfl, .cell (.int .i64 y)⟩

theorem law_span_pairs_c1 : ∀ (a : (Int × Int) × (Int × Int)) (xs : List (Int × Int)), span_pairs_c1 (-1) a = some xs → ∀ m, span_pairs_c1 m a = some (xs.take (handed xs.length m)) := by
  intro a xs h m
  have h : some ((((([] : List (Int × Int)) ++ [(a.1.1, a.2.1)]) ++ [(a.1.1, a.2.2)]) ++ [(a.1.2, a.2.1)]) ++ [(a.1.2, a.2.2)]) = some xs := h
  cases h
  unfold span_pairs_c1 handed
  by_cases h0 : m < 0
  · have e0 : decide ((0 : Int) = m) = false := decide_eq_false (by omega)
    have e1 : decide ((1 : Int) = m) = false := decide_eq_false (by omega)
    have e2 : decide ((2 : Int) = m) = false := decide_eq_false (by omega)
    have e3 : decide ((3 : Int) = m) = false := decide_eq_false (by omega)
    simp [e0, e1, e2, e3, h0]
  · by_cases h4 : 4 ≤ m
    · have e0 : decide ((0 : Int) = m) = false := decide_eq_false (by omega)
      have e1 : decide ((1 : Int) = m) = false := decide_eq_false (by omega)
      have e2 : decide ((2 : Int) = m) = false := decide_eq_false (by omega)
      have e3 : decide ((3 : Int) = m) = false := decide_eq_false (by omega)
      have : min 4 (m.toNat + 1) = 4 := by omega
      simp [e0, e1, e2, e3, h0, this]
    · have : m = 0 ∨ m = 1 ∨ m = 2 ∨ m = 3 := by omega
      rcases this with rfl | rfl | rfl | rfl <;> rfl

noncomputable def pullsF (a0 : World) (a1 : Int) (a2 : Area) (i : Int) : Option (Option (Int × (Int × Area))) :=
  cond (decide (i < (a0.Bodies.length : Int))) ((force_of a0 i a1).bind fun r2 => (force_heavy_pull r2 a2).bind fun r3 => some (some (IntKind.wrap .i64 (i + 1), (i, r3)))) (some none)

theorem force_pulls_emit (m : Int) (a0 : World) (a1 : Int) (a2 : Area) : force_pulls_c1 m a0 a1 a2 = loopM (emitStep (pullsF a0 a1 a2) m) (0, []) := by
  unfold force_pulls_c1
  refine congrFun (congrArg _ (funext fun s => ?_)) _
  unfold emitStep pullsF
  cases decide (s.1 < (a0.Bodies.length : Int)) with
  | false => rfl
  | true =>
    simp only [cond_true]
    cases force_of a0 s.1 a1 with
    | none => rfl
    | some r2 =>
      simp only [Option.bind_some]
      cases force_heavy_pull r2 a2 with
      | none => rfl
      | some r3 => rfl

theorem law_force_pulls_c1 : ∀ (x : World × Int × Area) (xs : List (Int × Area)), force_pulls_c1 (-1) x.1 x.2.1 x.2.2 = some xs → ∀ m, force_pulls_c1 m x.1 x.2.1 x.2.2 = some (xs.take (handed xs.length m)) := by
  intro x xs h m
  rw [force_pulls_emit] at h ⊢
  exact emitM h m

end Go.Proofs.Bol
