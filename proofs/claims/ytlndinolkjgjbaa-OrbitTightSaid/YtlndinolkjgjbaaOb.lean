/-
  Proved here: the plain law.
  Conditions: those that the theorems name.
-/
import Derived.Test.YtlndinolkjgjbaaOa
import Derived.KernelRfl
set_option linter.all false
set_option linter.all false
namespace Go.Proofs.Bol
open Go.Px

/-! ## bits.Div64 comes to an end -/

theorem leading_sat {y : Int} (h0 : 0 < y) (h1 : y ≤ 18446744073709551615) : Sat (bits_LeadingZeros64 y) fun r => 0 ≤ r ∧ r ≤ 63 ∧ 9223372036854775808 ≤ y * 2 ^ r.toNat ∧ y * 2 ^ r.toNat ≤ 18446744073709551615 := by
  unfold bits_LeadingZeros64 bits_Len64
  have hc : (decide (0 ≤ y) && decide (y ≤ 18446744073709551615)) = true := within_true (by omega) h1
  rw [hc, if_neg (by omega)]
  obtain ⟨n, hn⟩ : ∃ n : Nat, n = y.toNat := ⟨_, rfl⟩
  have hy : y = (n : Int) := by omega
  rw [← hn]
  have hn0 : n ≠ 0 := by omega
  have hlo : 2 ^ Nat.log2 n ≤ n := Nat.log2_self_le hn0
  have hhi : n < 2 ^ (Nat.log2 n + 1) := Nat.lt_log2_self
  obtain ⟨k, hk⟩ : ∃ k, k = Nat.log2 n := ⟨_, rfl⟩
  rw [← hk] at hlo hhi ⊢
  have hk63 : k ≤ 63 := by
    rcases Nat.lt_or_ge 63 k with h | h
    · exfalso
      have : 2 ^ 64 ≤ 2 ^ k := Nat.pow_le_pow_right (by omega) (by omega)
      omega
    · exact h
  have e : IntKind.wrap .i64 (64 - ((k + 1 : Nat) : Int)) = ((63 - k : Nat) : Int) := by
    rw [wrap_i64 (by omega) (by omega)]
    omega
  show Sat (some (IntKind.wrap .i64 (64 - ((k + 1 : Nat) : Int)))) _
  rw [e]
  refine Sat.ret ⟨by omega, by omega, ?_, ?_⟩
  · rw [hy]
    have : 2 ^ k * 2 ^ (63 - k) ≤ n * 2 ^ (63 - k) := Nat.mul_le_mul_right _ hlo
    rw [← Nat.pow_add, show k + (63 - k) = 63 by omega] at this
    have h2 : ((n * 2 ^ (63 - k) : Nat) : Int) = (n : Int) * 2 ^ (63 - k) := by simp
    show 9223372036854775808 ≤ (n : Int) * 2 ^ (63 - k)
    rw [← h2]
    omega
  · rw [hy]
    have : n * 2 ^ (63 - k) < 2 ^ (k + 1) * 2 ^ (63 - k) := Nat.mul_lt_mul_of_pos_right hhi (Nat.pow_pos (by omega))
    rw [← Nat.pow_add, show k + 1 + (63 - k) = 64 by omega] at this
    have h2 : ((n * 2 ^ (63 - k) : Nat) : Int) = (n : Int) * 2 ^ (63 - k) := by simp
    show (n : Int) * 2 ^ (63 - k) ≤ 18446744073709551615
    rw [← h2]
    omega

/-- how far a trial is from its end -/
def tries (r : Int) : Nat := if 0 ≤ r ∧ r < 4294967296 then (4294967296 - r).toNat else 4294967297

theorem tries_lt {r y : Int} (hr : 0 ≤ r) (hr' : r ≤ 18446744073709551615) (hy : 1 ≤ y) (hy' : y ≤ 4294967296) (h : ¬ 4294967296 ≤ IntKind.wrap .u64 (r + y)) : tries (IntKind.wrap .u64 (r + y)) < tries r ∧ 0 ≤ IntKind.wrap .u64 (r + y) ∧ IntKind.wrap .u64 (r + y) ≤ 18446744073709551615 := by
  have hw := wrap_u64_range (r + y)
  refine ⟨?_, hw⟩
  unfold tries
  rw [if_pos (by omega)]
  split
  · rename_i h1
    have : IntKind.wrap .u64 (r + y) = r + y := wrap_u64 (by omega) (by omega)
    omega
  · omega

theorem div64_sat {hi lo y : Int} (h0 : 0 ≤ hi) (h1 : hi < y) (h2 : y ≤ 18446744073709551615) (h3 : 0 ≤ lo) : Sat (bits_Div64 hi lo y) fun r => 0 ≤ r.1 := by
  unfold bits_Div64
  refine Sat.dec (fun h => by omega) fun _ => Sat.dec (fun h => by omega) fun _ => Sat.dec (fun _ => ?_) fun _ => ?_
  · exact Sat.dec (fun h => by omega) fun _ => Sat.dec (fun h => by omega) fun _ => Sat.ret (wrap_u64_range _).1
  · refine Sat.bind (leading_sat (y := y) (by omega) h2) fun r1 hr => ?_
    obtain ⟨r0, r1', r2, r3⟩ := hr
    have ew : IntKind.wrap .u64 r1 = r1 := wrap_u64 r0 (by omega)
    have em : min (Int.toNat r1) (IntKind.bits .u64) = r1.toNat := by show min r1.toNat 64 = r1.toNat; omega
    have ey : IntKind.wrap .u64 (y * 2 ^ r1.toNat) = y * 2 ^ r1.toNat := wrap_u64 (by omega) r3
    simp only [ew, em, ey]
    obtain ⟨ys, hys⟩ : ∃ ys, ys = y * 2 ^ r1.toNat := ⟨_, rfl⟩
    rw [← hys] at r2 r3
    simp only [← hys]
    have e32 : ((2 : Int) ^ (min (Int.toNat 32) (IntKind.bits .u64))) = 4294967296 := by decide
    have ed : ∀ z : Int, Int.fdiv z (2 ^ (min (Int.toNat 32) (IntKind.bits .u64))) = z / 4294967296 := fun z => by rw [e32, Int.fdiv_eq_ediv_of_nonneg _ (by omega)]
    simp only [ed]
    obtain ⟨yn, hyn⟩ : ∃ yn, yn = ys / 4294967296 := ⟨_, rfl⟩
    have hyn1 : 1 ≤ yn ∧ yn ≤ 4294967296 := by omega
    simp only [← hyn]
    refine Sat.dec (fun h => by omega) fun _ => Sat.dec (fun h => by omega) fun _ => Sat.dec (fun h => by have := wrap_u64_range (64 - r1); omega) fun _ => Sat.dec (fun h => by omega) fun _ => Sat.dec (fun h => by omega) fun _ => ?_
    have go : ∀ {r : Int}, 0 ≤ r → r ≤ 18446744073709551615 → ¬ 4294967296 ≤ IntKind.wrap .u64 (r + yn) → (0 ≤ IntKind.wrap .u64 (r + yn) ∧ IntKind.wrap .u64 (r + yn) ≤ 18446744073709551615) ∧ tries (IntKind.wrap .u64 (r + yn)) < tries r := fun a b c => by
      have := tries_lt a b hyn1.1 hyn1.2 c
      exact ⟨this.2, this.1⟩
    refine Sat.loop (fun s : Int × Int => 0 ≤ s.2 ∧ s.2 ≤ 18446744073709551615) (fun s => tries s.2) (fun s hs => ?_) (wrap_u64_range _)
    refine Sat.dec (fun _ => Sat.dec (fun _ => ?_) fun hc => Sat.ret (go hs.1 hs.2 hc)) fun _ => Sat.dec (fun _ => Sat.dec (fun _ => ?_) fun hc => Sat.ret (go hs.1 hs.2 hc)) fun _ => ?_
    · exact (Sat.map (Sat.dec (fun h => by omega) fun _ => Sat.loop (fun t : Int × Int => 0 ≤ t.1 ∧ t.1 ≤ 18446744073709551615) (fun t => tries t.1) (fun t ht =>
        Sat.dec (fun _ => Sat.dec (fun _ => Sat.map (Sat.dec (fun h => by omega) fun _ => Sat.ret (wrap_u64_range _).1)) fun hc => Sat.ret (go ht.1 ht.2 hc))
        fun _ => Sat.dec (fun _ => Sat.dec (fun _ => Sat.map (Sat.dec (fun h => by omega) fun _ => Sat.ret (wrap_u64_range _).1)) fun hc => Sat.ret (go ht.1 ht.2 hc))
        fun _ => Sat.map (Sat.dec (fun h => by omega) fun _ => Sat.ret (wrap_u64_range _).1)) (wrap_u64_range _)))
    · exact (Sat.map (Sat.dec (fun h => by omega) fun _ => Sat.loop (fun t : Int × Int => 0 ≤ t.1 ∧ t.1 ≤ 18446744073709551615) (fun t => tries t.1) (fun t ht =>
        Sat.dec (fun _ => Sat.dec (fun _ => Sat.map (Sat.dec (fun h => by omega) fun _ => Sat.ret (wrap_u64_range _).1)) fun hc => Sat.ret (go ht.1 ht.2 hc))
        fun _ => Sat.dec (fun _ => Sat.dec (fun _ => Sat.map (Sat.dec (fun h => by omega) fun _ => Sat.ret (wrap_u64_range _).1)) fun hc => Sat.ret (go ht.1 ht.2 hc))
        fun _ => Sat.map (Sat.dec (fun h => by omega) fun _ => Sat.ret (wrap_u64_range _).1)) (wrap_u64_range _)))
    · exact (Sat.map (Sat.dec (fun h => by omega) fun _ => Sat.loop (fun t : Int × Int => 0 ≤ t.1 ∧ t.1 ≤ 18446744073709551615) (fun t => tries t.1) (fun t ht =>
        Sat.dec (fun _ => Sat.dec (fun _ => Sat.map (Sat.dec (fun h => by omega) fun _ => Sat.ret (wrap_u64_range _).1)) fun hc => Sat.ret (go ht.1 ht.2 hc))
        fun _ => Sat.dec (fun _ => Sat.dec (fun _ => Sat.map (Sat.dec (fun h => by omega) fun _ => Sat.ret (wrap_u64_range _).1)) fun hc => Sat.ret (go ht.1 ht.2 hc))
        fun _ => Sat.map (Sat.dec (fun h => by omega) fun _ => Sat.ret (wrap_u64_range _).1)) (wrap_u64_range _)))

end Go.Proofs.Bol

set_option linter.all false
namespace Go.Proofs.Bol
open Go.Px

theorem span_size_sat (a : Int) : Sat (span_size a) fun r => 0 ≤ r ∧ r ≤ 18446744073709551615 := by
  unfold span_size
  exact Sat.dec (fun _ => Sat.ret (wrap_u64_range _)) fun _ => Sat.ret (wrap_u64_range _)

theorem span_product_sat (a b : Int) : Sat (span_product a b) fun r => 0 ≤ r.wide.high ∧ 0 ≤ r.wide.low := by
  unfold span_product span_times bits_Mul64
  refine Sat.bind (span_size_sat a) fun r1 h1 => Sat.bind (span_size_sat b) fun r2 h2 => ?_
  refine Sat.bind (Q := fun w : Span_wide => 0 ≤ w.high ∧ 0 ≤ w.low) ?_ fun r3 h3 => Sat.ret h3
  exact Sat.bind (Q := fun p : Int × Int => 0 ≤ p.1 ∧ 0 ≤ p.2) (Sat.ret ⟨(wrap_u64_range _).1, (wrap_u64_range _).1⟩) fun p hp => Sat.ret hp

theorem fit_zero : Fit 0 := ⟨by decide, by decide⟩

theorem signed_divide_sat (a : Span_signed) (b : Int) (h : 0 ≤ a.wide.high ∧ 0 ≤ a.wide.low) : Sat (span_signed_divide a b) fun r => Fit r.1 ∧ Fit r.2.1 := by
  unfold span_signed_divide
  refine Sat.bind (span_size_sat b) fun r1 h1 => Sat.dec (fun _ => Sat.ret ⟨fit_zero, fit_zero⟩) fun hlt => ?_
  refine Sat.bind (div64_sat h.1 (by omega) h1.2 h.2) fun r2 h2 => ?_
  have key : ∀ n : Int, 0 ≤ n → n ≤ 1152921504606846976 → Fit (IntKind.wrap .i64 n) ∧ Fit (IntKind.wrap .i64 (0 - IntKind.wrap .i64 n)) := fun n a b => by
    rw [wrap_i64 (n := n) (by omega) (by omega), wrap_i64 (n := 0 - n) (by omega) (by omega)]
    exact ⟨⟨by omega, by omega⟩, ⟨by omega, by omega⟩⟩
  have hw := wrap_u64_range (r2.1 + 1)
  refine Sat.dec (fun _ => Sat.dec (fun _ => Sat.ret ⟨fit_zero, fit_zero⟩) fun c1 => Sat.dec (fun _ => Sat.ret ⟨fit_zero, fit_zero⟩) fun c2 => Sat.cond (fun _ => Sat.ret ?_) fun _ => Sat.ret ?_)
    fun _ => Sat.dec (fun _ => Sat.ret ⟨fit_zero, fit_zero⟩) fun c1 => Sat.dec (fun _ => Sat.ret ⟨fit_zero, fit_zero⟩) fun c2 => Sat.cond (fun _ => Sat.ret ?_) fun _ => Sat.ret ?_
  · exact ⟨(key _ hw.1 (by omega)).2, (key _ h2 (by omega)).2⟩
  · exact ⟨(key _ h2 (by omega)).1, (key _ hw.1 (by omega)).1⟩
  · exact ⟨(key _ h2 (by omega)).2, (key _ h2 (by omega)).2⟩
  · exact ⟨(key _ h2 (by omega)).1, (key _ h2 (by omega)).1⟩

theorem span_MulDiv_sat (a b c : Int) : Sat (span_MulDiv a b c) fun r => Fit r.1 ∧ Fit r.2.1 := by
  unfold span_MulDiv
  refine Sat.bind (span_fits_sat a) fun r1 h1 => Sat.cond (fun _ => Sat.ret ⟨fit_zero, fit_zero⟩) fun _ => ?_
  refine Sat.bind (span_fits_sat b) fun r1 h1 => Sat.cond (fun _ => Sat.ret ⟨fit_zero, fit_zero⟩) fun _ => ?_
  refine Sat.bind (span_fits_sat c) fun r1 h1 => Sat.cond (fun _ => Sat.ret ⟨fit_zero, fit_zero⟩) fun _ => Sat.dec (fun _ => Sat.ret ⟨fit_zero, fit_zero⟩) fun _ => ?_
  refine Sat.bind (span_product_sat a b) fun r4 h4 => ?_
  exact Sat.bind (signed_divide_sat r4 c h4) fun r5 h5 => Sat.ret h5

theorem span_combine_sat (a b : Span) (f : Int × Int → Option (Int × Int × Int)) (hf : ∀ x, Sat (f x) fun r => Fit r.1 ∧ Fit r.2.1) : Sat (span_combine a b f) fun r => FitS r.1 := by
  unfold span_combine
  refine Sat.bind (span_valid_sat a b) fun r1 h1 => Sat.ndec (fun _ => Sat.ret fit0) fun _ => ?_
  refine Sat.bind (Q := fun _ => True) ?_ fun r2 _ => ?_
  · unfold span_pairs
    refine Sat.bind (Q := fun _ => True) (Sat.ret trivial) fun i _ => Sat.ret trivial
  · refine Sat.forL (fun s : Span × Int × Span => FitS s.2.2) (fun x _ s hs => ?_) (fun s hs => Sat.ret hs) ⟨⟨by decide, by decide⟩, ⟨by decide, by decide⟩⟩
    refine Sat.bind (hf (x.1, x.2)) fun y hy => Sat.ndec (fun _ => Sat.map (Sat.ret fit0)) fun _ => Sat.ret ?_
    have := hs.1; have := hs.2; have h3 := hy.1; have h4 := hy.2
    unfold Fit at *
    exact ⟨⟨by show _ ≤ min s.2.2.Lo y.1; omega, by show min s.2.2.Lo y.1 ≤ _; omega⟩, ⟨by show _ ≤ max s.2.2.Hi y.2.1; omega, by show max s.2.2.Hi y.2.1 ≤ _; omega⟩⟩

theorem span_Quot_sat (a b : Span) : Sat (span_Quot a b) fun r => FitS r.1 := by
  unfold span_Quot
  refine Sat.bind (span_valid_sat a b) fun r1 h1 => Sat.ndec (fun _ => Sat.ret fit0) fun _ => ?_
  refine Sat.bind (Q := fun _ => True) ?_ fun r2 _ => Sat.cond (fun _ => Sat.ret fit0) fun _ => ?_
  · unfold span_In
    refine Sat.bind (span_Check_sat b) fun r1 h1 => Sat.dec (fun _ => ?_) fun _ => Sat.ret trivial
    rw [span_within_eq]
    exact Sat.bind (Q := fun _ => True) (Sat.ret trivial) fun _ _ => Sat.ret trivial
  · refine Sat.bind (span_combine_sat a b _ fun x => ?_) fun r5 h5 => Sat.ret h5
    unfold span_Quot_c1
    refine Sat.bind (Q := fun r : Int × Int × Int => Fit r.1 ∧ Fit r.2.1) ?_ fun q hq => Sat.ret hq
    exact Sat.bind (span_product_sat _ _) fun r1 h1 => Sat.bind (signed_divide_sat _ _ h1) fun r2 h2 => Sat.ret h2

theorem span_Mul_sat (a b : Span) : Sat (span_Mul a b) fun r => FitS r.1 := by
  unfold span_Mul
  refine Sat.bind (span_combine_sat a b _ fun x => ?_) fun r5 h5 => Sat.ret h5
  unfold span_Mul_c1
  refine Sat.bind (Q := fun r : Int × Int × Int => Fit r.1 ∧ Fit r.2.1) ?_ fun q hq => Sat.ret hq
  exact Sat.bind (span_product_sat _ _) fun r1 h1 => Sat.bind (signed_divide_sat _ _ h1) fun r2 h2 => Sat.ret h2

theorem force_quot_sat (a b : Span) : Sat (force_quot a b) FitS := by
  unfold force_quot
  exact Sat.bind (span_Quot_sat a b) fun r h => Sat.ret h

theorem force_part_sat (a b : Span) : Sat (force_part a b) FitS := by
  unfold force_part force_mul force_one
  refine Sat.bind (Q := FitS) (Sat.bind (span_Mul_sat a b) fun r h => Sat.ret h) fun r1 h1 => ?_
  refine Sat.bind (Q := fun _ => True) (Sat.ret trivial) fun r2 _ => ?_
  exact Sat.bind (force_quot_sat _ _) fun r h => Sat.ret h

theorem force_minus_sat {a : Span} (h : FitS a) : Sat (force_minus a) FitS := by
  unfold force_minus
  have h1 := h.1; have h2 := h.2
  unfold Fit at h1 h2
  rw [wrap_i64 (by omega) (by omega), wrap_i64 (by omega) (by omega)]
  exact Sat.ret ⟨⟨by show _ ≤ 0 - a.Hi; omega, by show 0 - a.Hi ≤ _; omega⟩, ⟨by show _ ≤ 0 - a.Lo; omega, by show 0 - a.Lo ≤ _; omega⟩⟩

theorem force_light_sat (d : Drift) (a : Area) : Sat (force_light d a) fun r => FitS r.X ∧ FitS r.Y := by
  unfold force_light
  refine Sat.bind (force_part_sat _ _) fun r1 h1 => Sat.bind (force_minus_sat h1) fun r2 h2 => ?_
  exact Sat.bind (force_part_sat _ _) fun r3 h3 => Sat.bind (force_minus_sat h3) fun r4 h4 => Sat.ret ⟨h2, h4⟩

theorem force_heat_sat (d : Drift) (a : Area) : Sat (force_heat d a) fun r => FitS r.X ∧ FitS r.Y := by
  unfold force_heat
  refine Sat.bind (force_part_sat _ _) fun r1 h1 => Sat.bind (force_minus_sat h1) fun r2 h2 => ?_
  exact Sat.bind (force_part_sat _ _) fun r3 h3 => Sat.ret ⟨h2, h3⟩

end Go.Proofs.Bol

set_option linter.all false
namespace Go.Proofs.Bol
open Go.Px

theorem Sat.yes {α : Type} {p : Prop} [Decidable p] {x y : Option α} {Q : α → Prop} (h : p) (k : Sat x Q) : Sat (cond (decide p) x y) Q := Sat.dec (fun _ => k) fun n => absurd h n
theorem Sat.no {α : Type} {p : Prop} [Decidable p] {x y : Option α} {Q : α → Prop} (h : ¬ p) (k : Sat y Q) : Sat (cond (decide p) x y) Q := Sat.dec (fun n => absurd n h) fun _ => k

theorem force_clamp_sat (a : Span) : Sat (force_clamp a) FitS := by
  unfold force_clamp
  refine Sat.ret ⟨⟨?_, ?_⟩, ⟨?_, ?_⟩⟩
  · show _ ≤ min (max a.Lo (-1048576)) 1048576; omega
  · show min (max a.Lo (-1048576)) 1048576 ≤ _; omega
  · show _ ≤ min (max a.Hi (-1048576)) 1048576; omega
  · show min (max a.Hi (-1048576)) 1048576 ≤ _; omega

theorem toward_sat (a : Force_heavy) (b c d : Span) : Sat (force_heavy_toward a b c d) FitS := by
  unfold force_heavy_toward
  refine Sat.loop (fun s : Int × (Span × Span × Span × Span) => 0 ≤ s.1 ∧ s.1 ≤ 4) (fun s => (4 - s.1).toNat) (fun s hs => ?_) ⟨by decide, by decide⟩
  obtain ⟨i, w⟩ := s
  obtain ⟨h0, h1⟩ := hs
  have h0 : 0 ≤ i := h0
  have h1 : i ≤ 4 := h1
  have hi : i = 0 ∨ i = 1 ∨ i = 2 ∨ i = 3 ∨ i = 4 := by omega
  rcases hi with rfl | rfl | rfl | rfl | rfl
  all_goals dsimp only
  all_goals repeat first | refine Sat.yes (by decide) ?_ | refine Sat.no (by decide) ?_
  · refine Sat.bind (span_MulDiv_sat _ _ _) fun r hr => Sat.ndec (fun _ => Sat.dec (fun _ => ?_) fun _ => ?_) fun _ => ?_
    all_goals repeat first | refine Sat.yes (by decide) ?_ | refine Sat.no (by decide) ?_
    all_goals exact Sat.ret ⟨⟨(by decide : 0 ≤ IntKind.wrap .i64 (0 + 1)), (by decide : IntKind.wrap .i64 (0 + 1) ≤ 4)⟩, (by decide : (4 - IntKind.wrap .i64 (0 + 1)).toNat < (4 - (0 : Int)).toNat)⟩
  · refine Sat.bind (span_MulDiv_sat _ _ _) fun r hr => Sat.ndec (fun _ => Sat.dec (fun _ => ?_) fun _ => ?_) fun _ => ?_
    all_goals repeat first | refine Sat.yes (by decide) ?_ | refine Sat.no (by decide) ?_
    all_goals exact Sat.ret ⟨⟨(by decide : 0 ≤ IntKind.wrap .i64 (1 + 1)), (by decide : IntKind.wrap .i64 (1 + 1) ≤ 4)⟩, (by decide : (4 - IntKind.wrap .i64 (1 + 1)).toNat < (4 - (1 : Int)).toNat)⟩
  · refine Sat.bind (span_MulDiv_sat _ _ _) fun r hr => Sat.ndec (fun _ => Sat.dec (fun _ => ?_) fun _ => ?_) fun _ => ?_
    all_goals repeat first | refine Sat.yes (by decide) ?_ | refine Sat.no (by decide) ?_
    all_goals exact Sat.ret ⟨⟨(by decide : 0 ≤ IntKind.wrap .i64 (2 + 1)), (by decide : IntKind.wrap .i64 (2 + 1) ≤ 4)⟩, (by decide : (4 - IntKind.wrap .i64 (2 + 1)).toNat < (4 - (2 : Int)).toNat)⟩
  · refine Sat.bind (span_MulDiv_sat _ _ _) fun r hr => Sat.ndec (fun _ => Sat.dec (fun _ => ?_) fun _ => ?_) fun _ => ?_
    all_goals repeat first | refine Sat.yes (by decide) ?_ | refine Sat.no (by decide) ?_
    all_goals exact Sat.ret ⟨⟨(by decide : 0 ≤ IntKind.wrap .i64 (3 + 1)), (by decide : IntKind.wrap .i64 (3 + 1) ≤ 4)⟩, (by decide : (4 - IntKind.wrap .i64 (3 + 1)).toNat < (4 - (3 : Int)).toNat)⟩
  · refine Sat.map (Sat.loop (fun s : Int × Span => 0 ≤ s.1 ∧ s.1 ≤ 3) (fun s => (3 - s.1).toNat) (fun s hs => ?_) ⟨(by decide : (0 : Int) ≤ 0), (by decide : (0 : Int) ≤ 3)⟩)
    refine Sat.dec (fun h => ?_) fun _ => Sat.map ?_
    · refine Sat.bind (Sat.idx hs.1 (by simpa using h) (Q := fun _ => True) fun _ _ => trivial) fun x _ => Sat.ret ?_
      have e : IntKind.wrap .i64 (s.1 + 1) = s.1 + 1 := wrap_i64 (by omega) (by omega)
      refine ⟨⟨?_, ?_⟩, ?_⟩
      · show 0 ≤ IntKind.wrap .i64 (s.1 + 1); omega
      · show IntKind.wrap .i64 (s.1 + 1) ≤ 3; omega
      · show (3 - IntKind.wrap .i64 (s.1 + 1)).toNat < (3 - s.1).toNat; omega
    · exact Sat.bind (force_quot_sat _ _) fun r8 _ => Sat.bind (force_clamp_sat _) fun r9 h9 => Sat.ret h9

theorem heavy_to_sat (a : Force_heavy) (b : Area) : Sat (force_heavy_to a b) fun _ => True := by
  unfold force_heavy_to force_one force_sub
  refine Sat.bind (Q := fun _ => True) (Sat.ret trivial) fun r1 _ => Sat.bind (Q := fun _ => True) (Sat.bind (span_Sub_sat _ _) fun _ _ => Sat.ret trivial) fun r2 _ => ?_
  exact Sat.bind (Q := fun _ => True) (Sat.ret trivial) fun r1 _ => Sat.bind (Q := fun _ => True) (Sat.bind (span_Sub_sat _ _) fun _ _ => Sat.ret trivial) fun r2 _ => Sat.ret trivial

theorem distances_sat (a : Force_heavy) (b : Area) : Sat (force_heavy_distances a b) fun _ => True := by
  unfold force_heavy_distances force_square force_heavy_edge
  refine Sat.bind (heavy_to_sat a b) fun r1 _ => ?_
  refine Sat.bind (Q := fun _ => True) (Sat.bind (span_Square_sat _) fun _ _ => Sat.ret trivial) fun r2 _ => ?_
  refine Sat.bind (Q := fun _ => True) (Sat.bind (span_Square_sat _) fun _ _ => Sat.ret trivial) fun r3 _ => ?_
  refine Sat.bind (force_add_sat _ (by simp)) fun r4 _ => ?_
  refine Sat.bind (Q := fun _ => True) (Sat.ret trivial) fun r5 _ => Sat.bind (Q := fun _ => True) (Sat.ret trivial) fun r6 _ => ?_
  exact Sat.bind (span_Roots_sat _) fun r7 _ => Sat.ret trivial

theorem heavy_pull_sat (a : Force_heavy) (b : Area) : Sat (force_heavy_pull a b) fun r => FitS r.X ∧ FitS r.Y := by
  unfold force_heavy_pull
  refine Sat.bind (distances_sat a b) fun r1 _ => Sat.bind (heavy_to_sat a b) fun r2 _ => ?_
  exact Sat.bind (toward_sat _ _ _ _) fun r3 h3 => Sat.bind (toward_sat _ _ _ _) fun r4 h4 => Sat.ret ⟨h3, h4⟩

theorem sky_At_sat {w : World} (hw : GenWorld w) {i t : Int} (h0 : 0 ≤ i) (h1 : i < (w.Bodies.length : Int)) (ht : 0 ≤ t) : Sat (sky_At w i t) fun _ => True := by
  unfold sky_At
  refine Sat.bind (checkWorld_gen hw) fun r1 _ => Sat.ndec (fun _ => Sat.ret trivial) fun _ => Sat.dec (fun _ => Sat.ret trivial) fun _ => Sat.dec (fun _ => Sat.ret trivial) fun _ => ?_
  rw [sky_within_eq]
  refine Sat.bind (Q := fun _ => True) (Sat.ret trivial) fun r2 _ => Sat.cond (fun _ => Sat.ret trivial) fun _ => ?_
  refine Sat.bind (Sat.idx h0 h1 hw.bs) fun x hx => Sat.bind (Q := fun _ => True) ?_ fun _ _ => Sat.ret trivial
  unfold sky_track_at
  have := hx.n0
  refine Sat.dec (fun h => by omega) fun _ => ?_
  have hr := tmod_range (a := t) (b := (x.Track.length : Int)) ht (by omega)
  exact Sat.bind (Sat.idx hr.1 hr.2 (Q := fun _ => True) fun _ _ => trivial) fun _ _ => Sat.ret trivial

theorem force_of_sat {w : World} (hw : GenWorld w) {i t : Int} (h0 : 0 ≤ i) (h1 : i < (w.Bodies.length : Int)) (ht : 0 ≤ t) : Sat (force_of w i t) fun _ => True := by
  unfold force_of
  exact Sat.bind (Sat.idx h0 h1 (Q := fun _ => True) fun _ _ => trivial) fun x _ => Sat.bind (sky_At_sat hw h0 h1 ht) fun r _ => Sat.ret trivial

theorem force_pulls_sat {w : World} (hw : GenWorld w) {t : Int} (ht : 0 ≤ t) (a : Area) : Sat (force_pulls w t a) fun l => ∀ x, x ∈ l → FitS x.2.X ∧ FitS x.2.Y := by
  unfold force_pulls force_pulls_c1
  refine Sat.bind ?_ fun i hi => Sat.ret hi
  have hn := hw.n1
  refine Sat.loop (fun s : Int × List (Int × Area) => 0 ≤ s.1 ∧ s.1 ≤ (w.Bodies.length : Int) ∧ ∀ x, x ∈ s.2 → FitS x.2.X ∧ FitS x.2.Y) (fun s => w.Bodies.length - s.1.toNat) (fun s hs => ?_) ⟨Int.le_refl _, by show (0 : Int) ≤ _; omega, by simp⟩
  refine Sat.dec (fun h => ?_) fun _ => Sat.map (Sat.ret hs.2.2)
  refine Sat.bind (force_of_sat hw hs.1 h ht) fun r2 _ => Sat.bind (heavy_pull_sat r2 a) fun r3 h3 => ?_
  have hl : ∀ x, x ∈ s.2 ++ [(s.1, r3)] → FitS x.2.X ∧ FitS x.2.Y := fun x hx => by
    rcases List.mem_append.1 hx with hx | hx
    · exact hs.2.2 x hx
    · simp at hx; subst hx; exact h3
  have e : IntKind.wrap .i64 (s.1 + 1) = s.1 + 1 := wrap_i64 (by omega) (by omega)
  refine Sat.dec (fun _ => Sat.map (Sat.ret hl)) fun _ => Sat.ret ⟨⟨?_, ?_, hl⟩, ?_⟩
  · show 0 ≤ IntKind.wrap .i64 (s.1 + 1); omega
  · show IntKind.wrap .i64 (s.1 + 1) ≤ _; omega
  · show w.Bodies.length - (IntKind.wrap .i64 (s.1 + 1)).toNat < w.Bodies.length - s.1.toNat; omega

theorem Over_sat {w : World} (hw : GenWorld w) {d : Drift} (hd : GenDrift d) {t : Int} (ht : 0 ≤ t) (a : Area) : Sat (force_Over w d t a) fun r => FitS r.1.X ∧ FitS r.1.Y := by
  unfold force_Over
  refine Sat.bind (Q := fun _ => True) ?_ fun r1 _ => Sat.ndec (fun _ => Sat.ret ⟨fit0, fit0⟩) fun _ => ?_
  · unfold force_asked
    refine Sat.bind (checkWorld_gen hw) fun _ _ => Sat.ndec (fun _ => Sat.ret trivial) fun _ => Sat.bind (checkDrift_gen hd) fun _ _ => Sat.ndec (fun _ => Sat.ret trivial) fun _ => ?_
    rw [force_within_eq]
    refine Sat.bind (Q := fun _ => True) (Sat.ret trivial) fun _ _ => Sat.cond (fun _ => Sat.ret trivial) fun _ => ?_
    exact Sat.bind (span_CheckArea_sat a) fun _ _ => Sat.ndec (fun _ => Sat.ret trivial) fun _ => Sat.dec (fun _ => Sat.ret trivial) fun _ => Sat.dec (fun _ => Sat.ret trivial) fun _ => Sat.dec (fun _ => Sat.ret trivial) fun _ => Sat.dec (fun _ => Sat.ret trivial) fun _ => Sat.ret trivial
  · have := hd.g0; have := hd.g1
    have e : IntKind.wrap .i64 (0 - d.Gas) = 0 - d.Gas := wrap_i64 (by omega) (by omega)
    rw [e]
    refine Sat.bind (force_pulls_sat hw ht a) fun l hl => Sat.forL (fun s : Area => FitS s.X ∧ FitS s.Y) (fun x hx s hs => ?_) (fun s hs => Sat.ret hs) ?_
    · refine Sat.bind (force_sum_sat _ (by simp)) fun r5 h5 => Sat.dec (fun _ => ?_) fun _ => Sat.ret h5
      refine Sat.bind (force_light_sat _ _) fun r6 h6 => Sat.bind (force_heat_sat _ _) fun r7 h7 => ?_
      exact Sat.bind (force_sum_sat _ (by simp)) fun r8 h8 => Sat.ret h8
    · refine ⟨⟨⟨?_, ?_⟩, ⟨?_, ?_⟩⟩, ⟨⟨?_, ?_⟩, ⟨?_, ?_⟩⟩⟩ <;> simp only <;> omega

end Go.Proofs.Bol

set_option linter.all false
namespace Go.Proofs.Bol
open Go.Px

theorem Sat.bind_some {α β : Type} {a : α} {f : α → Option β} {Q : β → Prop} (h : Sat (f a) Q) : Sat ((some a).bind f) Q := h

def StateOK (s : State) : Prop := -33554432 ≤ s.X ∧ s.X ≤ 33554432 ∧ -33554432 ≤ s.Y ∧ s.Y ≤ 33554432 ∧ -1048576 ≤ s.U ∧ s.U ≤ 1048576 ∧ -1048576 ≤ s.V ∧ s.V ≤ 1048576

theorem checkState_ok {s : State} (h : StateOK s) : orbit_CheckState s = some 0 := by
  obtain ⟨h0, h1, h2, h3, h4, h5, h6, h7⟩ := h
  exact checkState_eq h0 h1 h2 h3 h4 h5 h6 h7

structure BoxOK' (b : Box) : Prop where
  x : b.X.Lo ≤ b.X.Hi
  y : b.Y.Lo ≤ b.Y.Hi
  u : b.U.Lo ≤ b.U.Hi
  v : b.V.Lo ≤ b.V.Hi
  lo : StateOK (State.mk b.X.Lo b.Y.Lo b.U.Lo b.V.Lo)
  hi : StateOK (State.mk b.X.Hi b.Y.Hi b.U.Hi b.V.Hi)

theorem orbit_Check_sat (b : Box) : Sat (orbit_Check b) fun r => r = 0 → BoxOK' b := by
  unfold orbit_Check orbit_of
  refine Sat.bind (Q := fun p => p = (b.X, b.Y, b.U, b.V)) (Sat.ret rfl) fun p hp => ?_
  subst hp
  refine Sat.dec (fun _ => Sat.ret fun h => by omega) fun h1 => Sat.dec (fun _ => Sat.ret fun h => by omega) fun h2 => Sat.dec (fun _ => Sat.ret fun h => by omega) fun h3 => Sat.dec (fun _ => Sat.ret fun h => by omega) fun h4 => ?_
  refine Sat.bind (checkState_sat _) fun r2 h5 => Sat.bind (checkState_sat _) fun r3 h6 => Sat.ret fun h => ?_
  have e2 : r2 = 0 := by rcases h5.1 with h | h <;> omega
  have e3 : r3 = 0 := by rcases h6.1 with h | h <;> omega
  simp only at h1 h2 h3 h4
  exact ⟨by omega, by omega, by omega, by omega, h5.2 e2, h6.2 e3⟩

theorem orbit_Check_ok {b : Box} (h : BoxOK' b) : orbit_Check b = some 0 := by
  unfold orbit_Check orbit_of
  have h1 := h.x; have h2 := h.y; have h3 := h.u; have h4 := h.v
  have e1 : decide (b.X.Hi < b.X.Lo) = false := decide_eq_false (by omega)
  have e2 : decide (b.Y.Hi < b.Y.Lo) = false := decide_eq_false (by omega)
  have e3 : decide (b.U.Hi < b.U.Lo) = false := decide_eq_false (by omega)
  have e4 : decide (b.V.Hi < b.V.Lo) = false := decide_eq_false (by omega)
  simp only [Option.bind_some, e1, e2, e3, e4, cond_false, checkState_ok h.lo, checkState_ok h.hi]
  rfl

def ptArea (s : State) : Area := Area.mk (Span.mk s.X s.X) (Span.mk s.Y s.Y)
def ptBox (s : State) : Box := Box.mk (Span.mk s.X s.X) (Span.mk s.Y s.Y) (Span.mk s.U s.U) (Span.mk s.V s.V)

theorem pull_eq (w : World) (d : Drift) (t : Int) (v : Vec) : force_Pull w d t v = force_Over w d t (Area.mk (Span.mk v.X v.X) (Span.mk v.Y v.Y)) := by
  unfold force_Pull force_alone force_one
  show ((force_Over w d t (Area.mk (Span.mk v.X v.X) (Span.mk v.Y v.Y))).bind fun r2 => some r2) = _
  cases force_Over w d t (Area.mk (Span.mk v.X v.X) (Span.mk v.Y v.Y)) <;> rfl

theorem step_sat {w : World} (hw : GenWorld w) {d : Drift} (hd : GenDrift d) {s : State} (hs : StateOK s) : Sat (orbit_Step w d 0 (ptBox s)) fun r => r.2 = 14 ∨ r.2 = 0 ∧ ∃ F, force_Over w d 0 (ptArea s) = some (F, 0) ∧ FitS F.X ∧ FitS F.Y ∧
    r.1.U = Span.mk (IntKind.wrap .i64 (s.U + F.X.Lo)) (IntKind.wrap .i64 (s.U + F.X.Hi)) ∧ r.1.V = Span.mk (IntKind.wrap .i64 (s.V + F.Y.Lo)) (IntKind.wrap .i64 (s.V + F.Y.Hi)) ∧
    r.1.X = Span.mk (IntKind.wrap .i64 (s.X + r.1.U.Lo)) (IntKind.wrap .i64 (s.X + r.1.U.Hi)) ∧ r.1.Y = Span.mk (IntKind.wrap .i64 (s.Y + r.1.V.Lo)) (IntKind.wrap .i64 (s.Y + r.1.V.Hi)) ∧ BoxOK' r.1 := by
  unfold orbit_Step
  have hc : orbit_Check (ptBox s) = some 0 := orbit_Check_ok ⟨Int.le_refl _, Int.le_refl _, Int.le_refl _, Int.le_refl _, hs, hs⟩
  rw [orbitWorld_gen hw hd, orbit_within_eq, hc]
  show Sat ((orbit_step w d 0 (ptBox s)).bind fun r4 => _) _
  unfold orbit_step
  obtain ⟨⟨F, c⟩, hF, hfit⟩ := Over_sat hw hd (t := 0) (by decide) (ptArea s)
  have hF' : force_Over w d 0 (Area.mk (ptBox s).X (ptBox s).Y) = some (F, c) := hF
  rw [hF']
  by_cases h0 : c = 0
  · subst h0
    refine Sat.bind (Q := fun r : Box × Bool => r.2 = true → r.1.U = Span.mk (IntKind.wrap .i64 (s.U + F.X.Lo)) (IntKind.wrap .i64 (s.U + F.X.Hi)) ∧ r.1.V = Span.mk (IntKind.wrap .i64 (s.V + F.Y.Lo)) (IntKind.wrap .i64 (s.V + F.Y.Hi)) ∧
      r.1.X = Span.mk (IntKind.wrap .i64 (s.X + r.1.U.Lo)) (IntKind.wrap .i64 (s.X + r.1.U.Hi)) ∧ r.1.Y = Span.mk (IntKind.wrap .i64 (s.Y + r.1.V.Lo)) (IntKind.wrap .i64 (s.Y + r.1.V.Hi)) ∧ BoxOK' r.1) ?_ fun r hr => ?_
    · unfold orbit_add
      refine Sat.bind_some (Sat.ndec (fun h => absurd rfl h) fun _ => Sat.bind_some (Sat.bind_some (Sat.bind_some (Sat.bind_some ?_))))
      refine Sat.bind (orbit_Check_sat _) fun r6 h6 => Sat.ret fun h => ?_
      have h : decide (r6 = 0) = true := h
      exact ⟨rfl, rfl, rfl, rfl, h6 (of_decide_eq_true h)⟩
    · refine Sat.cond (fun _ => Sat.ret (.inl rfl)) fun h => Sat.ret (.inr ⟨rfl, F, hF, hfit.1, hfit.2, hr (by simpa using h)⟩)
  · refine Sat.bind (Q := fun r : Box × Bool => r.2 = false) ?_ fun r hr => ?_
    · exact Sat.bind (Q := fun x => x = (F, c)) (Sat.ret rfl) fun x hx => by subst hx; exact Sat.ndec (fun _ => Sat.ret rfl) fun h => absurd h h0
    · rw [hr]
      exact Sat.ret (.inl rfl)

theorem possible_eq {w : World} (hw : GenWorld w) {d : Drift} (hd : GenDrift d) {s n : State} (hs : StateOK s) {F : Area} (hF : force_Over w d 0 (ptArea s) = some (F, 0)) :
    Sat (orbit_Possible w d 0 s n) fun r => (r = true → F.X.Lo ≤ IntKind.wrap .i64 (n.U - s.U) ∧ IntKind.wrap .i64 (n.U - s.U) ≤ F.X.Hi) ∧
      (StateOK n → F.X.Lo ≤ IntKind.wrap .i64 (n.U - s.U) → IntKind.wrap .i64 (n.U - s.U) ≤ F.X.Hi → F.Y.Lo ≤ IntKind.wrap .i64 (n.V - s.V) → IntKind.wrap .i64 (n.V - s.V) ≤ F.Y.Hi → n.X = IntKind.wrap .i64 (s.X + n.U) → n.Y = IntKind.wrap .i64 (s.Y + n.V) → r = true) := by
  unfold orbit_Possible
  rw [orbitWorld_gen hw hd, orbit_within_eq, checkState_ok hs]
  show Sat ((orbit_CheckState n).bind fun r4 => _) _
  obtain ⟨c, hc, hc1, hc2⟩ := checkState_sat n
  refine Sat.bind (Q := fun x => x = c) ⟨c, hc, rfl⟩ fun x hx => ?_
  subst hx
  refine Sat.dec (fun h0 => ?_) fun h0 => Sat.ret ⟨fun h => by simp at h, fun hn => ?_⟩
  · unfold orbit_follows
    rw [pull_eq]
    have hF' : force_Over w d 0 (Area.mk (Span.mk (Vec.mk s.X s.Y).X (Vec.mk s.X s.Y).X) (Span.mk (Vec.mk s.X s.Y).Y (Vec.mk s.X s.Y).Y)) = some (F, 0) := hF
    rw [hF']
    refine Sat.bind (Q := fun r => (r = true → F.X.Lo ≤ IntKind.wrap .i64 (n.U - s.U) ∧ IntKind.wrap .i64 (n.U - s.U) ≤ F.X.Hi) ∧
      (StateOK n → F.X.Lo ≤ IntKind.wrap .i64 (n.U - s.U) → IntKind.wrap .i64 (n.U - s.U) ≤ F.X.Hi → F.Y.Lo ≤ IntKind.wrap .i64 (n.V - s.V) → IntKind.wrap .i64 (n.V - s.V) ≤ F.Y.Hi → n.X = IntKind.wrap .i64 (s.X + n.U) → n.Y = IntKind.wrap .i64 (s.Y + n.V) → r = true)) ?_ fun r hr => Sat.ret hr
    refine Sat.bind_some (Sat.dec (fun _ => ?_) fun h => absurd rfl h)
    rw [orbit_within_eq]
    refine Sat.bind_some ?_
    rw [orbit_within_eq]
    refine Sat.cond (fun h1 => Sat.bind_some (Sat.cond (fun h2 => Sat.dec (fun h3 => Sat.ret ⟨fun _ => by simpa using h1, fun _ _ _ _ _ _ h4 => decide_eq_true h4⟩) fun h3 => Sat.ret ⟨fun h => by simp at h, fun _ _ _ _ _ h4 _ => absurd h4 h3⟩) fun h2 => Sat.ret ⟨fun h => by simp at h, fun _ _ _ a b _ _ => ?_⟩)) fun h1 => Sat.ret ⟨fun h => by simp at h, fun _ a b _ _ _ _ => ?_⟩
    · rw [within_true a b] at h2; simp at h2
    · rw [within_true a b] at h1; simp at h1
  · exfalso
    have := checkState_ok hn
    rw [hc] at this
    simp at this
    exact h0 this

theorem wrap_back {a b : Int} (ha : -33554432 ≤ a ∧ a ≤ 33554432) (hb : Fit b) : IntKind.wrap .i64 (a + b) = a + b := by
  unfold Fit at hb
  exact wrap_i64 (by omega) (by omega)

theorem tight_of_awake (ha : law04_awake = some true) {l : List Int} (hl : (l.length : Int) ≤ 9223372036854775807) : law04_OrbitTight l = some true := by
  have : Sat (law04_OrbitTight l) fun r => r = true := by
    unfold law04_OrbitTight
    refine Sat.bind (made_sat hl) fun r1 h1 => ?_
    obtain ⟨hk, hd, hb, hin⟩ := h1
    have hw := hk.w
    rw [ha]
    obtain ⟨w, hwd⟩ : ∃ w, w = r1.2.1.World := ⟨_, rfl⟩
    obtain ⟨s, hsd⟩ : ∃ s, s = r1.2.2.2.2 := ⟨_, rfl⟩
    rw [← hwd] at hw
    simp only [← hwd, ← hsd]
    rw [← hsd] at hin
    have hs : StateOK s := by
      have := hb.x0; have := hb.x2; have := hb.y0; have := hb.y2; have := hb.u0; have := hb.u2; have := hb.v0; have := hb.v2
      have := hin.x0; have := hin.x1; have := hin.y0; have := hin.y1; have := hin.u0; have := hin.u1; have := hin.v0; have := hin.v1
      exact ⟨by omega, by omega, by omega, by omega, by omega, by omega, by omega, by omega⟩
    refine Sat.bind (step_sat hw hd hs) fun r2 h2 => ?_
    rcases h2 with h14 | ⟨h0, F, hF, fx, fy, eU, eV, eX, eY, hbox⟩
    · rw [h14]
      exact Sat.ret rfl
    · rw [h0]
      obtain ⟨s0, s1, s2, s3, s4, s5, s6, s7⟩ := hs
      have hs : StateOK s := ⟨s0, s1, s2, s3, s4, s5, s6, s7⟩
      have w1 := wrap_back (a := s.U) ⟨by omega, by omega⟩ fx.1
      have w2 := wrap_back (a := s.U) ⟨by omega, by omega⟩ fx.2
      have w3 := wrap_back (a := s.V) ⟨by omega, by omega⟩ fy.1
      have w4 := wrap_back (a := s.V) ⟨by omega, by omega⟩ fy.2
      rw [w1, w2] at eU
      rw [w3, w4] at eV
      have u0 : r2.1.U.Lo = s.U + F.X.Lo := by rw [eU]
      have u1 : r2.1.U.Hi = s.U + F.X.Hi := by rw [eU]
      have v0 : r2.1.V.Lo = s.V + F.Y.Lo := by rw [eV]
      have v1 : r2.1.V.Hi = s.V + F.Y.Hi := by rw [eV]
      have x0 : r2.1.X.Lo = IntKind.wrap .i64 (s.X + r2.1.U.Lo) := by rw [eX]
      have x1 : r2.1.X.Hi = IntKind.wrap .i64 (s.X + r2.1.U.Hi) := by rw [eX]
      have y0 : r2.1.Y.Lo = IntKind.wrap .i64 (s.Y + r2.1.V.Lo) := by rw [eY]
      have y1 : r2.1.Y.Hi = IntKind.wrap .i64 (s.Y + r2.1.V.Hi) := by rw [eY]
      have hu := hbox.u; have hv := hbox.v
      obtain ⟨a0, a1, a2, a3, a4, a5, a6, a7⟩ := hbox.lo
      obtain ⟨b0, b1, b2, b3, b4, b5, b6, b7⟩ := hbox.hi
      simp only at a0 a1 a2 a3 a4 a5 a6 a7 b0 b1 b2 b3 b4 b5 b6 b7
      have fx1 := fx.1; have fx2 := fx.2; have fy1 := fy.1; have fy2 := fy.2
      unfold Fit at fx1 fx2 fy1 fy2
      have du0 : IntKind.wrap .i64 (r2.1.U.Lo - s.U) = F.X.Lo := by rw [wrap_i64 (by omega) (by omega)]; omega
      have du1 : IntKind.wrap .i64 (r2.1.U.Hi - s.U) = F.X.Hi := by rw [wrap_i64 (by omega) (by omega)]; omega
      have dv0 : IntKind.wrap .i64 (r2.1.V.Lo - s.V) = F.Y.Lo := by rw [wrap_i64 (by omega) (by omega)]; omega
      have dv1 : IntKind.wrap .i64 (r2.1.V.Hi - s.V) = F.Y.Hi := by rw [wrap_i64 (by omega) (by omega)]; omega
      have yes : ∀ U V, (U = r2.1.U.Lo ∨ U = r2.1.U.Hi) → (V = r2.1.V.Lo ∨ V = r2.1.V.Hi) → Sat (orbit_Possible w r1.2.2.1 0 s (State.mk (IntKind.wrap .i64 (s.X + U)) (IntKind.wrap .i64 (s.Y + V)) U V)) fun r => r = true := fun U V hU hV => by
        refine (possible_eq hw hd hs hF).mono fun r hr => hr.2 ?_ ?_ ?_ ?_ ?_ rfl rfl
        · rcases hU with rfl | rfl <;> rcases hV with rfl | rfl <;> refine ⟨?_, ?_, ?_, ?_, ?_, ?_, ?_, ?_⟩ <;> simp only <;> first | omega | (rw [← x0]; omega) | (rw [← x1]; omega) | (rw [← y0]; omega) | (rw [← y1]; omega)
        · rcases hU with rfl | rfl
          · show F.X.Lo ≤ IntKind.wrap .i64 (r2.1.U.Lo - s.U); omega
          · show F.X.Lo ≤ IntKind.wrap .i64 (r2.1.U.Hi - s.U); omega
        · rcases hU with rfl | rfl
          · show IntKind.wrap .i64 (r2.1.U.Lo - s.U) ≤ _; omega
          · show IntKind.wrap .i64 (r2.1.U.Hi - s.U) ≤ _; omega
        · rcases hV with rfl | rfl
          · show F.Y.Lo ≤ IntKind.wrap .i64 (r2.1.V.Lo - s.V); omega
          · show F.Y.Lo ≤ IntKind.wrap .i64 (r2.1.V.Hi - s.V); omega
        · rcases hV with rfl | rfl
          · show IntKind.wrap .i64 (r2.1.V.Lo - s.V) ≤ _; omega
          · show IntKind.wrap .i64 (r2.1.V.Hi - s.V) ≤ _; omega
      have no : ∀ X Y U V, IntKind.wrap .i64 (U - s.U) < F.X.Lo ∨ F.X.Hi < IntKind.wrap .i64 (U - s.U) → Sat (orbit_Possible w r1.2.2.1 0 s (State.mk X Y U V)) fun r => r = false := fun X Y U V h => by
        refine (possible_eq hw hd hs hF).mono fun r hr => ?_
        cases r with
        | false => rfl
        | true =>
          exfalso
          have := hr.1 rfl
          simp only at this
          omega
      refine Sat.bind (yes _ _ (.inl rfl) (.inl rfl)) fun r4 h4 => ?_
      rw [h4]
      refine Sat.bind (yes _ _ (.inl rfl) (.inr rfl)) fun r5 h5 => ?_
      rw [h5]
      refine Sat.bind (yes _ _ (.inr rfl) (.inl rfl)) fun r6 h6 => ?_
      rw [h6]
      refine Sat.bind (yes _ _ (.inr rfl) (.inr rfl)) fun r7 h7 => ?_
      rw [h7]
      refine Sat.bind (no _ _ _ _ (.inl ?_)) fun r8 h8 => ?_
      · rw [wrap_i64 (n := r2.1.U.Lo + -1) (by omega) (by omega), wrap_i64 (by omega) (by omega)]
        omega
      rw [h8]
      refine Sat.bind (no _ _ _ _ (.inr ?_)) fun r9 h9 => ?_
      · rw [wrap_i64 (n := r2.1.U.Hi + 1) (by omega) (by omega), wrap_i64 (by omega) (by omega)]
        omega
      rw [h9, ← x0, ← x1, ← y0, ← y1]
      simp
      exact Sat.ret rfl
  obtain ⟨r, h, rfl⟩ := this
  exact h

end Go.Proofs.Bol

set_option linter.all false
set_option maxRecDepth 100000
namespace Go.Proofs.Bol
open Go.Px

/-! ## The awake part -/

theorem Sat.next {σ ρ : Type} {step : σ → Option (σ ⊕ ρ)} {s s' : σ} {r : ρ} (h : step s = some (.inl s')) (k : loopM step s' = some r) : loopM step s = some r := by rw [loopM_eq, h]; exact k
theorem Sat.last {σ ρ : Type} {step : σ → Option (σ ⊕ ρ)} {s : σ} {r : ρ} (h : step s = some (.inr r)) : loopM step s = some r := by rw [loopM_eq, h]
theorem Sat.eq {α β : Type} {x : Option α} {a : α} {f : α → Option β} {Q : β → Prop} (h : x = some a) (k : Sat (f a) Q) : Sat (x.bind f) Q := by rw [h]; exact k
theorem Sat.get {α : Type} {x : Option α} {a : α} (h : Sat x fun r => r = a) : x = some a := by obtain ⟨r, h, rfl⟩ := h; exact h

theorem forL_one {σ α ρ : Type} {step : α → σ → Option (σ ⊕ ρ)} {fin : σ → Option ρ} {x : α} {s s' : σ} {r : ρ} (h : step x s = some (.inl s')) (hf : fin s' = some r) : forL step fin [x] s = some r := by unfold Px.forL; rw [h]; exact hf

def stillW : World := World.mk [Body.mk 0 0 [Vec.mk 0 0]] 0
def stillD : Drift := Drift.mk (Span.mk 0 0) (Span.mk 0 0) 1
def stillH : Force_heavy := Force_heavy.mk (Body.mk 0 0 [Vec.mk 0 0]) (Vec.mk 0 0)

theorem stillW_gen : GenWorld stillW := by
  refine ⟨by decide, by decide, fun b hb => ?_, by decide, by decide⟩
  have hb : b ∈ [Body.mk 0 0 [Vec.mk 0 0]] := hb
  simp at hb
  subst hb
  refine ⟨by decide, by decide, by decide, by decide, by decide, by decide, fun v hv => ?_⟩
  simp at hv
  subst hv
  exact ⟨by decide, by decide, by decide, by decide⟩

theorem stillD_gen : GenDrift stillD := ⟨by decide, by decide, by decide, by decide, by decide, by decide, by decide, by decide⟩
theorem still_world : sky_CheckWorld stillW = some 0 := Sat.get (checkWorld_gen stillW_gen)
theorem still_drift : force_CheckDrift stillD = some 0 := Sat.get (checkDrift_gen stillD_gen)

theorem still_of : force_of stillW 0 0 = some stillH := by
  refine Sat.get ?_
  unfold force_of
  refine Sat.eq (a := Body.mk 0 0 [Vec.mk 0 0]) rfl (Sat.eq (a := Vec.mk 0 0) ?_ (Sat.ret rfl))
  unfold sky_At
  rw [still_world]
  kernel_rfl

theorem sum2 {a b : Area} {p q p' q' : Span} (h1 : force_add [Span.mk 0 0, a.X] = some p) (h2 : force_add [Span.mk 0 0, a.Y] = some q) (h3 : force_add [p, b.X] = some p') (h4 : force_add [q, b.Y] = some q') : force_sum [a, b] = some (Area.mk p' q') := by
  unfold force_sum
  refine Sat.next (s' := (1, Area.mk p q)) ?_ (Sat.next (s' := (2, Area.mk p' q')) ?_ (Sat.last ?_))
  · show ((force_add [Span.mk 0 0, a.X]).bind fun r3 => (force_add [Span.mk 0 0, a.Y]).bind fun r4 => some (Sum.inl (IntKind.wrap .i64 (0 + 1), Area.mk r3 r4))) = _
    rw [h1, h2]; rfl
  · show ((force_add [p, b.X]).bind fun r3 => (force_add [q, b.Y]).bind fun r4 => some (Sum.inl (IntKind.wrap .i64 (1 + 1), Area.mk r3 r4))) = _
    rw [h3, h4]; rfl
  · rfl

theorem sum3 {a b c : Area} {p q p' q' p2 q2 : Span} (h1 : force_add [Span.mk 0 0, a.X] = some p) (h2 : force_add [Span.mk 0 0, a.Y] = some q) (h3 : force_add [p, b.X] = some p') (h4 : force_add [q, b.Y] = some q') (h5 : force_add [p', c.X] = some p2) (h6 : force_add [q', c.Y] = some q2) : force_sum [a, b, c] = some (Area.mk p2 q2) := by
  unfold force_sum
  refine Sat.next (s' := (1, Area.mk p q)) ?_ (Sat.next (s' := (2, Area.mk p' q')) ?_ (Sat.next (s' := (3, Area.mk p2 q2)) ?_ (Sat.last ?_)))
  · show ((force_add [Span.mk 0 0, a.X]).bind fun r3 => (force_add [Span.mk 0 0, a.Y]).bind fun r4 => some (Sum.inl (IntKind.wrap .i64 (0 + 1), Area.mk r3 r4))) = _
    rw [h1, h2]; rfl
  · show ((force_add [p, b.X]).bind fun r3 => (force_add [q, b.Y]).bind fun r4 => some (Sum.inl (IntKind.wrap .i64 (1 + 1), Area.mk r3 r4))) = _
    rw [h3, h4]; rfl
  · show ((force_add [p', c.X]).bind fun r3 => (force_add [q', c.Y]).bind fun r4 => some (Sum.inl (IntKind.wrap .i64 (2 + 1), Area.mk r3 r4))) = _
    rw [h5, h6]; rfl
  · rfl

theorem add_a : force_add [Span.mk 0 0, Span.mk (-1) 1] = some (Span.mk (-1) 1) := by
  unfold force_add
  exact loopM_some.2 ⟨10, by kernel_rfl⟩
theorem add_b : force_add [Span.mk (-1) 1, Span.mk 0 0] = some (Span.mk (-1) 1) := by
  unfold force_add
  exact loopM_some.2 ⟨10, by kernel_rfl⟩

theorem toward_zero {b c d : Span} (h1 : span_MulDiv 0 b.Lo c.Lo = some (0, 0, 0)) (h2 : span_MulDiv 0 b.Lo c.Hi = some (0, 0, 0)) (h3 : span_MulDiv 0 b.Hi c.Lo = some (0, 0, 0)) (h4 : span_MulDiv 0 b.Hi c.Hi = some (0, 0, 0)) (hq : force_quot (Span.mk 0 0) d = some (Span.mk 0 0)) :
    force_heavy_toward stillH b c d = some (Span.mk 0 0) := by
  unfold force_heavy_toward
  refine Sat.next (s' := (1, (Span.mk 0 0, Span.mk 0 0, Span.mk 0 0, Span.mk 0 0))) ?_ (Sat.next (s' := (2, (Span.mk 0 0, Span.mk 0 0, Span.mk 0 0, Span.mk 0 0))) ?_ (Sat.next (s' := (3, (Span.mk 0 0, Span.mk 0 0, Span.mk 0 0, Span.mk 0 0))) ?_ (Sat.next (s' := (4, (Span.mk 0 0, Span.mk 0 0, Span.mk 0 0, Span.mk 0 0))) ?_ (Sat.last ?_))))
  · show Option.bind (span_MulDiv 0 b.Lo c.Lo) _ = _
    rw [h1]; rfl
  · show Option.bind (span_MulDiv 0 b.Hi c.Lo) _ = _
    rw [h3]; rfl
  · show Option.bind (span_MulDiv 0 b.Lo c.Hi) _ = _
    rw [h2]; rfl
  · show Option.bind (span_MulDiv 0 b.Hi c.Hi) _ = _
    rw [h4]; rfl
  · refine (congrArg (Option.map Sum.inr) (?_ : loopM _ _ = some (Span.mk 0 0))).trans rfl
    refine Sat.next (s' := (1, Span.mk 0 0)) rfl (Sat.next (s' := (2, Span.mk 0 0)) rfl (Sat.next (s' := (3, Span.mk 0 0)) rfl (Sat.last ?_)))
    show Option.map Sum.inr (Option.bind (force_quot (Span.mk 0 0) d) _) = _
    rw [hq]; rfl

theorem root109 : span_root 109 = some 10 := by
  unfold span_root
  exact loopM_some.2 ⟨40, by kernel_rfl⟩
theorem root1 : span_root 1 = some 1 := by
  unfold span_root
  exact loopM_some.2 ⟨40, by kernel_rfl⟩
theorem Root109 : span_Root 109 = some 10 := by
  refine Sat.get ?_
  unfold span_Root
  exact Sat.no (by decide) (Sat.eq root109 (Sat.ret rfl))
theorem Root1 : span_Root 1 = some 1 := by
  refine Sat.get ?_
  unfold span_Root
  exact Sat.no (by decide) (Sat.eq root1 (Sat.ret rfl))
theorem roots_a : span_Roots (Span.mk 1 109) = some (Span.mk 1 11, 0) := by
  refine Sat.get ?_
  unfold span_Roots
  exact Sat.eq (a := 0) (by kernel_rfl) (Sat.ndec (fun h => absurd rfl h) fun _ => Sat.no (by decide) (Sat.eq Root109 (Sat.yes (by decide) (Sat.eq Root1 (Sat.ret rfl)))))
theorem roots_b : span_Roots (Span.mk 1 1) = some (Span.mk 1 1, 0) := by
  refine Sat.get ?_
  unfold span_Roots
  exact Sat.eq (a := 0) (by kernel_rfl) (Sat.ndec (fun h => absurd rfl h) fun _ => Sat.no (by decide) (Sat.eq Root1 (Sat.no (by decide) (Sat.eq Root1 (Sat.ret rfl)))))

def areaA : Area := Area.mk (Span.mk 0 10) (Span.mk 0 3)
def areaB : Area := Area.mk (Span.mk 0 0) (Span.mk 0 0)

theorem to_a : force_heavy_to stillH areaA = some (Area.mk (Span.mk (-10) 0) (Span.mk (-3) 0)) := by kernel_rfl
theorem to_b : force_heavy_to stillH areaB = some areaB := by kernel_rfl

theorem dist_a : force_heavy_distances stillH areaA = some (Span.mk 1 109, Span.mk 1 11) := by
  refine Sat.get ?_
  unfold force_heavy_distances
  refine Sat.eq to_a (Sat.eq (a := Span.mk 0 100) (by kernel_rfl) (Sat.eq (a := Span.mk 0 9) (by kernel_rfl) (Sat.eq (a := Span.mk 0 109) ?_ (Sat.eq (a := 1) rfl (Sat.eq (a := 1) rfl (Sat.eq roots_a (Sat.ret rfl)))))))
  unfold force_add
  exact loopM_some.2 ⟨10, by kernel_rfl⟩
theorem dist_b : force_heavy_distances stillH areaB = some (Span.mk 1 1, Span.mk 1 1) := by
  refine Sat.get ?_
  unfold force_heavy_distances
  refine Sat.eq to_b (Sat.eq (a := Span.mk 0 0) (by kernel_rfl) (Sat.eq (a := Span.mk 0 0) (by kernel_rfl) (Sat.eq (a := Span.mk 0 0) ?_ (Sat.eq (a := 1) rfl (Sat.eq (a := 1) rfl (Sat.eq roots_b (Sat.ret rfl)))))))
  unfold force_add
  exact loopM_some.2 ⟨10, by kernel_rfl⟩

theorem pull_a : force_heavy_pull stillH areaA = some areaB := by
  refine Sat.get ?_
  unfold force_heavy_pull
  refine Sat.eq dist_a (Sat.eq to_a (Sat.eq (toward_zero (b := Span.mk (-10) 0) (c := Span.mk 1 109) (d := Span.mk 1 11) (by kernel_rfl) (by kernel_rfl) (by kernel_rfl) (by kernel_rfl) (by kernel_rfl)) (Sat.eq (toward_zero (b := Span.mk (-3) 0) (c := Span.mk 1 109) (d := Span.mk 1 11) (by kernel_rfl) (by kernel_rfl) (by kernel_rfl) (by kernel_rfl) (by kernel_rfl)) (Sat.ret rfl))))
theorem pull_b : force_heavy_pull stillH areaB = some areaB := by
  refine Sat.get ?_
  unfold force_heavy_pull
  refine Sat.eq dist_b (Sat.eq to_b (Sat.eq (toward_zero (b := Span.mk 0 0) (c := Span.mk 1 1) (d := Span.mk 1 1) (by kernel_rfl) (by kernel_rfl) (by kernel_rfl) (by kernel_rfl) (by kernel_rfl)) (Sat.eq (toward_zero (b := Span.mk 0 0) (c := Span.mk 1 1) (d := Span.mk 1 1) (by kernel_rfl) (by kernel_rfl) (by kernel_rfl) (by kernel_rfl) (by kernel_rfl)) (Sat.ret rfl))))

theorem pulls_of {a : Area} (h : force_heavy_pull stillH a = some areaB) : force_pulls stillW 0 a = some [(0, areaB)] := by
  unfold force_pulls force_pulls_c1
  refine Sat.get (Sat.eq (a := [(0, areaB)]) ?_ (Sat.ret rfl))
  refine Sat.next (s' := (1, [(0, areaB)])) ?_ (Sat.last rfl)
  show Option.bind (force_of stillW 0 0) _ = _
  rw [still_of]
  show Option.bind (force_heavy_pull stillH a) _ = _
  rw [h]
  rfl

theorem over_of {a : Area} (hc : span_CheckArea a = some 0) (h1 : ¬ a.X.Lo < -33554432) (h2 : ¬ 33554432 < a.X.Hi) (h3 : ¬ a.Y.Lo < -33554432) (h4 : ¬ 33554432 < a.Y.Hi) (h : force_heavy_pull stillH a = some areaB) : force_Over stillW stillD 0 a = some (Area.mk (Span.mk (-1) 1) (Span.mk (-1) 1), 0) := by
  refine Sat.get ?_
  unfold force_Over
  refine Sat.eq (a := 0) ?_ (Sat.ndec (fun h => absurd rfl h) fun _ => Sat.eq (pulls_of h) ?_)
  · refine Sat.get ?_
    unfold force_asked
    rw [force_within_eq]
    exact Sat.eq still_world (Sat.ndec (fun h => absurd rfl h) fun _ => Sat.eq still_drift (Sat.ndec (fun h => absurd rfl h) fun _ => Sat.bind_some (Sat.eq hc (Sat.ndec (fun h => absurd rfl h) fun _ => Sat.no h1 (Sat.no h2 (Sat.no h3 (Sat.no h4 (Sat.ret rfl))))))))
  · have e1 : force_sum [Area.mk (Span.mk (-1) 1) (Span.mk (-1) 1), areaB] = some (Area.mk (Span.mk (-1) 1) (Span.mk (-1) 1)) := sum2 add_a add_a add_b add_b
    have e2 : force_sum [Area.mk (Span.mk (-1) 1) (Span.mk (-1) 1), areaB, areaB] = some (Area.mk (Span.mk (-1) 1) (Span.mk (-1) 1)) := sum3 add_a add_a add_b add_b add_b add_b
    have e3 : force_light stillD areaB = some areaB := by kernel_rfl
    have e4 : force_heat stillD areaB = some areaB := by kernel_rfl
    refine ⟨_, forL_one (s' := Area.mk (Span.mk (-1) 1) (Span.mk (-1) 1)) ?_ rfl, rfl⟩
    refine Sat.get ?_
    exact Sat.eq e1 (Sat.yes rfl (Sat.eq e3 (Sat.eq e4 (Sat.eq e2 (Sat.ret rfl)))))

theorem far_a : span_CheckArea areaA = some 0 := by
  refine Sat.get ?_
  unfold span_CheckArea
  refine Sat.eq (a := 0) (by kernel_rfl) (Sat.ndec (fun h => absurd rfl h) fun _ => Sat.eq (a := true) ?_ (Sat.ret rfl))
  unfold span_far
  exact loopM_some.2 ⟨10, by kernel_rfl⟩
theorem far_b : span_CheckArea areaB = some 0 := by
  refine Sat.get ?_
  unfold span_CheckArea
  refine Sat.eq (a := 0) (by kernel_rfl) (Sat.ndec (fun h => absurd rfl h) fun _ => Sat.eq (a := true) ?_ (Sat.ret rfl))
  unfold span_far
  exact loopM_some.2 ⟨10, by kernel_rfl⟩

theorem over_a : force_Over stillW stillD 0 areaA = some (Area.mk (Span.mk (-1) 1) (Span.mk (-1) 1), 0) := over_of far_a (by decide) (by decide) (by decide) (by decide) pull_a
theorem over_b : force_Over stillW stillD 0 areaB = some (Area.mk (Span.mk (-1) 1) (Span.mk (-1) 1), 0) := over_of far_b (by decide) (by decide) (by decide) (by decide) pull_b

theorem step_a : orbit_Step stillW stillD 0 (Box.mk (Span.mk 0 10) (Span.mk 0 3) (Span.mk 5 5) (Span.mk (-2) 0)) = some (Box.mk (Span.mk 4 16) (Span.mk (-3) 4) (Span.mk 4 6) (Span.mk (-3) 1), 0) := by
  unfold orbit_Step
  rw [orbitWorld_gen stillW_gen stillD_gen]
  unfold orbit_step
  have h : force_Over stillW stillD 0 (Area.mk (Box.mk (Span.mk 0 10) (Span.mk 0 3) (Span.mk 5 5) (Span.mk (-2) 0)).X (Box.mk (Span.mk 0 10) (Span.mk 0 3) (Span.mk 5 5) (Span.mk (-2) 0)).Y) = some (Area.mk (Span.mk (-1) 1) (Span.mk (-1) 1), 0) := over_a
  rw [h]
  rfl

theorem possible_a : orbit_Possible stillW stillD 0 (State.mk 0 0 5 0) (State.mk 6 (-1) 6 (-1)) = some true := by
  unfold orbit_Possible
  rw [orbitWorld_gen stillW_gen stillD_gen]
  unfold orbit_follows
  rw [pull_eq]
  have h : force_Over stillW stillD 0 (Area.mk (Span.mk (Vec.mk (State.mk 0 0 5 0).X (State.mk 0 0 5 0).Y).X (Vec.mk (State.mk 0 0 5 0).X (State.mk 0 0 5 0).Y).X) (Span.mk (Vec.mk (State.mk 0 0 5 0).X (State.mk 0 0 5 0).Y).Y (Vec.mk (State.mk 0 0 5 0).X (State.mk 0 0 5 0).Y).Y)) = some (Area.mk (Span.mk (-1) 1) (Span.mk (-1) 1), 0) := over_b
  rw [h]
  rfl

theorem awake_true : law04_awake = some true := by
  refine Sat.get ?_
  unfold law04_awake
  refine Sat.eq (a := stillW) rfl (Sat.eq (a := stillD) rfl (Sat.eq (a := Box.mk (Span.mk 0 10) (Span.mk 0 3) (Span.mk 5 5) (Span.mk (-2) 0)) rfl (Sat.eq step_a ?_)))
  refine Sat.yes rfl (Sat.cond (fun _ => ?_) fun h => absurd h (by decide))
  exact Sat.eq (a := stillW) rfl (Sat.eq (a := stillD) rfl (Sat.eq possible_a (Sat.ret rfl)))

theorem orbitTight_plain (l : List Int) (hl : l.length ≤ Go.maxLen) (_ : ∀ n, n ∈ l → -9223372036854775808 ≤ n ∧ n ≤ 9223372036854775807) : law04_OrbitTight l = some true :=
  tight_of_awake awake_true (by unfold Go.maxLen at hl; omega)

end Go.Proofs.Bol

