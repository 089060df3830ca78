/-
  Proved here: the evaluator gives the plain functions.
  Conditions: those that the theorems name.
-/
import Derived.Test.YtlndinolkjgjbaaFn
set_option linter.all false
set_option maxHeartbeats 40000
set_option maxRecDepth 1000000
namespace Go.Proofs.Bol
open Go.Px
theorem ev_bits_Div64 (a0 : Int) (a1 : Int) (a2 : Int) : evPlain (D.b []) [e_bits_LeadingZeros64] [] [(0, .inv [.tmp 15 136, .tmp 16 136] [2, 6, 7, 8, 9, 10, 11, 13, 14] [1000000]), (2, .inv [.tmp 16 136, .tmp 18 136] [2, 6, 7, 8, 9, 10, 14, 15, 17] [1000000])] Try.f90 [.val 136, .val 136, .val 136] [.val 136, .val 136] (a0, a1, a2) = bits_Div64 a0 a1 a2 := by kernel_rfl
theorem ev_span_signed_divide (a0 : Span_signed) (a1 : Int) : evPlain (D.b []) [e_span_size, e_bits_Div64] [] [] Try.f82 [.val 140, .val 2] [.val 2, .val 2, .val 41] (a0, a1) = span_signed_divide a0 a1 := by kernel_rfl
theorem ev_span_Quot_c1 (a0 : Int) (a1 : Int) : evPlain (D.b []) [e_span_product, e_span_signed_divide] [] [] Try.f85 [.val 2, .val 2] [.val 2, .val 2, .val 41] (a0, a1) = span_Quot_c1 a0 a1 := by kernel_rfl
theorem ev_span_Quot (a0 : Span) (a1 : Span) : evPlain (D.b []) [e_span_valid, e_span_In, e_span_combine, e_span_Quot_c1] [] [] Try.f75 [.val 32, .val 32] [.val 32, .val 41] (a0, a1) = span_Quot a0 a1 := by kernel_rfl
theorem ev_force_quot (a0 : Span) (a1 : Span) : evPlain (D.b []) [e_span_Quot] [] [] Try.f63 [.val 32, .val 32] [.val 32] (a0, a1) = force_quot a0 a1 := by kernel_rfl
theorem ev_span_MulDiv (a0 : Int) (a1 : Int) (a2 : Int) : evPlain (D.b []) [e_span_fits, e_span_product, e_span_signed_divide] [] [] Try.f72 [.val 2, .val 2, .val 2] [.val 2, .val 2, .val 41] (a0, a1, a2) = span_MulDiv a0 a1 a2 := by kernel_rfl
theorem ev_force_clamp (a0 : Span) : evPlain (D.b []) [] [] [] Try.f73 [.val 32] [.val 32] a0 = force_clamp a0 := by kernel_rfl
theorem ev_force_heavy_toward (a0 : Force_heavy) (a1 : Span) (a2 : Span) (a3 : Span) : evPlain (D.b []) [e_force_quot, e_span_MulDiv, e_force_clamp] [] [(0, .inv [.tmp 30 3, .box 11 80 []] [4, 7, 8, 9, 10, 11] [4, 5, 6, 7, 8, 9, 10, 1000000]), (2, .inv [.tmp 65 3, .box 17 32 []] [7, 8, 17, 63, 64] [4, 5, 6, 7, 8, 9, 10, 1000000])] Try.f61 [.val 107, .val 32, .val 32, .val 32] [.val 32] (a0, a1, a2, a3) = force_heavy_toward a0 a1 a2 a3 := by kernel_rfl
theorem ev_force_heavy_pull (a0 : Force_heavy) (a1 : Area) : evPlain (D.b []) [e_force_heavy_distances, e_force_heavy_to, e_force_heavy_toward] [] [] Try.f50 [.val 107, .val 84] [.val 84] (a0, a1) = force_heavy_pull a0 a1 := by kernel_rfl
theorem ev_force_pulls_c1 (m : Int) (a0 : World) (a1 : Int) (a2 : Area) : evIter D [e_force_of, e_force_heavy_pull] [(0, .inv [.tmp 9 3, .log [3, 84]] [0, 1, 2, 3, 8] [])] Try.f48 [.rp 26, .rp 2, .rp 84] [3, 84] m (a0, a1, a2) = force_pulls_c1 m a0 a1 a2 := by kernel_rfl
theorem ev_force_pulls (a0 : World) (a1 : Int) (a2 : Area) : evPlain (D.b []) [] [g_force_pulls_c1] [] Try.f38 [.val 26, .val 2, .val 84] [.seq [3, 84]] (a0, a1, a2) = force_pulls a0 a1 a2 := by kernel_rfl
theorem ev_force_sum (a0 : List Area) : evPlain (D.b []) [e_force_add] [] [(0, .inv [.tmp 8 3, .box 3 84 []] [2, 3, 6, 7] [2, 1000000])] Try.f39 [.val 110] [.val 84] a0 = force_sum a0 := by kernel_rfl
theorem ev_force_minus (a0 : Span) : evPlain (D.b []) [] [] [] Try.f52 [.val 32] [.val 32] a0 = force_minus a0 := by kernel_rfl
theorem ev_span_Mul_c1 (a0 : Int) (a1 : Int) : evPlain (D.b []) [e_span_product, e_span_signed_divide] [] [] Try.f86 [.val 2, .val 2] [.val 2, .val 2, .val 41] (a0, a1) = span_Mul_c1 a0 a1 := by kernel_rfl
theorem ev_span_Mul (a0 : Span) (a1 : Span) : evPlain (D.b []) [e_span_combine, e_span_Mul_c1] [] [] Try.f76 [.val 32, .val 32] [.val 32, .val 41] (a0, a1) = span_Mul a0 a1 := by kernel_rfl
theorem ev_force_mul (a0 : Span) (a1 : Span) : evPlain (D.b []) [e_span_Mul] [] [] Try.f64 [.val 32, .val 32] [.val 32] (a0, a1) = force_mul a0 a1 := by kernel_rfl
theorem ev_force_part (a0 : Span) (a1 : Span) : evPlain (D.b []) [e_force_one, e_force_quot, e_force_mul] [] [] Try.f53 [.val 32, .val 32] [.val 32] (a0, a1) = force_part a0 a1 := by kernel_rfl
theorem ev_force_light (a0 : Drift) (a1 : Area) : evPlain (D.b []) [e_force_minus, e_force_part] [] [] Try.f40 [.val 34, .val 84] [.val 84] (a0, a1) = force_light a0 a1 := by kernel_rfl
theorem ev_force_heat (a0 : Drift) (a1 : Area) : evPlain (D.b []) [e_force_minus, e_force_part] [] [] Try.f41 [.val 34, .val 84] [.val 84] (a0, a1) = force_heat a0 a1 := by kernel_rfl
theorem ev_force_Over (a0 : World) (a1 : Drift) (a2 : Int) (a3 : Area) : evPlain (D.b []) [e_force_asked, e_force_pulls, e_force_sum, e_force_light, e_force_heat] [] [(0, .inv [.box 12 84 []] [5, 8, 9, 12] [4, 5, 7, 8, 11, 1000000])] Try.f29 [.val 26, .val 34, .val 2, .val 84] [.val 84, .val 41] (a0, a1, a2, a3) = force_Over a0 a1 a2 a3 := by kernel_rfl
theorem ev_orbit_add (a0 : Span) (a1 : Span) : evPlain (D.b []) [] [] [] Try.f30 [.val 32, .val 32] [.val 32] (a0, a1) = orbit_add a0 a1 := by kernel_rfl
theorem ev_orbit_step (a0 : World) (a1 : Drift) (a2 : Int) (a3 : Box) : evPlain (D.b []) [e_orbit_Check, e_force_Over, e_orbit_add] [] [] Try.f16 [.val 26, .val 34, .val 2, .val 36] [.val 36, .val 4] (a0, a1, a2, a3) = orbit_step a0 a1 a2 a3 := by kernel_rfl
theorem ev_orbit_Step (a0 : World) (a1 : Drift) (a2 : Int) (a3 : Box) : evPlain (D.b []) [e_orbit_checkWorld, e_orbit_within, e_orbit_Check, e_orbit_step] [] [] Try.f5 [.val 26, .val 34, .val 2, .val 36] [.val 36, .val 41] (a0, a1, a2, a3) = orbit_Step a0 a1 a2 a3 := by kernel_rfl
theorem ev_force_alone (a0 : Vec) : evPlain (D.b []) [e_force_one] [] [] Try.f42 [.val 69] [.val 84] a0 = force_alone a0 := by kernel_rfl
theorem ev_force_Pull (a0 : World) (a1 : Drift) (a2 : Int) (a3 : Vec) : evPlain (D.b []) [e_force_Over, e_force_alone] [] [] Try.f31 [.val 26, .val 34, .val 2, .val 69] [.val 84, .val 41] (a0, a1, a2, a3) = force_Pull a0 a1 a2 a3 := by kernel_rfl
theorem ev_orbit_follows (a0 : World) (a1 : Drift) (a2 : Int) (a3 : State) (a4 : State) : evPlain (D.b []) [e_orbit_within, e_force_Pull] [] [] Try.f21 [.val 26, .val 34, .val 2, .val 38, .val 38] [.val 4] (a0, a1, a2, a3, a4) = orbit_follows a0 a1 a2 a3 a4 := by kernel_rfl
theorem ev_orbit_Possible (a0 : World) (a1 : Drift) (a2 : Int) (a3 : State) (a4 : State) : evPlain (D.b []) [e_orbit_checkWorld, e_orbit_within, e_orbit_CheckState, e_orbit_follows] [] [] Try.f7 [.val 26, .val 34, .val 2, .val 38, .val 38] [.val 4] (a0, a1, a2, a3, a4) = orbit_Possible a0 a1 a2 a3 a4 := by kernel_rfl
theorem ev_law04_still : evPlain (D.b []) [] [] [] Try.f17 [] [.val 26] () = law04_still  := by kernel_rfl
theorem ev_law04_gas : evPlain (D.b []) [] [] [] Try.f18 [] [.val 34] () = law04_gas  := by kernel_rfl
theorem ev_law04_shown : evPlain (D.b []) [] [] [] Try.f19 [] [.val 36] () = law04_shown  := by kernel_rfl
theorem ev_law04_awake : evPlain (D.b []) [e_orbit_Step, e_orbit_Possible, e_law04_still, e_law04_gas, e_law04_shown] [] [] Try.f6 [] [.val 4] () = law04_awake  := by kernel_rfl
theorem ev_law04_OrbitTight (a0 : List Int) : evPlain (D.b []) [e_law04_made, e_orbit_Step, e_law04_awake, e_orbit_Possible] [] [(0, .unroll 4), (2, .unroll 4), (4, .unroll 4)] Try.f3 [.val 22] [.val 4] a0 = law04_OrbitTight a0 := by kernel_rfl
end Go.Proofs.Bol
