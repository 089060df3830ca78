/-
  Proved here: the evaluator gives the plain functions.
  Conditions: those that the theorems name.
-/
import Derived.Test.YtlndinolkjgjbaaFn
set_option linter.all false
set_option maxHeartbeats 40000
set_option maxRecDepth 1000000
namespace Go.Proofs.Bol
open Go.Px
theorem ev_kit_NewRing (a0 : List Int) : evPlain (D.b []) [] [] [] Try.f8 [.val 22] [.new 63] a0 = kit_NewRing a0 := by kernel_rfl
theorem ev_kit_Mod (a0 : Int) (a1 : Int) : evPlain (D.b []) [] [] [] Try.f32 [.val 3, .val 3] [.val 3] (a0, a1) = kit_Mod a0 a1 := by kernel_rfl
theorem ev_kit_Ring_Next (o : Kit_Ring) (a1 : Int) : evObj (D.b []) [e_kit_Mod] [] [] Try.f22 63 [.val 3] [.val 3] o a1 = kit_Ring_Next o a1 := by kernel_rfl
theorem ev_kit_PointOf (o : Kit_Ring) (a1 : Int) : evObj (D.b []) [e_kit_Ring_Next] [] [] Try.f23 63 [.val 3] [.val 69] o a1 = kit_PointOf o a1 := by kernel_rfl
theorem ev_kit_SkyOf (o : Kit_Ring) : evObj (D.b []) [e_kit_Ring_Next, e_kit_PointOf] [] [(0, .inv [.tmp 4 3, .box 3 30 [0, 2, 3], .box 1000000 63 []] [0, 2, 3] [2]), (2, .inv [.tmp 6 3, .box 3 30 [0, 2, 3], .box 5 67 [2], .box 1000000 63 []] [4, 5, 15, 16, 19, 20, 21, 22, 23, 24, 25, 26] []), (4, .inv [.tmp 7 3, .tmp 8 3, .box 3 30 [0, 2, 3], .box 1000000 63 []] [0, 2, 3] [2]), (6, .inv [.tmp 9 3, .tmp 10 3, .box 3 30 [0, 2, 3], .box 1000000 63 []] [0, 2, 3] [2])] Try.f9 63 [] [.val 30] o () = kit_SkyOf o := by kernel_rfl
theorem ev_kit_GasOf (o : Kit_Ring) : evObj (D.b []) [e_kit_Ring_Next] [] [] Try.f10 63 [] [.val 34] o () = kit_GasOf o := by kernel_rfl
theorem ev_kit_BoxOf (o : Kit_Ring) : evObj (D.b []) [e_kit_Ring_Next, e_kit_PointOf] [] [] Try.f11 63 [] [.val 36] o () = kit_BoxOf o := by kernel_rfl
theorem ev_kit_func4 (o : Kit_Ring) : evObj (D.b []) [e_kit_Ring_Next] [] [(0, .unroll 6)] Try.f24 63 [] [.val 75] o () = kit_func4 o := by kernel_rfl
theorem ev_kit_Mod64 (a0 : Int) (a1 : Int) : evPlain (D.b []) [] [] [] Try.f33 [.val 2, .val 2] [.val 2] (a0, a1) = kit_Mod64 a0 a1 := by kernel_rfl
theorem ev_kit_InSpan (a0 : Span) (a1 : Int) : evPlain (D.b []) [e_kit_Mod64] [] [] Try.f25 [.val 32, .val 2] [.val 2] (a0, a1) = kit_InSpan a0 a1 := by kernel_rfl
theorem ev_kit_StateIn (o : Kit_Ring) (a1 : Box) : evObj (D.b []) [e_kit_func4, e_kit_InSpan] [] [] Try.f12 63 [.val 36] [.val 38] o a1 = kit_StateIn o a1 := by kernel_rfl
theorem ev_law04_made (a0 : List Int) : evPlain (D.b []) [e_kit_NewRing, e_kit_SkyOf, e_kit_GasOf, e_kit_BoxOf, e_kit_StateIn] [] [] Try.f4 [.val 22] [.new 63, .val 30, .val 34, .val 36, .val 38] a0 = law04_made a0 := by kernel_rfl
theorem ev_sky_within (a0 : Int) (a1 : Int) (a2 : Int) : evPlain (D.b []) [] [] [] Try.f43 [.val 2, .val 2, .val 2] [.val 4] (a0, a1, a2) = sky_within a0 a1 a2 := by kernel_rfl
theorem ev_sl_IndexFunc_Vec (a0 : List Vec) (a1 : Vec → Option Bool) : evPlain (D.b []) [] [] [(0, .inv [.tmp 4 3, .tmp 8 3] [0, 1, 7] [1000000])] Try.f55 [.val 65, .fn [69] [4]] [.val 3] (a0, a1) = sl_IndexFunc_Vec a0 a1 := by kernel_rfl
theorem ev_sl_ContainsFunc_Vec (a0 : List Vec) (a1 : Vec → Option Bool) : evPlain (D.b []) [e_sl_IndexFunc_Vec] [] [] Try.f44 [.val 65, .fn [69] [4]] [.val 4] (a0, a1) = sl_ContainsFunc_Vec a0 a1 := by kernel_rfl
theorem ev_sky_near (a0 : Vec) (a1 : Int) : evPlain (D.b []) [e_sky_within] [] [] Try.f46 [.val 69, .val 2] [.val 4] (a0, a1) = sky_near a0 a1 := by kernel_rfl
theorem ev_sky_checkBody_c1 (a0 : Vec) : evPlain (D.b []) [e_sky_near] [] [] Try.f45 [.val 69] [.val 4] a0 = sky_checkBody_c1 a0 := by kernel_rfl
theorem ev_sky_checkBody (a0 : Body) : evPlain (D.b []) [e_sky_within, e_sl_ContainsFunc_Vec, e_sky_checkBody_c1] [] [] Try.f34 [.val 67] [.val 41] a0 = sky_checkBody a0 := by kernel_rfl
theorem ev_sky_CheckWorld (a0 : World) : evPlain (D.b []) [e_sky_checkBody] [] [(1, .inv [.tmp 2 41, .tmp 19 3] [1, 17, 18] [1, 1000000])] Try.f26 [.val 26] [.val 41] a0 = sky_CheckWorld a0 := by kernel_rfl
theorem ev_force_bounded (a0 : Span) (a1 : Int) (a2 : Int) : evPlain (D.b []) [] [] [] Try.f35 [.val 32, .val 2, .val 2] [.val 41] (a0, a1, a2) = force_bounded a0 a1 a2 := by kernel_rfl
theorem ev_force_within (a0 : Int) (a1 : Int) (a2 : Int) : evPlain (D.b []) [] [] [] Try.f36 [.val 2, .val 2, .val 2] [.val 4] (a0, a1, a2) = force_within a0 a1 a2 := by kernel_rfl
theorem ev_force_CheckDrift (a0 : Drift) : evPlain (D.b []) [e_force_bounded, e_force_within] [] [] Try.f27 [.val 34] [.val 41] a0 = force_CheckDrift a0 := by kernel_rfl
theorem ev_orbit_checkWorld (a0 : World) (a1 : Drift) : evPlain (D.b []) [e_sky_CheckWorld, e_force_CheckDrift] [] [] Try.f13 [.val 26, .val 34] [.val 41] (a0, a1) = orbit_checkWorld a0 a1 := by kernel_rfl
theorem ev_orbit_within (a0 : Int) (a1 : Int) (a2 : Int) : evPlain (D.b []) [] [] [] Try.f14 [.val 2, .val 2, .val 2] [.val 4] (a0, a1, a2) = orbit_within a0 a1 a2 := by kernel_rfl
theorem ev_orbit_CheckState (a0 : State) : evPlain (D.b []) [e_orbit_within] [] [] Try.f20 [.val 38] [.val 41] a0 = orbit_CheckState a0 := by kernel_rfl
theorem ev_orbit_of (a0 : Box) : evPlain (D.b []) [] [] [] Try.f28 [.val 36] [.val 81] a0 = orbit_of a0 := by kernel_rfl
theorem ev_orbit_Check (a0 : Box) : evPlain (D.b []) [e_orbit_CheckState, e_orbit_of] [] [(0, .unroll 6)] Try.f15 [.val 36] [.val 41] a0 = orbit_Check a0 := by kernel_rfl
theorem ev_span_within (a0 : Int) (a1 : Int) (a2 : Int) : evPlain (D.b []) [] [] [] Try.f66 [.val 2, .val 2, .val 2] [.val 4] (a0, a1, a2) = span_within a0 a1 a2 := by kernel_rfl
theorem ev_span_fits (a0 : Int) : evPlain (D.b []) [e_span_within] [] [] Try.f77 [.val 2] [.val 4] a0 = span_fits a0 := by kernel_rfl
theorem ev_span_Check (a0 : Span) : evPlain (D.b []) [e_span_fits] [] [] Try.f65 [.val 32] [.val 41] a0 = span_Check a0 := by kernel_rfl
theorem ev_span_valid (a0 : Span) (a1 : Span) : evPlain (D.b []) [e_span_Check] [] [] Try.f56 [.val 32, .val 32] [.val 41] (a0, a1) = span_valid a0 a1 := by kernel_rfl
theorem ev_span_far (a0 : List Int) : evPlain (D.b []) [e_span_within] [] [(0, .inv [.tmp 2 4, .tmp 7 3] [5, 6] [1000000])] Try.f57 [.val 45] [.val 4] a0 = span_far a0 := by kernel_rfl
theorem ev_span_CheckArea (a0 : Area) : evPlain (D.b []) [e_span_valid, e_span_far] [] [] Try.f47 [.val 84] [.val 41] a0 = span_CheckArea a0 := by kernel_rfl
theorem ev_force_asked (a0 : World) (a1 : Drift) (a2 : Int) (a3 : Area) : evPlain (D.b []) [e_sky_CheckWorld, e_force_CheckDrift, e_force_within, e_span_CheckArea] [] [(0, .unroll 4)] Try.f37 [.val 26, .val 34, .val 2, .val 84] [.val 41] (a0, a1, a2, a3) = force_asked a0 a1 a2 a3 := by kernel_rfl
theorem ev_sky_track_at (a0 : List Vec) (a1 : Int) : evPlain (D.b []) [] [] [] Try.f67 [.val 125, .val 2] [.val 69] (a0, a1) = sky_track_at a0 a1 := by kernel_rfl
theorem ev_sky_At (a0 : World) (a1 : Int) (a2 : Int) : evPlain (D.b []) [e_sky_CheckWorld, e_sky_within, e_sky_track_at] [] [] Try.f58 [.val 26, .val 3, .val 2] [.val 69] (a0, a1, a2) = sky_At a0 a1 a2 := by kernel_rfl
theorem ev_force_of (a0 : World) (a1 : Int) (a2 : Int) : evPlain (D.b []) [e_sky_At] [] [] Try.f49 [.val 26, .val 3, .val 2] [.val 107] (a0, a1, a2) = force_of a0 a1 a2 := by kernel_rfl
theorem ev_span_ends (a0 : Int) (a1 : Int) : evPlain (D.b []) [e_span_fits] [] [] Try.f74 [.val 2, .val 2] [.val 32, .val 41] (a0, a1) = span_ends a0 a1 := by kernel_rfl
theorem ev_span_Add (a0 : Span) (a1 : Span) : evPlain (D.b []) [e_span_valid, e_span_ends] [] [] Try.f62 [.val 32, .val 32] [.val 32, .val 41] (a0, a1) = span_Add a0 a1 := by kernel_rfl
theorem ev_force_add (a0 : List Span) : evPlain (D.b []) [e_span_Add] [] [(0, .inv [.tmp 8 3, .box 3 32 []] [2, 3, 6, 7] [2, 1000000])] Try.f51 [.val 121] [.val 32] a0 = force_add a0 := by kernel_rfl
theorem ev_force_one (a0 : Int) : evPlain (D.b []) [] [] [] Try.f54 [.val 2] [.val 32] a0 = force_one a0 := by kernel_rfl
theorem ev_span_Sub (a0 : Span) (a1 : Span) : evPlain (D.b []) [e_span_valid, e_span_ends] [] [] Try.f80 [.val 32, .val 32] [.val 32, .val 41] (a0, a1) = span_Sub a0 a1 := by kernel_rfl
theorem ev_force_sub (a0 : Span) (a1 : Span) : evPlain (D.b []) [e_span_Sub] [] [] Try.f71 [.val 32, .val 32] [.val 32] (a0, a1) = force_sub a0 a1 := by kernel_rfl
theorem ev_force_heavy_to (a0 : Force_heavy) (a1 : Area) : evPlain (D.b []) [e_force_one, e_force_sub] [] [] Try.f60 [.val 107, .val 84] [.val 84] (a0, a1) = force_heavy_to a0 a1 := by kernel_rfl
theorem ev_span_Square (a0 : Span) : evPlain (D.b []) [e_span_Check, e_span_ends] [] [] Try.f78 [.val 32] [.val 32, .val 41] a0 = span_Square a0 := by kernel_rfl
theorem ev_force_square (a0 : Span) : evPlain (D.b []) [e_span_Square] [] [] Try.f68 [.val 32] [.val 32] a0 = force_square a0 := by kernel_rfl
theorem ev_force_heavy_edge (a0 : Force_heavy) : evPlain (D.b []) [] [] [] Try.f69 [.val 107] [.val 2] a0 = force_heavy_edge a0 := by kernel_rfl
theorem ev_span_root (a0 : Int) : evPlain (D.b []) [] [] [(0, .inv [.tmp 3 136, .tmp 4 136] [0, 2] [1000000])] Try.f87 [.val 136] [.val 136] a0 = span_root a0 := by kernel_rfl
theorem ev_span_Root (a0 : Int) : evPlain (D.b []) [e_span_root] [] [] Try.f79 [.val 2] [.val 2] a0 = span_Root a0 := by kernel_rfl
theorem ev_span_Roots (a0 : Span) : evPlain (D.b []) [e_span_Check, e_span_Root] [] [] Try.f70 [.val 32] [.val 32, .val 41] a0 = span_Roots a0 := by kernel_rfl
theorem ev_force_heavy_distances (a0 : Force_heavy) (a1 : Area) : evPlain (D.b []) [e_force_add, e_force_heavy_to, e_force_square, e_force_heavy_edge, e_span_Roots] [] [] Try.f59 [.val 107, .val 84] [.val 32, .val 32] (a0, a1) = force_heavy_distances a0 a1 := by kernel_rfl
theorem ev_span_In (a0 : Span) (a1 : Int) : evPlain (D.b []) [e_span_Check, e_span_within] [] [] Try.f83 [.val 32, .val 2] [.val 4] (a0, a1) = span_In a0 a1 := by kernel_rfl
theorem ev_span_pairs_c1 (m : Int) (a0 : (Int × Int) × (Int × Int)) : evIter D [] [(0, .unroll 4), (2, .unroll 4)] Try.f94 [.rp 159] [2, 2] m a0 = span_pairs_c1 m a0 := by kernel_rfl
theorem ev_span_pairs (a0 : Span) (a1 : Span) : evPlain (D.b []) [] [g_span_pairs_c1] [] Try.f91 [.val 32, .val 32] [.seq [2, 2]] (a0, a1) = span_pairs a0 a1 := by kernel_rfl
theorem ev_span_combine (a0 : Span) (a1 : Span) (a2 : (Int × Int) → Option (Int × Int × Int)) : evPlain (D.b []) [e_span_valid, e_span_pairs] [] [(0, .inv [.box 6 32 [], .box 7 41 [], .box 9 32 []] [5, 6, 7, 9] [3, 4, 5, 1000000])] Try.f84 [.val 32, .val 32, .fn [2, 2] [2, 2, 41]] [.val 32, .val 41] (a0, a1, a2) = span_combine a0 a1 a2 := by kernel_rfl
theorem ev_bits_Mul64 (a0 : Int) (a1 : Int) : evPlain (D.b []) [] [] [] Try.f92 [.val 136, .val 136] [.val 136, .val 136] (a0, a1) = bits_Mul64 a0 a1 := by kernel_rfl
theorem ev_span_times (a0 : Int) (a1 : Int) : evPlain (D.b []) [e_bits_Mul64] [] [] Try.f88 [.val 136, .val 136] [.val 138] (a0, a1) = span_times a0 a1 := by kernel_rfl
theorem ev_span_size (a0 : Int) : evPlain (D.b []) [] [] [] Try.f89 [.val 2] [.val 136] a0 = span_size a0 := by kernel_rfl
theorem ev_span_product (a0 : Int) (a1 : Int) : evPlain (D.b []) [e_span_times, e_span_size] [] [] Try.f81 [.val 2, .val 2] [.val 140] (a0, a1) = span_product a0 a1 := by kernel_rfl
theorem ev_bits_LeadingZeros64 (a0 : Int) : evPlain (D.b []) [e_bits_Len64] [] [] Try.f93 [.val 136] [.val 3] a0 = bits_LeadingZeros64 a0 := by kernel_rfl
end Go.Proofs.Bol
