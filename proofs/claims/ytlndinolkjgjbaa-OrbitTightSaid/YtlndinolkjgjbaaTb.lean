/-
  Proved here: the table of types is that of the program.
  Conditions: those that the theorems name.
-/
import Derived.Test.YtlndinolkjgjbaaPh
import Derived.Test.YtlndinolkjgjbaaTy
import Derived.KernelRfl
set_option linter.all false
set_option maxRecDepth 100000
namespace Go.Proofs.Bol
open Go.Px
theorem cd2_ok : cd2.OK 1 := cdInt_ok
theorem cd3_ok : cd3.OK 1 := cdInt_ok
theorem cd4_ok : cd4.OK 1 := cdBool_ok
theorem cd22_ok : cd22.OK 1 := cdSl_ok
theorem cd69_ok : cd69.OK 2 := (map_ok (pair_ok cd2_ok cd2_ok) fun _ => rfl)
theorem cd65_ok : cd65.OK 1 := cdSl_ok
theorem cd67_ok : cd67.OK 3 := (map_ok (pair_ok cd2_ok (pair_ok cd2_ok cd65_ok)) fun _ => rfl)
theorem cd24_ok : cd24.OK 1 := cdSl_ok
theorem cd26_ok : cd26.OK 2 := (map_ok (pair_ok cd24_ok cd3_ok) fun _ => rfl)
theorem cd72_ok : cd72.OK 3 := (map_ok (pair_ok cd3_ok cd69_ok) fun _ => rfl)
theorem cd27_ok : cd27.OK 1 := cdSl_ok
theorem cd32_ok : cd32.OK 2 := (map_ok (pair_ok cd2_ok cd2_ok) fun _ => rfl)
theorem cd74_ok : cd74.OK 3 := (map_ok (pair_ok cd3_ok cd32_ok) fun _ => rfl)
theorem cd28_ok : cd28.OK 1 := cdSl_ok
theorem cd30_ok : cd30.OK 4 := (map_ok (pair_ok cd26_ok (pair_ok cd27_ok cd28_ok)) fun _ => rfl)
theorem cd34_ok : cd34.OK 5 := (map_ok (pair_ok cd32_ok (pair_ok cd32_ok cd2_ok)) fun _ => rfl)
theorem cd36_ok : cd36.OK 8 := (map_ok (pair_ok cd32_ok (pair_ok cd32_ok (pair_ok cd32_ok cd32_ok))) fun _ => rfl)
theorem cd38_ok : cd38.OK 4 := (map_ok (pair_ok cd2_ok (pair_ok cd2_ok (pair_ok cd2_ok cd2_ok))) fun _ => rfl)
theorem cd41_ok : cd41.OK 1 := cdInt_ok
theorem cd45_ok : cd45.OK 1 := cdSl_ok
theorem cd63_ok : cd63.OK 2 := (map_ok (pair_ok cd22_ok cd3_ok) fun _ => rfl)
theorem cd75_ok : cd75.OK 4 := (pair_ok cd2_ok (pair_ok cd2_ok (pair_ok cd2_ok cd2_ok)))
theorem cd80_ok : cd80.OK 8 := (pair_ok cd32_ok (pair_ok cd32_ok (pair_ok cd32_ok cd32_ok)))
theorem cd81_ok : cd81.OK 8 := (pair_ok cd32_ok (pair_ok cd32_ok (pair_ok cd32_ok cd32_ok)))
theorem cd84_ok : cd84.OK 4 := (map_ok (pair_ok cd32_ok cd32_ok) fun _ => rfl)
theorem cd107_ok : cd107.OK 5 := (map_ok (pair_ok cd67_ok cd69_ok) fun _ => rfl)
theorem cd110_ok : cd110.OK 1 := cdSl_ok
theorem cd121_ok : cd121.OK 1 := cdSl_ok
theorem cd125_ok : cd125.OK 1 := cdSl_ok
theorem cd129_ok : cd129.OK 2 := (pair_ok cd2_ok cd2_ok)
theorem cd136_ok : cd136.OK 1 := cdInt_ok
theorem cd138_ok : cd138.OK 2 := (map_ok (pair_ok cd136_ok cd136_ok) fun _ => rfl)
theorem cd140_ok : cd140.OK 3 := (map_ok (pair_ok cd138_ok cd4_ok) fun _ => rfl)
theorem cd159_ok : cd159.OK 4 := (pair_ok cd129_ok cd129_ok)
theorem good2 : GoodT D 2 := good_of cd2_ok rfl rfl rfl rfl
theorem good3 : GoodT D 3 := good_of cd3_ok rfl rfl rfl rfl
theorem good4 : GoodT D 4 := good_of cd4_ok rfl rfl rfl rfl
theorem good22 : GoodT D 22 := good_of cd22_ok rfl rfl rfl rfl
theorem good69 : GoodT D 69 := good_of cd69_ok rfl rfl rfl rfl
theorem good65 : GoodT D 65 := good_of cd65_ok rfl rfl rfl rfl
theorem good67 : GoodT D 67 := good_of cd67_ok rfl rfl rfl rfl
theorem good24 : GoodT D 24 := good_of cd24_ok rfl rfl rfl rfl
theorem good26 : GoodT D 26 := good_of cd26_ok rfl rfl rfl rfl
theorem good72 : GoodT D 72 := good_of cd72_ok rfl rfl rfl rfl
theorem good27 : GoodT D 27 := good_of cd27_ok rfl rfl rfl rfl
theorem good32 : GoodT D 32 := good_of cd32_ok rfl rfl rfl rfl
theorem good74 : GoodT D 74 := good_of cd74_ok rfl rfl rfl rfl
theorem good28 : GoodT D 28 := good_of cd28_ok rfl rfl rfl rfl
theorem good30 : GoodT D 30 := good_of cd30_ok rfl rfl rfl rfl
theorem good34 : GoodT D 34 := good_of cd34_ok rfl rfl rfl rfl
theorem good36 : GoodT D 36 := good_of cd36_ok rfl rfl rfl rfl
theorem good38 : GoodT D 38 := good_of cd38_ok rfl rfl rfl rfl
theorem good41 : GoodT D 41 := good_of cd41_ok rfl rfl rfl rfl
theorem good45 : GoodT D 45 := good_of cd45_ok rfl rfl rfl rfl
theorem good63 : GoodT D 63 := good_of cd63_ok rfl rfl rfl rfl
theorem good75 : GoodT D 75 := good_of cd75_ok rfl rfl rfl rfl
theorem good80 : GoodT D 80 := good_of cd80_ok rfl rfl rfl rfl
theorem good81 : GoodT D 81 := good_of cd81_ok rfl rfl rfl rfl
theorem good84 : GoodT D 84 := good_of cd84_ok rfl rfl rfl rfl
theorem good107 : GoodT D 107 := good_of cd107_ok rfl rfl rfl rfl
theorem good110 : GoodT D 110 := good_of cd110_ok rfl rfl rfl rfl
theorem good121 : GoodT D 121 := good_of cd121_ok rfl rfl rfl rfl
theorem good125 : GoodT D 125 := good_of cd125_ok rfl rfl rfl rfl
theorem good129 : GoodT D 129 := good_of cd129_ok rfl rfl rfl rfl
theorem good136 : GoodT D 136 := good_of cd136_ok rfl rfl rfl rfl
theorem good138 : GoodT D 138 := good_of cd138_ok rfl rfl rfl rfl
theorem good140 : GoodT D 140 := good_of cd140_ok rfl rfl rfl rfl
theorem good159 : GoodT D 159 := good_of cd159_ok rfl rfl rfl rfl
def ids : List Nat := [2, 3, 4, 22, 24, 26, 27, 28, 30, 32, 34, 36, 38, 41, 45, 63, 65, 67, 69, 72, 74, 75, 80, 81, 84, 107, 110, 121, 125, 129, 136, 138, 140, 159]
theorem ids_all (E : Nat) (x : T E) : E ∈ ids := by
  unfold T at x
  split at x <;> first | exact x.elim | (unfold ids; simp)
theorem good_all : ∀ E, E ∈ ids → GoodT D E := (forall_cons good2 (forall_cons good3 (forall_cons good4 (forall_cons good22 (forall_cons good24 (forall_cons good26 (forall_cons good27 (forall_cons good28 (forall_cons good30 (forall_cons good32 (forall_cons good34 (forall_cons good36 (forall_cons good38 (forall_cons good41 (forall_cons good45 (forall_cons good63 (forall_cons good65 (forall_cons good67 (forall_cons good69 (forall_cons good72 (forall_cons good74 (forall_cons good75 (forall_cons good80 (forall_cons good81 (forall_cons good84 (forall_cons good107 (forall_cons good110 (forall_cons good121 (forall_cons good125 (forall_cons good129 (forall_cons good136 (forall_cons good138 (forall_cons good140 (forall_cons good159 forall_nil))))))))))))))))))))))))))))))))))
theorem tabOK : TabOK Try.prog D := tab_ok (fun _ => rfl) (by kernel_rfl) ids_all good_all (by kernel_rfl) (by kernel_rfl) (by kernel_rfl)
end Go.Proofs.Bol
