/- What is proved: BendNormals returns true, whatever the input (part 25 of 30). No conditions beyond those of the row. -/
import Derived.Test.YtooloakdmdbnaaaGreatDoorPU
set_option linter.unusedVariables false
set_option linter.unusedSimpArgs false
set_option linter.unusedSectionVars false
namespace Go.Proofs.YtooloakdmdbnaaaGreatDoor
open Go Go.Eng
def r337 : Rw := (61, [Q 4294967296 4294967296, J 10000, J 1000], O 42949672960 42949672960 0)
theorem c337 : MO r337 := kn1 table1_ok (by kernel_rfl)
def r338 : Rw := (124, [Q 42949672960 42949672960, J 10000000, J 1000000000], O 429496729 429496730 0)
theorem c338 : MO r338 := kn1 table1_ok (by kernel_rfl)
def r339 : Rw := (124, [Q 429496729 429496730, J 10000000, J 10000000], O 429496729 429496730 0)
theorem c339 : MO r339 := kn1 table1_ok (by kernel_rfl)
def r340 : Rw := (119, [Q 0 0, Q 429496729 429496730], O (-429496730) (-429496729) 0)
theorem c340 : MO r340 := kn1 table1_ok (by kernel_rfl)
def r341 : Rw := (115, [Q (-429496730) (-429496729)], O 42949672 42949674 0)
theorem c341 : MO r341 := kn1 table1_ok (by kernel_rfl)
def r342 : Rw := (146, [Q 42949672 42949674, Q 0 0], O 42949672 42949674 0)
theorem c342 : MO r342 := kn1 table1_ok (by kernel_rfl)
def r343 : Rw := (146, [Q 42949672 42949674, Q 4294967296 4294967296], O 4337916968 4337916970 0)
theorem c343 : MO r343 := kn1 table1_ok (by kernel_rfl)
def r344 : Rw := (68, [Q 4337916968 4337916970], O 4316388711 4316388713 0)
theorem c344 : MO r344 := kn1 table1_ok (by kernel_rfl)
def r345 : Rw := (71, [Q (-429496730) (-429496729), Q 4316388711 4316388713], O (-427365220) (-427365218) 0)
theorem c345 : MO r345 := kn1 table1_ok (by kernel_rfl)
def r346 : Rw := (71, [Q 0 0, Q 4316388711 4316388713], O 0 0 0)
theorem c346 : MO r346 := kn1 table1_ok (by kernel_rfl)
def r347 : Rw := (71, [Q 4294967296 4294967296, Q 4316388711 4316388713], O 4273652189 4273652192 0)
theorem c347 : MO r347 := kn1 table1_ok (by kernel_rfl)
def r348 : Rw := (61, [Q 4294967296 4294967296, J (-866025), J 1000000], O (-3719549053) (-3719549052) 0)
theorem c348 : MO r348 := kn1 table1_ok (by kernel_rfl)
def r349 : Rw := (61, [Q 4294967296 4294967296, J 50, J 1000], O 214748364 214748365 0)
theorem c349 : MO r349 := kn1 table1_ok (by kernel_rfl)
def r350 : Rw := (61, [Q 4294967296 4294967296, J 998749, J 1000000], O 4289594291 4289594292 0)
theorem c350 : MO r350 := kn1 table1_ok (by kernel_rfl)
end Go.Proofs.YtooloakdmdbnaaaGreatDoor
