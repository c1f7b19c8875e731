/- What is proved: BendNormals returns true, whatever the input (part 20 of 30). No conditions beyond those of the row. -/
import Derived.Test.YtooloakdmdbnaaaGreatDoorPH
set_option linter.unusedVariables false
set_option linter.unusedSimpArgs false
set_option linter.unusedSectionVars false
namespace Go.Proofs.YtooloakdmdbnaaaGreatDoor
open Go Go.Eng
def r205 : Rw := (128, [J 0, J 4316388713], D2 0 0)
theorem c205 : MO r205 := kn1 none_known (by kernel_rfl)
def r206 : Rw := (127, [J 4294967296, J 4316388711], D2 4273652191 0)
theorem c206 : MO r206 := kn1 none_known (by kernel_rfl)
def r207 : Rw := (128, [J 4294967296, J 4316388711], D2 4273652192 0)
theorem c207 : MO r207 := kn1 none_known (by kernel_rfl)
def r208 : Rw := (127, [J 4294967296, J 4316388713], D2 4273652189 0)
theorem c208 : MO r208 := kn1 none_known (by kernel_rfl)
def r209 : Rw := (128, [J 4294967296, J 4316388713], D2 4273652190 0)
theorem c209 : MO r209 := kn1 none_known (by kernel_rfl)
end Go.Proofs.YtooloakdmdbnaaaGreatDoor
