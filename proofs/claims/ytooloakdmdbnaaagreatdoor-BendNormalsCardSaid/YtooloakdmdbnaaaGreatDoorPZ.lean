/- What is proved: BendNormals returns true, whatever the input (part 26 of 30). No conditions beyond those of the row. -/
import Derived.Test.YtooloakdmdbnaaaGreatDoorPU
set_option linter.unusedVariables false
set_option linter.unusedSimpArgs false
set_option linter.unusedSectionVars false
namespace Go.Proofs.YtooloakdmdbnaaaGreatDoor
open Go Go.Eng
def r351 : Rw := (61, [Q 4294967296 4294967296, J (-99504), J 1000000], O (-427366426) (-427366425) 0)
theorem c351 : MO r351 := kn1 table1_ok (by kernel_rfl)
def r352 : Rw := (61, [Q 4294967296 4294967296, J 995037, J 1000000], O 4273651373 4273651374 0)
theorem c352 : MO r352 := kn1 table1_ok (by kernel_rfl)
end Go.Proofs.YtooloakdmdbnaaaGreatDoor
