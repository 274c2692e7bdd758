/- The environment of calls. -/
import Derived.Test.YtmdffenlehcekaaKn
namespace Go.Proofs.Ytmdffenlehcekaa
open Go Go.Am
def extL : List (Nat × (List Value → Heap → R)) := []
noncomputable def E : Env := { P := Try.prog, fn := fun g => lookupL g fnsL, ext := fun g => lookupL g extL, keep := fun g => (lookupL g keepsL).getD fun _ => none }
end Go.Proofs.Ytmdffenlehcekaa
