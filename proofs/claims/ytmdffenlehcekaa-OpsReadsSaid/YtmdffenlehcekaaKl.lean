/- For every code and every place, the law OpsReads of the operations' chapter answers true and its input reads as before; no condition. -/
import Derived.Test.YtmdffenlehcekaaKc2
set_option linter.unusedVariables false
set_option linter.unusedSimpArgs false
namespace Go.Proofs.Ytmdffenlehcekaa.opsReads
open Go Go.Am
theorem law : Law := fun S h cv code at_ hc hat => OpsReads_ok works12 hc hat
theorem proved : Rows.OpsReadsSaid := over law
end Go.Proofs.Ytmdffenlehcekaa.opsReads
