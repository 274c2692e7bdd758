/- The environment of calls is sound. -/
import Derived.Test.YtmdffenlehcekaaKe
namespace Go.Proofs.Ytmdffenlehcekaa
open Go Go.Am
theorem env_mixed : Try.prog.follows .mixedOrders = true := by kernel_rfl
theorem env_fn : (fnsL.map fun p => Try.prog.funcs[p.1]?) = fnsL.map fun p => some p.2 := by kernel_rfl
theorem env_good : fnsL.all (fun p => fnGoodB Try.prog p.2) = true := by kernel_rfl
theorem env_ok {w0 : World} {prot : Nat → Prop} : EnvOk E w0 prot :=
  envOk_of env_mixed rfl env_fn env_good (fun g F h => by simp [E, extL, lookupL] at h) (fun g F h => by simp [E, extL, lookupL] at h)
end Go.Proofs.Ytmdffenlehcekaa
