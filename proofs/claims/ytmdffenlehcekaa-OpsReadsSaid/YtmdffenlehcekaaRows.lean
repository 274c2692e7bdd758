/-
  No cell of these rows narrows 'for every input' (looked for: loops, veiled, ifaces, maps, wideKeys, modest, calm, conditions, laid).
  DERIVED. THE GIVEN ROWS OF THIS SEAT. 13 by the template 'for every input the law returns true; each argument reads behind the call as it read before'; 0 by the template 'total and deterministic' (their statements: YtmdffenlehcekaaTotals.lean).
  GIVEN WITH THE SEED: the statements are not yours to turn. If you find one false, say at which input.
  Laid BY PROGRAM, IN A SANDBOX (cutbox-rows.mjs): the forced cells as the released guide's own fill.sh prints them over the translation 6ef9fcafe196fa29… (all of the seat's roots in one cut). By AI agents, Wed Nov 11 2026. No macro, syntax, notation, axiom, sorry.
-/
import Derived.Test.YtmdffenlehcekaaChecked
import GoSem.Claim
import GoSem.ClaimJoined
import GoSem.ClaimMapViews
import Derived.JoinedTies
import Derived.KernelRfl
namespace Go.Proofs.Ytmdffenlehcekaa
/- THE CELL 'sum', in the pinned program and in every row, IS THE sha256 OF THE DUMP (.gsa) THAT YtmdffenlehcekaaProg.lean LOADS. Nothing in Lean hashes anything: it is a label: what it is worth is what the hold of that sum in a sandbox is worth. -/
noncomputable def Try.pinned : Pinned := { name := "ytmdffenlehcekaa", sum := "6ef9fcafe196fa29d44aa060384d2186ebfb340cc1cb68ba82b4f52de8f02835", checked := Try.checked }
namespace Rows
def none {H : Type} : Left H := { results := [], args := [] }

/-- 'trammellaw12.OpsReads': WHATEVER THE INPUT: true; the input reads as it did. -/
def opsReadsSpec : ChangeSpec := { name := "opsReads", fn := fun _ => fun
  | [d1, d2] => { results := [.lit (.bool true)], args := [d1, d2] }
  | _ => none }
def opsReadsRow : OpenClaim := { program := "ytmdffenlehcekaa", sum := "6ef9fcafe196fa29d44aa060384d2186ebfb340cc1cb68ba82b4f52de8f02835", func := "trammel/trammellaw12.OpsReads", spec := "opsReads", unfollowed := true, recurses := true, apart := false }
def OpsReadsSaid : Prop := opsReadsRow.holds Try.pinned (OpenSpec.ofChange opsReadsSpec)

/-- ITS FALSE NEIGHBOUR: 'it returns false'. Refute it at one input. -/
def opsReadsWrong : ChangeSpec := { name := "opsReads", fn := fun _ => fun
  | [d1, d2] => { results := [.lit (.bool false)], args := [d1, d2] }
  | _ => none }
def OpsReadsWrongFalsely : Prop := opsReadsRow.holds Try.pinned (OpenSpec.ofChange opsReadsWrong)

/-- 'trammellaw12.OpsTakes': WHATEVER THE INPUT: true; the input reads as it did. -/
def opsTakesSpec : ChangeSpec := { name := "opsTakes", fn := fun _ => fun
  | [d1, d2] => { results := [.lit (.bool true)], args := [d1, d2] }
  | _ => none }
def opsTakesRow : OpenClaim := { program := "ytmdffenlehcekaa", sum := "6ef9fcafe196fa29d44aa060384d2186ebfb340cc1cb68ba82b4f52de8f02835", func := "trammel/trammellaw12.OpsTakes", spec := "opsTakes", unfollowed := true, recurses := true, apart := false }
def OpsTakesSaid : Prop := opsTakesRow.holds Try.pinned (OpenSpec.ofChange opsTakesSpec)

/-- ITS FALSE NEIGHBOUR: 'it returns false'. Refute it at one input. -/
def opsTakesWrong : ChangeSpec := { name := "opsTakes", fn := fun _ => fun
  | [d1, d2] => { results := [.lit (.bool false)], args := [d1, d2] }
  | _ => none }
def OpsTakesWrongFalsely : Prop := opsTakesRow.holds Try.pinned (OpenSpec.ofChange opsTakesWrong)

/-- 'trammellaw12.OpsKnown': WHATEVER THE INPUT: true; the input reads as it did. -/
def opsKnownSpec : ChangeSpec := { name := "opsKnown", fn := fun _ => fun
  | [] => { results := [.lit (.bool true)], args := [] }
  | _ => none }
def opsKnownRow : OpenClaim := { program := "ytmdffenlehcekaa", sum := "6ef9fcafe196fa29d44aa060384d2186ebfb340cc1cb68ba82b4f52de8f02835", func := "trammel/trammellaw12.OpsKnown", spec := "opsKnown", unfollowed := true, recurses := true, apart := false }
def OpsKnownSaid : Prop := opsKnownRow.holds Try.pinned (OpenSpec.ofChange opsKnownSpec)

/-- ITS FALSE NEIGHBOUR: 'it returns false'. Refute it at one input. -/
def opsKnownWrong : ChangeSpec := { name := "opsKnown", fn := fun _ => fun
  | [] => { results := [.lit (.bool false)], args := [] }
  | _ => none }
def OpsKnownWrongFalsely : Prop := opsKnownRow.holds Try.pinned (OpenSpec.ofChange opsKnownWrong)

/-- 'trammellaw13.ImageUnlike': WHATEVER THE INPUT: true; the input reads as it did. -/
def imageUnlikeSpec : ChangeSpec := { name := "imageUnlike", fn := fun _ => fun
  | [d1, d2] => { results := [.lit (.bool true)], args := [d1, d2] }
  | _ => none }
def imageUnlikeRow : OpenClaim := { program := "ytmdffenlehcekaa", sum := "6ef9fcafe196fa29d44aa060384d2186ebfb340cc1cb68ba82b4f52de8f02835", func := "trammel/trammellaw13.ImageUnlike", spec := "imageUnlike", unfollowed := true, recurses := true, apart := false }
def ImageUnlikeSaid : Prop := imageUnlikeRow.holds Try.pinned (OpenSpec.ofChange imageUnlikeSpec)

/-- ITS FALSE NEIGHBOUR: 'it returns false'. Refute it at one input. -/
def imageUnlikeWrong : ChangeSpec := { name := "imageUnlike", fn := fun _ => fun
  | [d1, d2] => { results := [.lit (.bool false)], args := [d1, d2] }
  | _ => none }
def ImageUnlikeWrongFalsely : Prop := imageUnlikeRow.holds Try.pinned (OpenSpec.ofChange imageUnlikeWrong)

/-- 'trammellaw13.ImageSame': WHATEVER THE INPUT: true; the input reads as it did. -/
def imageSameSpec : ChangeSpec := { name := "imageSame", fn := fun _ => fun
  | [d1, d2] => { results := [.lit (.bool true)], args := [d1, d2] }
  | _ => none }
def imageSameRow : OpenClaim := { program := "ytmdffenlehcekaa", sum := "6ef9fcafe196fa29d44aa060384d2186ebfb340cc1cb68ba82b4f52de8f02835", func := "trammel/trammellaw13.ImageSame", spec := "imageSame", unfollowed := true, recurses := true, apart := false }
def ImageSameSaid : Prop := imageSameRow.holds Try.pinned (OpenSpec.ofChange imageSameSpec)

/-- ITS FALSE NEIGHBOUR: 'it returns false'. Refute it at one input. -/
def imageSameWrong : ChangeSpec := { name := "imageSame", fn := fun _ => fun
  | [d1, d2] => { results := [.lit (.bool false)], args := [d1, d2] }
  | _ => none }
def ImageSameWrongFalsely : Prop := imageSameRow.holds Try.pinned (OpenSpec.ofChange imageSameWrong)

/-- 'trammellaw13.ImageOnce': WHATEVER THE INPUT: true; the input reads as it did. -/
def imageOnceSpec : ChangeSpec := { name := "imageOnce", fn := fun _ => fun
  | [d] => { results := [.lit (.bool true)], args := [d] }
  | _ => none }
def imageOnceRow : OpenClaim := { program := "ytmdffenlehcekaa", sum := "6ef9fcafe196fa29d44aa060384d2186ebfb340cc1cb68ba82b4f52de8f02835", func := "trammel/trammellaw13.ImageOnce", spec := "imageOnce", unfollowed := true, recurses := true, apart := false }
def ImageOnceSaid : Prop := imageOnceRow.holds Try.pinned (OpenSpec.ofChange imageOnceSpec)

/-- ITS FALSE NEIGHBOUR: 'it returns false'. Refute it at one input. -/
def imageOnceWrong : ChangeSpec := { name := "imageOnce", fn := fun _ => fun
  | [d] => { results := [.lit (.bool false)], args := [d] }
  | _ => none }
def ImageOnceWrongFalsely : Prop := imageOnceRow.holds Try.pinned (OpenSpec.ofChange imageOnceWrong)

/-- 'trammellaw13.ImageSpoilt': WHATEVER THE INPUT: true; the input reads as it did. -/
def imageSpoiltSpec : ChangeSpec := { name := "imageSpoilt", fn := fun _ => fun
  | [d1, d2, d3] => { results := [.lit (.bool true)], args := [d1, d2, d3] }
  | _ => none }
def imageSpoiltRow : OpenClaim := { program := "ytmdffenlehcekaa", sum := "6ef9fcafe196fa29d44aa060384d2186ebfb340cc1cb68ba82b4f52de8f02835", func := "trammel/trammellaw13.ImageSpoilt", spec := "imageSpoilt", unfollowed := true, recurses := true, apart := false }
def ImageSpoiltSaid : Prop := imageSpoiltRow.holds Try.pinned (OpenSpec.ofChange imageSpoiltSpec)

/-- ITS FALSE NEIGHBOUR: 'it returns false'. Refute it at one input. -/
def imageSpoiltWrong : ChangeSpec := { name := "imageSpoilt", fn := fun _ => fun
  | [d1, d2, d3] => { results := [.lit (.bool false)], args := [d1, d2, d3] }
  | _ => none }
def ImageSpoiltWrongFalsely : Prop := imageSpoiltRow.holds Try.pinned (OpenSpec.ofChange imageSpoiltWrong)

/-- 'trammellaw19.BlocksCuts': WHATEVER THE INPUT: true; the input reads as it did. -/
def blocksCutsSpec : ChangeSpec := { name := "blocksCuts", fn := fun _ => fun
  | [d] => { results := [.lit (.bool true)], args := [d] }
  | _ => none }
def blocksCutsRow : OpenClaim := { program := "ytmdffenlehcekaa", sum := "6ef9fcafe196fa29d44aa060384d2186ebfb340cc1cb68ba82b4f52de8f02835", func := "trammel/trammellaw19.BlocksCuts", spec := "blocksCuts", unfollowed := true, recurses := true, apart := false }
def BlocksCutsSaid : Prop := blocksCutsRow.holds Try.pinned (OpenSpec.ofChange blocksCutsSpec)

/-- ITS FALSE NEIGHBOUR: 'it returns false'. Refute it at one input. -/
def blocksCutsWrong : ChangeSpec := { name := "blocksCuts", fn := fun _ => fun
  | [d] => { results := [.lit (.bool false)], args := [d] }
  | _ => none }
def BlocksCutsWrongFalsely : Prop := blocksCutsRow.holds Try.pinned (OpenSpec.ofChange blocksCutsWrong)

/-- 'trammellaw19.BlocksReaches': WHATEVER THE INPUT: true; the input reads as it did. -/
def blocksReachesSpec : ChangeSpec := { name := "blocksReaches", fn := fun _ => fun
  | [d] => { results := [.lit (.bool true)], args := [d] }
  | _ => none }
def blocksReachesRow : OpenClaim := { program := "ytmdffenlehcekaa", sum := "6ef9fcafe196fa29d44aa060384d2186ebfb340cc1cb68ba82b4f52de8f02835", func := "trammel/trammellaw19.BlocksReaches", spec := "blocksReaches", unfollowed := true, recurses := true, apart := false }
def BlocksReachesSaid : Prop := blocksReachesRow.holds Try.pinned (OpenSpec.ofChange blocksReachesSpec)

/-- ITS FALSE NEIGHBOUR: 'it returns false'. Refute it at one input. -/
def blocksReachesWrong : ChangeSpec := { name := "blocksReaches", fn := fun _ => fun
  | [d] => { results := [.lit (.bool false)], args := [d] }
  | _ => none }
def BlocksReachesWrongFalsely : Prop := blocksReachesRow.holds Try.pinned (OpenSpec.ofChange blocksReachesWrong)

/-- 'trammellaw19.BlocksTile': WHATEVER THE INPUT: true; the input reads as it did. -/
def blocksTileSpec : ChangeSpec := { name := "blocksTile", fn := fun _ => fun
  | [d] => { results := [.lit (.bool true)], args := [d] }
  | _ => none }
def blocksTileRow : OpenClaim := { program := "ytmdffenlehcekaa", sum := "6ef9fcafe196fa29d44aa060384d2186ebfb340cc1cb68ba82b4f52de8f02835", func := "trammel/trammellaw19.BlocksTile", spec := "blocksTile", unfollowed := true, recurses := true, apart := false }
def BlocksTileSaid : Prop := blocksTileRow.holds Try.pinned (OpenSpec.ofChange blocksTileSpec)

/-- ITS FALSE NEIGHBOUR: 'it returns false'. Refute it at one input. -/
def blocksTileWrong : ChangeSpec := { name := "blocksTile", fn := fun _ => fun
  | [d] => { results := [.lit (.bool false)], args := [d] }
  | _ => none }
def BlocksTileWrongFalsely : Prop := blocksTileRow.holds Try.pinned (OpenSpec.ofChange blocksTileWrong)

/-- 'trammellaw19.BlocksJoin': WHATEVER THE INPUT: true; the input reads as it did. -/
def blocksJoinSpec : ChangeSpec := { name := "blocksJoin", fn := fun _ => fun
  | [d1, d2] => { results := [.lit (.bool true)], args := [d1, d2] }
  | _ => none }
def blocksJoinRow : OpenClaim := { program := "ytmdffenlehcekaa", sum := "6ef9fcafe196fa29d44aa060384d2186ebfb340cc1cb68ba82b4f52de8f02835", func := "trammel/trammellaw19.BlocksJoin", spec := "blocksJoin", unfollowed := true, recurses := true, apart := false }
def BlocksJoinSaid : Prop := blocksJoinRow.holds Try.pinned (OpenSpec.ofChange blocksJoinSpec)

/-- ITS FALSE NEIGHBOUR: 'it returns false'. Refute it at one input. -/
def blocksJoinWrong : ChangeSpec := { name := "blocksJoin", fn := fun _ => fun
  | [d1, d2] => { results := [.lit (.bool false)], args := [d1, d2] }
  | _ => none }
def BlocksJoinWrongFalsely : Prop := blocksJoinRow.holds Try.pinned (OpenSpec.ofChange blocksJoinWrong)

/-- 'trammellaw19.BlocksLeast': WHATEVER THE INPUT: true; the input reads as it did. -/
def blocksLeastSpec : ChangeSpec := { name := "blocksLeast", fn := fun _ => fun
  | [d] => { results := [.lit (.bool true)], args := [d] }
  | _ => none }
def blocksLeastRow : OpenClaim := { program := "ytmdffenlehcekaa", sum := "6ef9fcafe196fa29d44aa060384d2186ebfb340cc1cb68ba82b4f52de8f02835", func := "trammel/trammellaw19.BlocksLeast", spec := "blocksLeast", unfollowed := true, recurses := true, apart := false }
def BlocksLeastSaid : Prop := blocksLeastRow.holds Try.pinned (OpenSpec.ofChange blocksLeastSpec)

/-- ITS FALSE NEIGHBOUR: 'it returns false'. Refute it at one input. -/
def blocksLeastWrong : ChangeSpec := { name := "blocksLeast", fn := fun _ => fun
  | [d] => { results := [.lit (.bool false)], args := [d] }
  | _ => none }
def BlocksLeastWrongFalsely : Prop := blocksLeastRow.holds Try.pinned (OpenSpec.ofChange blocksLeastWrong)

/-- 'trammellaw19.BlocksKnown': WHATEVER THE INPUT: true; the input reads as it did. -/
def blocksKnownSpec : ChangeSpec := { name := "blocksKnown", fn := fun _ => fun
  | [] => { results := [.lit (.bool true)], args := [] }
  | _ => none }
def blocksKnownRow : OpenClaim := { program := "ytmdffenlehcekaa", sum := "6ef9fcafe196fa29d44aa060384d2186ebfb340cc1cb68ba82b4f52de8f02835", func := "trammel/trammellaw19.BlocksKnown", spec := "blocksKnown", unfollowed := true, recurses := true, apart := false }
def BlocksKnownSaid : Prop := blocksKnownRow.holds Try.pinned (OpenSpec.ofChange blocksKnownSpec)

/-- ITS FALSE NEIGHBOUR: 'it returns false'. Refute it at one input. -/
def blocksKnownWrong : ChangeSpec := { name := "blocksKnown", fn := fun _ => fun
  | [] => { results := [.lit (.bool false)], args := [] }
  | _ => none }
def BlocksKnownWrongFalsely : Prop := blocksKnownRow.holds Try.pinned (OpenSpec.ofChange blocksKnownWrong)

/- THE SECOND FORM. 'bulk': how many values and letters a reading holds, each counted each time it is reached (what is shared counts as often as it is met; a slice's spare places count too). A statement '..UptoSaid' is the law's where the arguments, and the package variables that the reading takes, are together of bulk at most 1048576: NARROWER than '..Said'. Prove '..Said' where nothing that the law and all that it calls make is longer than what came in: it says more and counts as full. Else prove '..UptoSaid'. A law counts once. -/
mutual
def uptoBulk {H : Type} : DataW H → Nat
  | .lit (.string bytes) => bytes.length + 1
  | .lit _ => 1
  | .nil => 1
  | .ptr d => uptoBulk d + 1
  | .slice elems spare => uptoBulkAll elems + uptoBulkAll spare + 1
  | .agg parts => uptoBulkAll parts + 1
  | .iface _ d => uptoBulk d + 1
  | .map entries => uptoBulkEntries entries + 1
  | .held _ => 1
def uptoBulkAll {H : Type} : List (DataW H) → Nat
  | [] => 0
  | d :: r => uptoBulk d + uptoBulkAll r
def uptoBulkEntries {H : Type} : List (Lit × DataW H) → Nat
  | [] => 0
  | x :: r => uptoBulkEntry x + uptoBulkEntries r
def uptoBulkEntry {H : Type} : Lit × DataW H → Nat
  | (.string bytes, d) => bytes.length + uptoBulk d + 1
  | (_, d) => uptoBulk d + 1
 end
def uptoSmall : (H : Type) → List (DataW H) → Bool := fun _ ds => decide (uptoBulkAll ds ≤ 1048576)
def OpenSpec.upto (s : _root_.Go.ChangeSpec) : _root_.Go.OpenSpec := { _root_.Go.OpenSpec.ofChange s with cond := some uptoSmall }

/-- 'trammellaw12.OpsReads', WHERE WHAT IT READS IS OF BULK AT MOST 1048576: true; the input reads as it did. -/
def opsReadsUptoRow : OpenClaim := { program := "ytmdffenlehcekaa", sum := "6ef9fcafe196fa29d44aa060384d2186ebfb340cc1cb68ba82b4f52de8f02835", func := "trammel/trammellaw12.OpsReads", spec := "opsReads", unfollowed := true, recurses := true, apart := false, narrowed := true }
def OpsReadsUptoSaid : Prop := opsReadsUptoRow.holds Try.pinned (OpenSpec.upto opsReadsSpec)

/-- 'trammellaw12.OpsTakes', WHERE WHAT IT READS IS OF BULK AT MOST 1048576: true; the input reads as it did. -/
def opsTakesUptoRow : OpenClaim := { program := "ytmdffenlehcekaa", sum := "6ef9fcafe196fa29d44aa060384d2186ebfb340cc1cb68ba82b4f52de8f02835", func := "trammel/trammellaw12.OpsTakes", spec := "opsTakes", unfollowed := true, recurses := true, apart := false, narrowed := true }
def OpsTakesUptoSaid : Prop := opsTakesUptoRow.holds Try.pinned (OpenSpec.upto opsTakesSpec)

/-- 'trammellaw12.OpsKnown', WHERE WHAT IT READS IS OF BULK AT MOST 1048576: true; the input reads as it did. -/
def opsKnownUptoRow : OpenClaim := { program := "ytmdffenlehcekaa", sum := "6ef9fcafe196fa29d44aa060384d2186ebfb340cc1cb68ba82b4f52de8f02835", func := "trammel/trammellaw12.OpsKnown", spec := "opsKnown", unfollowed := true, recurses := true, apart := false, narrowed := true }
def OpsKnownUptoSaid : Prop := opsKnownUptoRow.holds Try.pinned (OpenSpec.upto opsKnownSpec)

/-- 'trammellaw13.ImageUnlike', WHERE WHAT IT READS IS OF BULK AT MOST 1048576: true; the input reads as it did. -/
def imageUnlikeUptoRow : OpenClaim := { program := "ytmdffenlehcekaa", sum := "6ef9fcafe196fa29d44aa060384d2186ebfb340cc1cb68ba82b4f52de8f02835", func := "trammel/trammellaw13.ImageUnlike", spec := "imageUnlike", unfollowed := true, recurses := true, apart := false, narrowed := true }
def ImageUnlikeUptoSaid : Prop := imageUnlikeUptoRow.holds Try.pinned (OpenSpec.upto imageUnlikeSpec)

/-- 'trammellaw13.ImageSame', WHERE WHAT IT READS IS OF BULK AT MOST 1048576: true; the input reads as it did. -/
def imageSameUptoRow : OpenClaim := { program := "ytmdffenlehcekaa", sum := "6ef9fcafe196fa29d44aa060384d2186ebfb340cc1cb68ba82b4f52de8f02835", func := "trammel/trammellaw13.ImageSame", spec := "imageSame", unfollowed := true, recurses := true, apart := false, narrowed := true }
def ImageSameUptoSaid : Prop := imageSameUptoRow.holds Try.pinned (OpenSpec.upto imageSameSpec)

/-- 'trammellaw13.ImageOnce', WHERE WHAT IT READS IS OF BULK AT MOST 1048576: true; the input reads as it did. -/
def imageOnceUptoRow : OpenClaim := { program := "ytmdffenlehcekaa", sum := "6ef9fcafe196fa29d44aa060384d2186ebfb340cc1cb68ba82b4f52de8f02835", func := "trammel/trammellaw13.ImageOnce", spec := "imageOnce", unfollowed := true, recurses := true, apart := false, narrowed := true }
def ImageOnceUptoSaid : Prop := imageOnceUptoRow.holds Try.pinned (OpenSpec.upto imageOnceSpec)

/-- 'trammellaw13.ImageSpoilt', WHERE WHAT IT READS IS OF BULK AT MOST 1048576: true; the input reads as it did. -/
def imageSpoiltUptoRow : OpenClaim := { program := "ytmdffenlehcekaa", sum := "6ef9fcafe196fa29d44aa060384d2186ebfb340cc1cb68ba82b4f52de8f02835", func := "trammel/trammellaw13.ImageSpoilt", spec := "imageSpoilt", unfollowed := true, recurses := true, apart := false, narrowed := true }
def ImageSpoiltUptoSaid : Prop := imageSpoiltUptoRow.holds Try.pinned (OpenSpec.upto imageSpoiltSpec)

/-- 'trammellaw19.BlocksCuts', WHERE WHAT IT READS IS OF BULK AT MOST 1048576: true; the input reads as it did. -/
def blocksCutsUptoRow : OpenClaim := { program := "ytmdffenlehcekaa", sum := "6ef9fcafe196fa29d44aa060384d2186ebfb340cc1cb68ba82b4f52de8f02835", func := "trammel/trammellaw19.BlocksCuts", spec := "blocksCuts", unfollowed := true, recurses := true, apart := false, narrowed := true }
def BlocksCutsUptoSaid : Prop := blocksCutsUptoRow.holds Try.pinned (OpenSpec.upto blocksCutsSpec)

/-- 'trammellaw19.BlocksReaches', WHERE WHAT IT READS IS OF BULK AT MOST 1048576: true; the input reads as it did. -/
def blocksReachesUptoRow : OpenClaim := { program := "ytmdffenlehcekaa", sum := "6ef9fcafe196fa29d44aa060384d2186ebfb340cc1cb68ba82b4f52de8f02835", func := "trammel/trammellaw19.BlocksReaches", spec := "blocksReaches", unfollowed := true, recurses := true, apart := false, narrowed := true }
def BlocksReachesUptoSaid : Prop := blocksReachesUptoRow.holds Try.pinned (OpenSpec.upto blocksReachesSpec)

/-- 'trammellaw19.BlocksTile', WHERE WHAT IT READS IS OF BULK AT MOST 1048576: true; the input reads as it did. -/
def blocksTileUptoRow : OpenClaim := { program := "ytmdffenlehcekaa", sum := "6ef9fcafe196fa29d44aa060384d2186ebfb340cc1cb68ba82b4f52de8f02835", func := "trammel/trammellaw19.BlocksTile", spec := "blocksTile", unfollowed := true, recurses := true, apart := false, narrowed := true }
def BlocksTileUptoSaid : Prop := blocksTileUptoRow.holds Try.pinned (OpenSpec.upto blocksTileSpec)

/-- 'trammellaw19.BlocksJoin', WHERE WHAT IT READS IS OF BULK AT MOST 1048576: true; the input reads as it did. -/
def blocksJoinUptoRow : OpenClaim := { program := "ytmdffenlehcekaa", sum := "6ef9fcafe196fa29d44aa060384d2186ebfb340cc1cb68ba82b4f52de8f02835", func := "trammel/trammellaw19.BlocksJoin", spec := "blocksJoin", unfollowed := true, recurses := true, apart := false, narrowed := true }
def BlocksJoinUptoSaid : Prop := blocksJoinUptoRow.holds Try.pinned (OpenSpec.upto blocksJoinSpec)

/-- 'trammellaw19.BlocksLeast', WHERE WHAT IT READS IS OF BULK AT MOST 1048576: true; the input reads as it did. -/
def blocksLeastUptoRow : OpenClaim := { program := "ytmdffenlehcekaa", sum := "6ef9fcafe196fa29d44aa060384d2186ebfb340cc1cb68ba82b4f52de8f02835", func := "trammel/trammellaw19.BlocksLeast", spec := "blocksLeast", unfollowed := true, recurses := true, apart := false, narrowed := true }
def BlocksLeastUptoSaid : Prop := blocksLeastUptoRow.holds Try.pinned (OpenSpec.upto blocksLeastSpec)

/-- 'trammellaw19.BlocksKnown', WHERE WHAT IT READS IS OF BULK AT MOST 1048576: true; the input reads as it did. -/
def blocksKnownUptoRow : OpenClaim := { program := "ytmdffenlehcekaa", sum := "6ef9fcafe196fa29d44aa060384d2186ebfb340cc1cb68ba82b4f52de8f02835", func := "trammel/trammellaw19.BlocksKnown", spec := "blocksKnown", unfollowed := true, recurses := true, apart := false, narrowed := true }
def BlocksKnownUptoSaid : Prop := blocksKnownUptoRow.holds Try.pinned (OpenSpec.upto blocksKnownSpec)

end Rows
end Go.Proofs.Ytmdffenlehcekaa
