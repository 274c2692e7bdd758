/- Printed by a program of this repo (wip/tool/gen2.py): what the functions come to. -/
import Derived.Test.YtmdffenlehcekaaKn
set_option linter.unusedVariables false
set_option linter.unusedSimpArgs false
set_option maxRecDepth 100000
namespace Go.Proofs.Ytmdffenlehcekaa
open Go Go.Am
theorem agg_T_int64 : aggT Try.prog T_int64 = some false := by kernel_rfl
theorem siz_T_int64 : sizeT Try.prog T_int64 = some 1 := by kernel_rfl
theorem agg_T_int : aggT Try.prog T_int = some false := by kernel_rfl
theorem siz_T_int : sizeT Try.prog T_int = some 1 := by kernel_rfl
theorem zer_T_int : zeroT Try.prog T_int = some (Value.int IntKind.i64 0) := by kernel_rfl
theorem inf_T_int : (Try.prog.info? T_int).map (fun i => (i.size, i.bytes)) = some (1, 8) := by kernel_rfl
theorem agg_T_bool : aggT Try.prog T_bool = some false := by kernel_rfl
theorem agg_T_uint8 : aggT Try.prog T_uint8 = some false := by kernel_rfl
theorem siz_T_uint8 : sizeT Try.prog T_uint8 = some 1 := by kernel_rfl
theorem zer_T_uint8 : zeroT Try.prog T_uint8 = some (Value.int IntKind.u8 0) := by kernel_rfl
theorem inf_T_uint8 : (Try.prog.info? T_uint8).map (fun i => (i.size, i.bytes)) = some (1, 1) := by kernel_rfl
theorem agg_T_string : aggT Try.prog T_string = some false := by kernel_rfl
theorem agg_T_Suint8 : aggT Try.prog T_Suint8 = some false := by kernel_rfl
theorem nin_T_Suint8 : notIntT Try.prog T_Suint8 = true := by kernel_rfl
theorem slc_T_Suint8 : sliceT Try.prog T_Suint8 = some T_uint8 := by kernel_rfl
theorem agg_T_Sapi_Arm : aggT Try.prog T_Sapi_Arm = some false := by kernel_rfl
theorem siz_T_Sapi_Arm : sizeT Try.prog T_Sapi_Arm = some 1 := by kernel_rfl
theorem nin_T_Sapi_Arm : notIntT Try.prog T_Sapi_Arm = true := by kernel_rfl
theorem slc_T_Sapi_Arm : sliceT Try.prog T_Sapi_Arm = some T_api_Arm := by kernel_rfl
theorem agg_T_api_Instr : aggT Try.prog T_api_Instr = some true := by kernel_rfl
theorem siz_T_api_Instr : sizeT Try.prog T_api_Instr = some 4 := by kernel_rfl
theorem zer_T_api_Instr : zeroT Try.prog T_api_Instr = some (Value.agg ⟨[Value.int IntKind.u8 0, Value.int IntKind.i64 0, Value.int IntKind.i64 0, Value.slice none 0 0]⟩) := by kernel_rfl
theorem inf_T_api_Instr : (Try.prog.info? T_api_Instr).map (fun i => (i.size, i.bytes)) = some (4, 48) := by kernel_rfl
theorem agg_T_api_Errno : aggT Try.prog T_api_Errno = some false := by kernel_rfl
theorem siz_T_api_Errno : sizeT Try.prog T_api_Errno = some 1 := by kernel_rfl
theorem nin_T_Sapi_Instr : notIntT Try.prog T_Sapi_Instr = true := by kernel_rfl
theorem slc_T_Sapi_Instr : sliceT Try.prog T_Sapi_Instr = some T_api_Instr := by kernel_rfl
theorem nin_T_Sint : notIntT Try.prog T_Sint = true := by kernel_rfl
theorem slc_T_Sint : sliceT Try.prog T_Sint = some T_int := by kernel_rfl
theorem agg_T_api_Arm : aggT Try.prog T_api_Arm = some true := by kernel_rfl
theorem siz_T_api_Arm : sizeT Try.prog T_api_Arm = some 2 := by kernel_rfl
theorem zer_T_api_Arm : zeroT Try.prog T_api_Arm = some (Value.agg ⟨[Value.int IntKind.i64 0, Value.int IntKind.i64 0]⟩) := by kernel_rfl
theorem inf_T_api_Arm : (Try.prog.info? T_api_Arm).map (fun i => (i.size, i.bytes)) = some (2, 16) := by kernel_rfl
theorem slc_T_Strammelref12_part : sliceT Try.prog T_Strammelref12_part = some T_trammelref12_part := by kernel_rfl
theorem agg_T_trammelref12_part : aggT Try.prog T_trammelref12_part = some true := by kernel_rfl
theorem siz_T_trammelref12_part : sizeT Try.prog T_trammelref12_part = some 4 := by kernel_rfl
theorem slc_T_Sops_field : sliceT Try.prog T_Sops_field = some T_ops_field := by kernel_rfl
theorem agg_T_ops_field : aggT Try.prog T_ops_field = some true := by kernel_rfl
theorem siz_T_ops_field : sizeT Try.prog T_ops_field = some 2 := by kernel_rfl
theorem zer_T_ops_field : zeroT Try.prog T_ops_field = some (Value.agg ⟨[Value.int IntKind.i64 0, Value.nilFunc]⟩) := by kernel_rfl
theorem str_T_ops_field : structT Try.prog T_ops_field = some #[{ name := "size", type := 3, offset := 0, embedded := false, tag := "", pkgPath := "trammel/ops", byteOffset := 0 }, { name := "may", type := 102, offset := 1, embedded := false, tag := "", pkgPath := "trammel/ops", byteOffset := 8 }] := by kernel_rfl
theorem un_T_int64 : Try.prog.underlying T_int64 = some (Go.TypeDesc.int Go.IntKind.i64) := by kernel_rfl
theorem un_T_int : Try.prog.underlying T_int = some (Go.TypeDesc.int Go.IntKind.i64) := by kernel_rfl
theorem un_T_bool : Try.prog.underlying T_bool = some Go.TypeDesc.bool := by kernel_rfl
theorem un_T_uint8 : Try.prog.underlying T_uint8 = some (Go.TypeDesc.int Go.IntKind.u8) := by kernel_rfl
theorem un_T_Suint8 : Try.prog.underlying T_Suint8 = some (Go.TypeDesc.slice 5) := by kernel_rfl
theorem al_T_api_Instr : mkAlloc Try.prog T_api_Instr = some (newBlk T_api_Instr [Value.int IntKind.u8 0, Value.int IntKind.i64 0, Value.int IntKind.i64 0, Value.slice none 0 0], ptrTo) := by kernel_rfl
theorem fa_T_api_Instr_0 {b n : Nat} : aFieldAddr Try.prog T_api_Instr (.pointer (some ⟨b, n, none⟩)) 0 = some (.pointer (some ⟨b, n + 0, none⟩)) := by kernel_rfl
theorem fa_T_api_Instr_1 {b n : Nat} : aFieldAddr Try.prog T_api_Instr (.pointer (some ⟨b, n, none⟩)) 1 = some (.pointer (some ⟨b, n + 1, none⟩)) := by kernel_rfl
theorem fa_T_api_Instr_2 {b n : Nat} : aFieldAddr Try.prog T_api_Instr (.pointer (some ⟨b, n, none⟩)) 2 = some (.pointer (some ⟨b, n + 2, none⟩)) := by kernel_rfl
theorem fa_T_api_Instr_3 {b n : Nat} : aFieldAddr Try.prog T_api_Instr (.pointer (some ⟨b, n, none⟩)) 3 = some (.pointer (some ⟨b, n + 3, none⟩)) := by kernel_rfl
theorem un_T_api_Arm : Try.prog.underlying T_api_Arm = some (Go.TypeDesc.struct #[{ name := "Value", type := 2, offset := 0, embedded := false, tag := "", pkgPath := "", byteOffset := 0 }, { name := "To", type := 3, offset := 1, embedded := false, tag := "", pkgPath := "", byteOffset := 8 }]) := by kernel_rfl
theorem fa_T_trammelref12_reader_0 {b n : Nat} : aFieldAddr Try.prog T_trammelref12_reader (.pointer (some ⟨b, n, none⟩)) 0 = some (.pointer (some ⟨b, n + 0, none⟩)) := by kernel_rfl
theorem fa_T_trammelref12_reader_1 {b n : Nat} : aFieldAddr Try.prog T_trammelref12_reader (.pointer (some ⟨b, n, none⟩)) 1 = some (.pointer (some ⟨b, n + 1, none⟩)) := by kernel_rfl
theorem fa_T_trammelref12_reader_2 {b n : Nat} : aFieldAddr Try.prog T_trammelref12_reader (.pointer (some ⟨b, n, none⟩)) 2 = some (.pointer (some ⟨b, n + 2, none⟩)) := by kernel_rfl
theorem al_T_trammelref12_part : mkAlloc Try.prog T_trammelref12_part = some (newBlk T_trammelref12_part [Value.int IntKind.i64 0, Value.int IntKind.i64 0, Value.int IntKind.i64 0, Value.bool false], ptrTo) := by kernel_rfl
theorem fa_T_trammelref12_part_0 {b n : Nat} : aFieldAddr Try.prog T_trammelref12_part (.pointer (some ⟨b, n, none⟩)) 0 = some (.pointer (some ⟨b, n + 0, none⟩)) := by kernel_rfl
theorem fa_T_trammelref12_part_1 {b n : Nat} : aFieldAddr Try.prog T_trammelref12_part (.pointer (some ⟨b, n, none⟩)) 1 = some (.pointer (some ⟨b, n + 1, none⟩)) := by kernel_rfl
theorem fa_T_trammelref12_part_2 {b n : Nat} : aFieldAddr Try.prog T_trammelref12_part (.pointer (some ⟨b, n, none⟩)) 2 = some (.pointer (some ⟨b, n + 2, none⟩)) := by kernel_rfl
theorem fa_T_trammelref12_part_3 {b n : Nat} : aFieldAddr Try.prog T_trammelref12_part (.pointer (some ⟨b, n, none⟩)) 3 = some (.pointer (some ⟨b, n + 3, none⟩)) := by kernel_rfl
theorem fa_T_ops_reader_0 {b n : Nat} : aFieldAddr Try.prog T_ops_reader (.pointer (some ⟨b, n, none⟩)) 0 = some (.pointer (some ⟨b, n + 0, none⟩)) := by kernel_rfl
theorem fa_T_ops_reader_1 {b n : Nat} : aFieldAddr Try.prog T_ops_reader (.pointer (some ⟨b, n, none⟩)) 1 = some (.pointer (some ⟨b, n + 1, none⟩)) := by kernel_rfl
theorem fa_T_ops_reader_2 {b n : Nat} : aFieldAddr Try.prog T_ops_reader (.pointer (some ⟨b, n, none⟩)) 2 = some (.pointer (some ⟨b, n + 2, none⟩)) := by kernel_rfl
theorem al_T_ops_field : mkAlloc Try.prog T_ops_field = some (newBlk T_ops_field [Value.int IntKind.i64 0, Value.nilFunc], ptrTo) := by kernel_rfl
theorem fa_T_ops_field_0 {b n : Nat} : aFieldAddr Try.prog T_ops_field (.pointer (some ⟨b, n, none⟩)) 0 = some (.pointer (some ⟨b, n + 0, none⟩)) := by kernel_rfl
theorem fa_T_ops_field_1 {b n : Nat} : aFieldAddr Try.prog T_ops_field (.pointer (some ⟨b, n, none⟩)) 1 = some (.pointer (some ⟨b, n + 1, none⟩)) := by kernel_rfl
theorem cv_T_int64_T_uint8 {k : IntKind} {n : Int} : aConv Try.prog T_int64 T_uint8 (.int k n) = some (.int .u8 (IntKind.wrap .u8 n)) := conv_int Try.underlying2 Try.underlying5
theorem cv_T_int64_T_int32 {k : IntKind} {n : Int} : aConv Try.prog T_int64 T_int32 (.int k n) = some (.int .i32 (IntKind.wrap .i32 n)) := conv_int Try.underlying2 Try.underlying21
theorem cv_T_int64_T_uint64 {k : IntKind} {n : Int} : aConv Try.prog T_int64 T_uint64 (.int k n) = some (.int .u64 (IntKind.wrap .u64 n)) := conv_int Try.underlying2 Try.underlying129
theorem cv_T_int64_T_int8 {k : IntKind} {n : Int} : aConv Try.prog T_int64 T_int8 (.int k n) = some (.int .i8 (IntKind.wrap .i8 n)) := conv_int Try.underlying2 Try.underlying214
theorem cv_T_uint8_T_int {k : IntKind} {n : Int} : aConv Try.prog T_uint8 T_int (.int k n) = some (.int .i64 (IntKind.wrap .i64 n)) := conv_int Try.underlying5 Try.underlying3
theorem cv_T_uint8_T_uint64 {k : IntKind} {n : Int} : aConv Try.prog T_uint8 T_uint64 (.int k n) = some (.int .u64 (IntKind.wrap .u64 n)) := conv_int Try.underlying5 Try.underlying129
theorem cv_T_int32_T_int64 {k : IntKind} {n : Int} : aConv Try.prog T_int32 T_int64 (.int k n) = some (.int .i64 (IntKind.wrap .i64 n)) := conv_int Try.underlying21 Try.underlying2
theorem cv_T_uint64_T_int64 {k : IntKind} {n : Int} : aConv Try.prog T_uint64 T_int64 (.int k n) = some (.int .i64 (IntKind.wrap .i64 n)) := conv_int Try.underlying129 Try.underlying2
theorem cv_T_uint64_T_uint8 {k : IntKind} {n : Int} : aConv Try.prog T_uint64 T_uint8 (.int k n) = some (.int .u8 (IntKind.wrap .u8 n)) := conv_int Try.underlying129 Try.underlying5
theorem cv_T_int8_T_int64 {k : IntKind} {n : Int} : aConv Try.prog T_int8 T_int64 (.int k n) = some (.int .i64 (IntKind.wrap .i64 n)) := conv_int Try.underlying214 Try.underlying2
theorem strT : Try.prog.underlying T_string = some .string := Try.underlying9
end Go.Proofs.Ytmdffenlehcekaa
