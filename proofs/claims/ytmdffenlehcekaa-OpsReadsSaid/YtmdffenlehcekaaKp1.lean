/- Printed by a program of this repo: what the functions come to. -/
import Derived.Test.YtmdffenlehcekaaKe
set_option linter.unusedVariables false
set_option linter.unusedSimpArgs false
set_option maxRecDepth 100000
namespace Go.Proofs.Ytmdffenlehcekaa
open Go Go.Am
/-! ### 3 trammel/trammellaw12.OpsReads -/
noncomputable def c_trammellaw12_OpsReads : Code := bodyOf Try.f3
noncomputable def k_trammellaw12_OpsReads : Kt := endK Try.prog Try.f3
noncomputable def c_trammellaw12_OpsReads_b : Code := sB c_trammellaw12_OpsReads
noncomputable def c_trammellaw12_OpsReads_bb : Code := sB c_trammellaw12_OpsReads_b
noncomputable def c_trammellaw12_OpsReads_bbb : Code := sB c_trammellaw12_OpsReads_bb
noncomputable def c_trammellaw12_OpsReads_bbbb : Code := sB c_trammellaw12_OpsReads_bbb
noncomputable def c_trammellaw12_OpsReads_bbbbb : Code := sB c_trammellaw12_OpsReads_bbbb
noncomputable def c_trammellaw12_OpsReads_bbbbbb : Code := sB c_trammellaw12_OpsReads_bbbbb
noncomputable def c_trammellaw12_OpsReads_bbbbbbb : Code := sB c_trammellaw12_OpsReads_bbbbbb
noncomputable def c_trammellaw12_OpsReads_bbbbbbbb : Code := sB c_trammellaw12_OpsReads_bbbbbbb
noncomputable def c_trammellaw12_OpsReads_bbbbbbba : Code := sA c_trammellaw12_OpsReads_bbbbbbb
noncomputable def c_trammellaw12_OpsReads_bbbbbbbab : Code := sB c_trammellaw12_OpsReads_bbbbbbba
noncomputable def c_trammellaw12_OpsReads_bbbbbbbbb : Code := sB c_trammellaw12_OpsReads_bbbbbbbb
noncomputable def c_trammellaw12_OpsReads_bbbbbbbba : Code := sA c_trammellaw12_OpsReads_bbbbbbbb
noncomputable def c_trammellaw12_OpsReads_bbbbbbbbab : Code := sB c_trammellaw12_OpsReads_bbbbbbbba
noncomputable def c_trammellaw12_OpsReads_bbbbbbbbabk : Code := sK c_trammellaw12_OpsReads_bbbbbbbbab
noncomputable def c_trammellaw12_OpsReads_bbbbbbbbabkl : Code := sL c_trammellaw12_OpsReads_bbbbbbbbabk
noncomputable def c_trammellaw12_OpsReads_bbbbbbbbabklb : Code := sB c_trammellaw12_OpsReads_bbbbbbbbabkl
noncomputable def c_trammellaw12_OpsReads_bbbbbbbbabklbb : Code := sB c_trammellaw12_OpsReads_bbbbbbbbabklb
noncomputable def c_trammellaw12_OpsReads_bbbbbbbbabklba : Code := sA c_trammellaw12_OpsReads_bbbbbbbbabklb
noncomputable def c_trammellaw12_OpsReads_bbbbbbbbabklbak : Code := sK c_trammellaw12_OpsReads_bbbbbbbbabklba
noncomputable def c_trammellaw12_OpsReads_bbbbbbbbabklbakb : Code := sB c_trammellaw12_OpsReads_bbbbbbbbabklbak
noncomputable def c_trammellaw12_OpsReads_bbbbbbbbabklbaka : Code := sA c_trammellaw12_OpsReads_bbbbbbbbabklbak
noncomputable def c_trammellaw12_OpsReads_bbbbbbbbabklbakab : Code := sB c_trammellaw12_OpsReads_bbbbbbbbabklbaka
noncomputable def c_trammellaw12_OpsReads_bbbbbbbbabklbakabk : Code := sK c_trammellaw12_OpsReads_bbbbbbbbabklbakab
noncomputable def c_trammellaw12_OpsReads_bbbbbbbbabklbakabkl : Code := sL c_trammellaw12_OpsReads_bbbbbbbbabklbakabk
noncomputable def J_trammellaw12_OpsReads_1000010 (call : CallF) (h : Heap) (v5 v12 v13 v15 v16 v91 : Value) : R := fSeq Try.prog call keep_trammellaw12_OpsReads c_trammellaw12_OpsReads_bbbbbbbab (fSeq Try.prog call keep_trammellaw12_OpsReads c_trammellaw12_OpsReads_bbbbbbbb k_trammellaw12_OpsReads) Ex.normal ⟨undefA :: undefA :: undefA :: undefA :: undefA :: v5 :: undefA :: undefA :: undefA :: undefA :: undefA :: undefA :: v12 :: v13 :: undefA :: v15 :: v16 :: undefA :: undefA :: undefA :: undefA :: undefA :: undefA :: undefA :: undefA :: undefA :: undefA :: undefA :: undefA :: undefA :: undefA :: undefA :: undefA :: undefA :: undefA :: undefA :: undefA :: undefA :: undefA :: undefA :: undefA :: undefA :: undefA :: undefA :: undefA :: undefA :: undefA :: undefA :: undefA :: undefA :: undefA :: undefA :: undefA :: undefA :: undefA :: undefA :: undefA :: undefA :: undefA :: undefA :: undefA :: undefA :: undefA :: undefA :: undefA :: undefA :: undefA :: undefA :: undefA :: undefA :: undefA :: undefA :: undefA :: undefA :: undefA :: undefA :: undefA :: undefA :: undefA :: undefA :: undefA :: undefA :: undefA :: undefA :: undefA :: undefA :: undefA :: undefA :: undefA :: undefA :: undefA :: v91 :: undefA :: undefA :: undefA :: undefA :: undefA :: undefA :: undefA :: undefA :: undefA :: undefA :: undefA :: undefA :: undefA :: undefA :: undefA :: undefA :: undefA :: undefA :: undefA :: undefA :: undefA :: undefA :: undefA :: undefA :: undefA :: undefA :: undefA :: undefA :: undefA :: undefA :: undefA :: undefA :: undefA :: undefA :: undefA :: undefA :: undefA :: undefA :: undefA :: undefA :: undefA :: undefA :: undefA :: undefA :: undefA :: undefA :: undefA :: undefA :: [], h⟩
noncomputable def L_trammellaw12_OpsReads_11 (call : CallF) (h : Heap) (v5 v12 v13 v15 v16 v18 : Value) : R := iterW (runF Try.prog call keep_trammellaw12_OpsReads c_trammellaw12_OpsReads_bbbbbbbbabkl) (maskS (keep_trammellaw12_OpsReads 11)) ⟨undefA :: undefA :: undefA :: undefA :: undefA :: v5 :: undefA :: undefA :: undefA :: undefA :: undefA :: undefA :: v12 :: v13 :: undefA :: v15 :: v16 :: undefA :: v18 :: undefA :: undefA :: undefA :: undefA :: undefA :: undefA :: undefA :: undefA :: undefA :: undefA :: undefA :: undefA :: undefA :: undefA :: undefA :: undefA :: undefA :: undefA :: undefA :: undefA :: undefA :: undefA :: undefA :: undefA :: undefA :: undefA :: undefA :: undefA :: undefA :: undefA :: undefA :: undefA :: undefA :: undefA :: undefA :: undefA :: undefA :: undefA :: undefA :: undefA :: undefA :: undefA :: undefA :: undefA :: undefA :: undefA :: undefA :: undefA :: undefA :: undefA :: undefA :: undefA :: undefA :: undefA :: undefA :: undefA :: undefA :: undefA :: undefA :: undefA :: undefA :: undefA :: undefA :: undefA :: undefA :: undefA :: undefA :: undefA :: undefA :: undefA :: undefA :: undefA :: undefA :: undefA :: undefA :: undefA :: undefA :: undefA :: undefA :: undefA :: undefA :: undefA :: undefA :: undefA :: undefA :: undefA :: undefA :: undefA :: undefA :: undefA :: undefA :: undefA :: undefA :: undefA :: undefA :: undefA :: undefA :: undefA :: undefA :: undefA :: undefA :: undefA :: undefA :: undefA :: undefA :: undefA :: undefA :: undefA :: undefA :: undefA :: undefA :: undefA :: undefA :: undefA :: undefA :: undefA :: undefA :: undefA :: undefA :: undefA :: undefA :: [], h⟩ (kBlk 0 (fSeq Try.prog call keep_trammellaw12_OpsReads c_trammellaw12_OpsReads_bbbbbbbbb k_trammellaw12_OpsReads))
noncomputable def L_trammellaw12_OpsReads_14 (call : CallF) (h : Heap) (v5 v12 v13 v15 v16 v18 v19 : Value) : R := iterW (runF Try.prog call keep_trammellaw12_OpsReads c_trammellaw12_OpsReads_bbbbbbbbabklbakabkl) (maskS (keep_trammellaw12_OpsReads 14)) ⟨undefA :: undefA :: undefA :: undefA :: undefA :: v5 :: undefA :: undefA :: undefA :: undefA :: undefA :: undefA :: v12 :: v13 :: undefA :: v15 :: v16 :: undefA :: v18 :: v19 :: undefA :: undefA :: undefA :: undefA :: undefA :: undefA :: undefA :: undefA :: undefA :: undefA :: undefA :: undefA :: undefA :: undefA :: undefA :: undefA :: undefA :: undefA :: undefA :: undefA :: undefA :: undefA :: undefA :: undefA :: undefA :: undefA :: undefA :: undefA :: undefA :: undefA :: undefA :: undefA :: undefA :: undefA :: undefA :: undefA :: undefA :: undefA :: undefA :: undefA :: undefA :: undefA :: undefA :: undefA :: undefA :: undefA :: undefA :: undefA :: undefA :: undefA :: undefA :: undefA :: undefA :: undefA :: undefA :: undefA :: undefA :: undefA :: undefA :: undefA :: undefA :: undefA :: undefA :: undefA :: undefA :: undefA :: undefA :: undefA :: undefA :: undefA :: undefA :: undefA :: undefA :: undefA :: undefA :: undefA :: undefA :: undefA :: undefA :: undefA :: undefA :: undefA :: undefA :: undefA :: undefA :: undefA :: undefA :: undefA :: undefA :: undefA :: undefA :: undefA :: undefA :: undefA :: undefA :: undefA :: undefA :: undefA :: undefA :: undefA :: undefA :: undefA :: undefA :: undefA :: undefA :: undefA :: undefA :: undefA :: undefA :: undefA :: undefA :: undefA :: undefA :: undefA :: undefA :: undefA :: undefA :: undefA :: undefA :: undefA :: [], h⟩ (kBlk 2 (fSeq Try.prog call keep_trammellaw12_OpsReads c_trammellaw12_OpsReads_bbbbbbbbabklbakb (kBlk 1 (fSeq Try.prog call keep_trammellaw12_OpsReads c_trammellaw12_OpsReads_bbbbbbbbabklbb (fLoop Try.prog call keep_trammellaw12_OpsReads c_trammellaw12_OpsReads_bbbbbbbbabkl (kBlk 0 (fSeq Try.prog call keep_trammellaw12_OpsReads c_trammellaw12_OpsReads_bbbbbbbbb k_trammellaw12_OpsReads)))))))
noncomputable def J_trammellaw12_OpsReads_19 (call : CallF) (h : Heap) (v5 v12 v13 : Value) : R := fSeq Try.prog call keep_trammellaw12_OpsReads c_trammellaw12_OpsReads_bbbbbbbbb k_trammellaw12_OpsReads Ex.normal ⟨undefA :: undefA :: undefA :: undefA :: undefA :: v5 :: undefA :: undefA :: undefA :: undefA :: undefA :: undefA :: v12 :: v13 :: undefA :: undefA :: undefA :: undefA :: undefA :: undefA :: undefA :: undefA :: undefA :: undefA :: undefA :: undefA :: undefA :: undefA :: undefA :: undefA :: undefA :: undefA :: undefA :: undefA :: undefA :: undefA :: undefA :: undefA :: undefA :: undefA :: undefA :: undefA :: undefA :: undefA :: undefA :: undefA :: undefA :: undefA :: undefA :: undefA :: undefA :: undefA :: undefA :: undefA :: undefA :: undefA :: undefA :: undefA :: undefA :: undefA :: undefA :: undefA :: undefA :: undefA :: undefA :: undefA :: undefA :: undefA :: undefA :: undefA :: undefA :: undefA :: undefA :: undefA :: undefA :: undefA :: undefA :: undefA :: undefA :: undefA :: undefA :: undefA :: undefA :: undefA :: undefA :: undefA :: undefA :: undefA :: undefA :: undefA :: undefA :: undefA :: undefA :: undefA :: undefA :: undefA :: undefA :: undefA :: undefA :: undefA :: undefA :: undefA :: undefA :: undefA :: undefA :: undefA :: undefA :: undefA :: undefA :: undefA :: undefA :: undefA :: undefA :: undefA :: undefA :: undefA :: undefA :: undefA :: undefA :: undefA :: undefA :: undefA :: undefA :: undefA :: undefA :: undefA :: undefA :: undefA :: undefA :: undefA :: undefA :: undefA :: undefA :: undefA :: undefA :: undefA :: undefA :: undefA :: undefA :: undefA :: [], h⟩
noncomputable def J_trammellaw12_OpsReads_17 (call : CallF) (h : Heap) (v5 v12 v13 v15 v16 v18 : Value) : R := fSeq Try.prog call keep_trammellaw12_OpsReads c_trammellaw12_OpsReads_bbbbbbbbabklbakb (kBlk 1 (fSeq Try.prog call keep_trammellaw12_OpsReads c_trammellaw12_OpsReads_bbbbbbbbabklbb (fLoop Try.prog call keep_trammellaw12_OpsReads c_trammellaw12_OpsReads_bbbbbbbbabkl (kBlk 0 (fSeq Try.prog call keep_trammellaw12_OpsReads c_trammellaw12_OpsReads_bbbbbbbbb k_trammellaw12_OpsReads))))) Ex.normal ⟨undefA :: undefA :: undefA :: undefA :: undefA :: v5 :: undefA :: undefA :: undefA :: undefA :: undefA :: undefA :: v12 :: v13 :: undefA :: v15 :: v16 :: undefA :: v18 :: undefA :: undefA :: undefA :: undefA :: undefA :: undefA :: undefA :: undefA :: undefA :: undefA :: undefA :: undefA :: undefA :: undefA :: undefA :: undefA :: undefA :: undefA :: undefA :: undefA :: undefA :: undefA :: undefA :: undefA :: undefA :: undefA :: undefA :: undefA :: undefA :: undefA :: undefA :: undefA :: undefA :: undefA :: undefA :: undefA :: undefA :: undefA :: undefA :: undefA :: undefA :: undefA :: undefA :: undefA :: undefA :: undefA :: undefA :: undefA :: undefA :: undefA :: undefA :: undefA :: undefA :: undefA :: undefA :: undefA :: undefA :: undefA :: undefA :: undefA :: undefA :: undefA :: undefA :: undefA :: undefA :: undefA :: undefA :: undefA :: undefA :: undefA :: undefA :: undefA :: undefA :: undefA :: undefA :: undefA :: undefA :: undefA :: undefA :: undefA :: undefA :: undefA :: undefA :: undefA :: undefA :: undefA :: undefA :: undefA :: undefA :: undefA :: undefA :: undefA :: undefA :: undefA :: undefA :: undefA :: undefA :: undefA :: undefA :: undefA :: undefA :: undefA :: undefA :: undefA :: undefA :: undefA :: undefA :: undefA :: undefA :: undefA :: undefA :: undefA :: undefA :: undefA :: undefA :: undefA :: undefA :: undefA :: undefA :: undefA :: undefA :: [], h⟩
noncomputable def J_trammellaw12_OpsReads_12 (call : CallF) (h : Heap) (v5 v12 v13 v15 v16 v18 : Value) : R := fSeq Try.prog call keep_trammellaw12_OpsReads c_trammellaw12_OpsReads_bbbbbbbbabklbb (fLoop Try.prog call keep_trammellaw12_OpsReads c_trammellaw12_OpsReads_bbbbbbbbabkl (kBlk 0 (fSeq Try.prog call keep_trammellaw12_OpsReads c_trammellaw12_OpsReads_bbbbbbbbb k_trammellaw12_OpsReads))) Ex.normal ⟨undefA :: undefA :: undefA :: undefA :: undefA :: v5 :: undefA :: undefA :: undefA :: undefA :: undefA :: undefA :: v12 :: v13 :: undefA :: v15 :: v16 :: undefA :: v18 :: undefA :: undefA :: undefA :: undefA :: undefA :: undefA :: undefA :: undefA :: undefA :: undefA :: undefA :: undefA :: undefA :: undefA :: undefA :: undefA :: undefA :: undefA :: undefA :: undefA :: undefA :: undefA :: undefA :: undefA :: undefA :: undefA :: undefA :: undefA :: undefA :: undefA :: undefA :: undefA :: undefA :: undefA :: undefA :: undefA :: undefA :: undefA :: undefA :: undefA :: undefA :: undefA :: undefA :: undefA :: undefA :: undefA :: undefA :: undefA :: undefA :: undefA :: undefA :: undefA :: undefA :: undefA :: undefA :: undefA :: undefA :: undefA :: undefA :: undefA :: undefA :: undefA :: undefA :: undefA :: undefA :: undefA :: undefA :: undefA :: undefA :: undefA :: undefA :: undefA :: undefA :: undefA :: undefA :: undefA :: undefA :: undefA :: undefA :: undefA :: undefA :: undefA :: undefA :: undefA :: undefA :: undefA :: undefA :: undefA :: undefA :: undefA :: undefA :: undefA :: undefA :: undefA :: undefA :: undefA :: undefA :: undefA :: undefA :: undefA :: undefA :: undefA :: undefA :: undefA :: undefA :: undefA :: undefA :: undefA :: undefA :: undefA :: undefA :: undefA :: undefA :: undefA :: undefA :: undefA :: undefA :: undefA :: undefA :: undefA :: undefA :: [], h⟩
noncomputable def J_trammellaw12_OpsReads_1000010_b (call : CallF) (h : Heap) (v5 v12 v13 v15 v16 v91 : Value) : R :=
condF v91 (
some (Ret.ret (Go.Value.bool false), h)) (
L_trammellaw12_OpsReads_11 call h v5 v12 v13 v15 v16 (Go.Value.int Go.IntKind.i64 0))
theorem J_trammellaw12_OpsReads_1000010_wp {call : CallF} {h : Heap} {v5 v12 v13 v15 v16 v91 : Value} {Q : Ret → Heap → Prop} (hr : WP (J_trammellaw12_OpsReads_1000010_b call h v5 v12 v13 v15 v16 v91) Q) : WP (J_trammellaw12_OpsReads_1000010 call h v5 v12 v13 v15 v16 v91) Q := wp_eq (by kernel_rfl) hr
noncomputable def L_trammellaw12_OpsReads_11_b (call : CallF) (h : Heap) (v5 v12 v13 v15 v16 v18 : Value) : R :=
obnd (aLen Try.prog T_Sapi_Instr v15) fun x70 =>
obnd (aBin Try.prog Go.BinOp.lss T_int v18 x70 (Go.Operand.tmp 92) (Go.Operand.tmp 94)) fun x71 =>
condF x71 (
L_trammellaw12_OpsReads_14 call h v5 v12 v13 v15 v16 v18 (Go.Value.int Go.IntKind.i64 0)) (
J_trammellaw12_OpsReads_19 call h v5 v12 v13)
theorem L_trammellaw12_OpsReads_11_wp {call : CallF} {h : Heap} {v5 v12 v13 v15 v16 v18 : Value} {Q : Ret → Heap → Prop} (hr : WP (L_trammellaw12_OpsReads_11_b call h v5 v12 v13 v15 v16 v18) Q) : WP (L_trammellaw12_OpsReads_11 call h v5 v12 v13 v15 v16 v18) Q :=
  wp_step (fun x hx => iterW_round (runF_tail c_trammellaw12_OpsReads_bbbbbbbbabkl) ((Eq.trans (by kernel_rfl) hx : runF Try.prog call keep_trammellaw12_OpsReads c_trammellaw12_OpsReads_bbbbbbbbabkl ⟨undefA :: undefA :: undefA :: undefA :: undefA :: v5 :: undefA :: undefA :: undefA :: undefA :: undefA :: undefA :: v12 :: v13 :: undefA :: v15 :: v16 :: undefA :: v18 :: undefA :: undefA :: undefA :: undefA :: undefA :: undefA :: undefA :: undefA :: undefA :: undefA :: undefA :: undefA :: undefA :: undefA :: undefA :: undefA :: undefA :: undefA :: undefA :: undefA :: undefA :: undefA :: undefA :: undefA :: undefA :: undefA :: undefA :: undefA :: undefA :: undefA :: undefA :: undefA :: undefA :: undefA :: undefA :: undefA :: undefA :: undefA :: undefA :: undefA :: undefA :: undefA :: undefA :: undefA :: undefA :: undefA :: undefA :: undefA :: undefA :: undefA :: undefA :: undefA :: undefA :: undefA :: undefA :: undefA :: undefA :: undefA :: undefA :: undefA :: undefA :: undefA :: undefA :: undefA :: undefA :: undefA :: undefA :: undefA :: undefA :: undefA :: undefA :: undefA :: undefA :: undefA :: undefA :: undefA :: undefA :: undefA :: undefA :: undefA :: undefA :: undefA :: undefA :: undefA :: undefA :: undefA :: undefA :: undefA :: undefA :: undefA :: undefA :: undefA :: undefA :: undefA :: undefA :: undefA :: undefA :: undefA :: undefA :: undefA :: undefA :: undefA :: undefA :: undefA :: undefA :: undefA :: undefA :: undefA :: undefA :: undefA :: undefA :: undefA :: undefA :: undefA :: undefA :: undefA :: undefA :: undefA :: undefA :: undefA :: undefA :: [], h⟩ (fLoop Try.prog call keep_trammellaw12_OpsReads c_trammellaw12_OpsReads_bbbbbbbbabkl (kBlk 0 (fSeq Try.prog call keep_trammellaw12_OpsReads c_trammellaw12_OpsReads_bbbbbbbbb k_trammellaw12_OpsReads))) = some x))) hr
noncomputable def L_trammellaw12_OpsReads_14_b (call : CallF) (h : Heap) (v5 v12 v13 v15 v16 v18 v19 : Value) : R :=
obnd (aIndexAddr Try.prog T_Sapi_Instr v15 v18) fun x72 =>
obnd (aFieldAddr Try.prog T_api_Instr x72 3) fun x73 =>
obnd (aLoad Try.prog T_Sapi_Arm h x73) fun x74 =>
obnd (aLen Try.prog T_Sapi_Arm x74) fun x75 =>
obnd (aBin Try.prog Go.BinOp.lss T_int v19 x75 (Go.Operand.tmp 98) (Go.Operand.tmp 104)) fun x76 =>
condF x76 (
obnd (aIndexAddr Try.prog T_Sapi_Instr v15 v18) fun x77 =>
obnd (aFieldAddr Try.prog T_api_Instr x77 3) fun x78 =>
obnd (aLoad Try.prog T_Sapi_Arm h x78) fun x79 =>
obnd (aBuild Try.prog T_api_Arm [(0, (Go.Value.int Go.IntKind.i64 (-9)))]) fun x80 =>
obnd (aIndexAddr Try.prog T_Sapi_Arm x79 v19) fun x81 =>
obnd (aStore Try.prog T_api_Arm x81 x80 h) fun h82 =>
obnd (aBin Try.prog Go.BinOp.add T_int v19 (Go.Value.int Go.IntKind.i64 1) (Go.Operand.tmp 106) (Go.Operand.const (Go.Value.int Go.IntKind.i64 1))) fun x83 =>
L_trammellaw12_OpsReads_14 call h82 v5 v12 v13 v15 v16 v18 x83) (
J_trammellaw12_OpsReads_17 call h v5 v12 v13 v15 v16 v18)
theorem L_trammellaw12_OpsReads_14_wp {call : CallF} {h : Heap} {v5 v12 v13 v15 v16 v18 v19 : Value} {Q : Ret → Heap → Prop} (hr : WP (L_trammellaw12_OpsReads_14_b call h v5 v12 v13 v15 v16 v18 v19) Q) : WP (L_trammellaw12_OpsReads_14 call h v5 v12 v13 v15 v16 v18 v19) Q :=
  wp_step (fun x hx => iterW_round (runF_tail c_trammellaw12_OpsReads_bbbbbbbbabklbakabkl) ((Eq.trans (by kernel_rfl) hx : runF Try.prog call keep_trammellaw12_OpsReads c_trammellaw12_OpsReads_bbbbbbbbabklbakabkl ⟨undefA :: undefA :: undefA :: undefA :: undefA :: v5 :: undefA :: undefA :: undefA :: undefA :: undefA :: undefA :: v12 :: v13 :: undefA :: v15 :: v16 :: undefA :: v18 :: v19 :: undefA :: undefA :: undefA :: undefA :: undefA :: undefA :: undefA :: undefA :: undefA :: undefA :: undefA :: undefA :: undefA :: undefA :: undefA :: undefA :: undefA :: undefA :: undefA :: undefA :: undefA :: undefA :: undefA :: undefA :: undefA :: undefA :: undefA :: undefA :: undefA :: undefA :: undefA :: undefA :: undefA :: undefA :: undefA :: undefA :: undefA :: undefA :: undefA :: undefA :: undefA :: undefA :: undefA :: undefA :: undefA :: undefA :: undefA :: undefA :: undefA :: undefA :: undefA :: undefA :: undefA :: undefA :: undefA :: undefA :: undefA :: undefA :: undefA :: undefA :: undefA :: undefA :: undefA :: undefA :: undefA :: undefA :: undefA :: undefA :: undefA :: undefA :: undefA :: undefA :: undefA :: undefA :: undefA :: undefA :: undefA :: undefA :: undefA :: undefA :: undefA :: undefA :: undefA :: undefA :: undefA :: undefA :: undefA :: undefA :: undefA :: undefA :: undefA :: undefA :: undefA :: undefA :: undefA :: undefA :: undefA :: undefA :: undefA :: undefA :: undefA :: undefA :: undefA :: undefA :: undefA :: undefA :: undefA :: undefA :: undefA :: undefA :: undefA :: undefA :: undefA :: undefA :: undefA :: undefA :: undefA :: undefA :: undefA :: undefA :: [], h⟩ (fLoop Try.prog call keep_trammellaw12_OpsReads c_trammellaw12_OpsReads_bbbbbbbbabklbakabkl (kBlk 2 (fSeq Try.prog call keep_trammellaw12_OpsReads c_trammellaw12_OpsReads_bbbbbbbbabklbakb (kBlk 1 (fSeq Try.prog call keep_trammellaw12_OpsReads c_trammellaw12_OpsReads_bbbbbbbbabklbb (fLoop Try.prog call keep_trammellaw12_OpsReads c_trammellaw12_OpsReads_bbbbbbbbabkl (kBlk 0 (fSeq Try.prog call keep_trammellaw12_OpsReads c_trammellaw12_OpsReads_bbbbbbbbb k_trammellaw12_OpsReads)))))))) = some x))) hr
noncomputable def J_trammellaw12_OpsReads_19_b (call : CallF) (h : Heap) (v5 v12 v13 : Value) : R :=
retK (call fn_ops_All [v5] h) (fun x84 h85 =>
obnd (aExtract x84 0) fun x88 =>
obnd (aExtract x84 1) fun x89 =>
obnd (aExtract x84 2) fun x90 =>
retK (call fn_trammelkit_SameInstrs [x88, v12] h85) (fun x91 h92 =>
guardV3 x91 (
retK (call fn_trammelkit_SameInts [x89, v13] h92) (fun x95 h96 =>
guardV3 x95 (
retK (call fn_trammellaw12_works [] h96) (fun x99 h100 =>
some (Ret.ret x99, h100)) (fun x101 h102 => some (Ret.pan x101, h102))) (
some (Ret.ret (Go.Value.bool false), h96)) (
none)) (fun x97 h98 => some (Ret.pan x97, h98))) (
some (Ret.ret (Go.Value.bool false), h92)) (
none)) (fun x93 h94 => some (Ret.pan x93, h94))) (fun x86 h87 => some (Ret.pan x86, h87))
theorem J_trammellaw12_OpsReads_19_wp {call : CallF} {h : Heap} {v5 v12 v13 : Value} {Q : Ret → Heap → Prop} (hr : WP (J_trammellaw12_OpsReads_19_b call h v5 v12 v13) Q) : WP (J_trammellaw12_OpsReads_19 call h v5 v12 v13) Q := wp_eq (by kernel_rfl) hr
noncomputable def J_trammellaw12_OpsReads_17_b (call : CallF) (h : Heap) (v5 v12 v13 v15 v16 v18 : Value) : R :=
obnd (aBuild Try.prog T_api_Instr [(0, (Go.Value.int Go.IntKind.u8 99))]) fun x103 =>
obnd (aIndexAddr Try.prog T_Sapi_Instr v15 v18) fun x104 =>
obnd (aStore Try.prog T_api_Instr x104 x103 h) fun h105 =>
obnd (aIndexAddr Try.prog T_Sint v16 v18) fun x106 =>
obnd (aStore Try.prog T_int x106 (Go.Value.int Go.IntKind.i64 (-1)) h105) fun h107 =>
J_trammellaw12_OpsReads_12 call h107 v5 v12 v13 v15 v16 v18
theorem J_trammellaw12_OpsReads_17_wp {call : CallF} {h : Heap} {v5 v12 v13 v15 v16 v18 : Value} {Q : Ret → Heap → Prop} (hr : WP (J_trammellaw12_OpsReads_17_b call h v5 v12 v13 v15 v16 v18) Q) : WP (J_trammellaw12_OpsReads_17 call h v5 v12 v13 v15 v16 v18) Q := wp_eq (by kernel_rfl) hr
noncomputable def J_trammellaw12_OpsReads_12_b (call : CallF) (h : Heap) (v5 v12 v13 v15 v16 v18 : Value) : R :=
obnd (aBin Try.prog Go.BinOp.add T_int v18 (Go.Value.int Go.IntKind.i64 1) (Go.Operand.tmp 96) (Go.Operand.const (Go.Value.int Go.IntKind.i64 1))) fun x108 =>
L_trammellaw12_OpsReads_11 call h v5 v12 v13 v15 v16 x108
theorem J_trammellaw12_OpsReads_12_wp {call : CallF} {h : Heap} {v5 v12 v13 v15 v16 v18 : Value} {Q : Ret → Heap → Prop} (hr : WP (J_trammellaw12_OpsReads_12_b call h v5 v12 v13 v15 v16 v18) Q) : WP (J_trammellaw12_OpsReads_12 call h v5 v12 v13 v15 v16 v18) Q := wp_eq (by kernel_rfl) hr
noncomputable def B_trammellaw12_OpsReads (call : CallF) (h : Heap) (v0 v1 : Value) : R :=
obnd (aLen Try.prog T_Suint8 v0) fun x1 =>
obnd (aBin Try.prog Go.BinOp.gtr T_int x1 (Go.Value.int Go.IntKind.i64 65536) (Go.Operand.tmp 24) (Go.Operand.const (Go.Value.int Go.IntKind.i64 65536))) fun x2 =>
condF x2 (
retK (call fn_trammellaw12_works [] h) (fun x3 h4 =>
some (Ret.ret x3, h4)) (fun x5 h6 => some (Ret.pan x5, h6))) (
retK (call fn_trammelkit_LentCode [v0] h) (fun x7 h8 =>
retK (call fn_trammelref12_Decode [v0, v1] h8) (fun x11 h12 =>
obnd (aExtract x11 0) fun x15 =>
obnd (aExtract x11 1) fun x16 =>
obnd (aExtract x11 2) fun x17 =>
anew (mkAlloc Try.prog T_api_Instr) h12 fun p18 h19 =>
obnd (aStore Try.prog T_api_Instr p18 x15 h19) fun h20 =>
retK (call fn_ops_Decode [x7, v1] h20) (fun x21 h22 =>
obnd (aExtract x21 0) fun x25 =>
obnd (aExtract x21 1) fun x26 =>
obnd (aExtract x21 2) fun x27 =>
anew (mkAlloc Try.prog T_api_Instr) h22 fun p28 h29 =>
obnd (aStore Try.prog T_api_Instr p28 x25 h29) fun h30 =>
retK (call fn_trammelref12_All [v0] h30) (fun x31 h32 =>
obnd (aExtract x31 0) fun x35 =>
obnd (aExtract x31 1) fun x36 =>
obnd (aExtract x31 2) fun x37 =>
retK (call fn_ops_All [x7] h32) (fun x38 h39 =>
obnd (aExtract x38 0) fun x42 =>
obnd (aExtract x38 1) fun x43 =>
obnd (aExtract x38 2) fun x44 =>
obnd (aLoad Try.prog T_api_Instr h39 p28) fun x45 =>
obnd (aLoad Try.prog T_api_Instr h39 p18) fun x46 =>
retK (call fn_trammelkit_SameInstr [x45, x46] h39) (fun x47 h48 =>
obnd (aUn Try.prog Go.UnOp.not x47) fun x51 =>
guardV3 x51 (
J_trammellaw12_OpsReads_1000010 call h48 x7 x35 x36 x42 x43 (Go.Value.bool true)) (
obnd (aBin Try.prog Go.BinOp.neq T_int x26 x16 (Go.Operand.tmp 60) (Go.Operand.tmp 61)) fun x52 =>
guardV3 x52 (
J_trammellaw12_OpsReads_1000010 call h48 x7 x35 x36 x42 x43 (Go.Value.bool true)) (
obnd (aBin Try.prog Go.BinOp.neq T_api_Errno x27 x17 (Go.Operand.tmp 65) (Go.Operand.tmp 66)) fun x53 =>
guardV3 x53 (
J_trammellaw12_OpsReads_1000010 call h48 x7 x35 x36 x42 x43 (Go.Value.bool true)) (
retK (call fn_trammelkit_SameInstrs [x42, x35] h48) (fun x54 h55 =>
obnd (aUn Try.prog Go.UnOp.not x54) fun x58 =>
guardV3 x58 (
J_trammellaw12_OpsReads_1000010 call h55 x7 x35 x36 x42 x43 (Go.Value.bool true)) (
retK (call fn_trammelkit_SameInts [x43, x36] h55) (fun x59 h60 =>
obnd (aUn Try.prog Go.UnOp.not x59) fun x63 =>
guardV3 x63 (
J_trammellaw12_OpsReads_1000010 call h60 x7 x35 x36 x42 x43 (Go.Value.bool true)) (
obnd (aBin Try.prog Go.BinOp.neq T_api_Errno x44 x37 (Go.Operand.tmp 82) (Go.Operand.tmp 83)) fun x64 =>
guardV3 x64 (
J_trammellaw12_OpsReads_1000010 call h60 x7 x35 x36 x42 x43 (Go.Value.bool true)) (
retK (call fn_trammelkit_KeptCode [x7, v0] h60) (fun x65 h66 =>
obnd (aUn Try.prog Go.UnOp.not x65) fun x69 =>
J_trammellaw12_OpsReads_1000010 call h66 x7 x35 x36 x42 x43 x69) (fun x67 h68 => some (Ret.pan x67, h68))) (
none)) (
none)) (fun x61 h62 => some (Ret.pan x61, h62))) (
none)) (fun x56 h57 => some (Ret.pan x56, h57))) (
none)) (
none)) (
none)) (fun x49 h50 => some (Ret.pan x49, h50))) (fun x40 h41 => some (Ret.pan x40, h41))) (fun x33 h34 => some (Ret.pan x33, h34))) (fun x23 h24 => some (Ret.pan x23, h24))) (fun x13 h14 => some (Ret.pan x13, h14))) (fun x9 h10 => some (Ret.pan x9, h10)))
theorem R_trammellaw12_OpsReads {call : CallF} {h : Heap} {v0 v1 : Value} {Q : Ret → Heap → Prop} (hr : WP (B_trammellaw12_OpsReads call h v0 v1) Q) : WP (runF Try.prog call keep_trammellaw12_OpsReads c_trammellaw12_OpsReads ⟨[v0, v1] ++ List.replicate (Try.f3.ntmps - 2) undefA, h⟩ k_trammellaw12_OpsReads) Q := wp_eq (by kernel_rfl) hr
theorem F_trammellaw12_OpsReads {h : Heap} {v0 v1 : Value} {Q : Ret → Heap → Prop} (hr : WP (B_trammellaw12_OpsReads (callW E) h v0 v1) Q) : WP (callW E fn_trammellaw12_OpsReads [v0, v1] h) Q := wp_callW (fn := Try.f3) (c := c_trammellaw12_OpsReads) (kp := keep_trammellaw12_OpsReads) (by kernel_rfl) (by kernel_rfl) (by kernel_rfl) (by kernel_rfl) (by kernel_rfl) (R_trammellaw12_OpsReads hr)
/-! ### 16 trammel/trammellaw12.works -/
noncomputable def c_trammellaw12_works : Code := bodyOf Try.f16
noncomputable def k_trammellaw12_works : Kt := endK Try.prog Try.f16
noncomputable def B_trammellaw12_works (call : CallF) (h : Heap) : R :=
anew (mkLit Try.prog T_Suint8 5 [(0, (Go.Value.int Go.IntKind.u8 2)), (1, (Go.Value.int Go.IntKind.u8 2)), (2, (Go.Value.int Go.IntKind.u8 1)), (3, (Go.Value.int Go.IntKind.u8 0)), (4, (Go.Value.int Go.IntKind.u8 0))]) h fun p1 h2 =>
retK (call fn_ops_Decode [p1, (Go.Value.int Go.IntKind.i64 0)] h2) (fun x3 h4 =>
obnd (aExtract x3 0) fun x7 =>
obnd (aExtract x3 1) fun x8 =>
obnd (aExtract x3 2) fun x9 =>
anew (mkAlloc Try.prog T_api_Instr) h4 fun p10 h11 =>
obnd (aStore Try.prog T_api_Instr p10 x7 h11) fun h12 =>
obnd (aBin Try.prog Go.BinOp.eql T_api_Errno x9 (Go.Value.int Go.IntKind.i64 0) (Go.Operand.tmp 10) (Go.Operand.const (Go.Value.int Go.IntKind.i64 0))) fun x13 =>
guardV3 x13 (
obnd (aBin Try.prog Go.BinOp.eql T_int x8 (Go.Value.int Go.IntKind.i64 5) (Go.Operand.tmp 13) (Go.Operand.const (Go.Value.int Go.IntKind.i64 5))) fun x14 =>
guardV3 x14 (
obnd (aFieldAddr Try.prog T_api_Instr p10 0) fun x15 =>
obnd (aLoad Try.prog T_uint8 h12 x15) fun x16 =>
obnd (aBin Try.prog Go.BinOp.eql T_uint8 x16 (Go.Value.int Go.IntKind.u8 2) (Go.Operand.tmp 18) (Go.Operand.const (Go.Value.int Go.IntKind.u8 2))) fun x17 =>
guardV3 x17 (
obnd (aFieldAddr Try.prog T_api_Instr p10 1) fun x18 =>
obnd (aLoad Try.prog T_int64 h12 x18) fun x19 =>
obnd (aBin Try.prog Go.BinOp.eql T_int64 x19 (Go.Value.int Go.IntKind.i64 258) (Go.Operand.tmp 23) (Go.Operand.const (Go.Value.int Go.IntKind.i64 258))) fun x20 =>
guardV3 x20 (
obnd (aLoad Try.prog T_api_Instr h12 p10) fun x21 =>
retK (call fn_ops_Size [x21] h12) (fun x22 h23 =>
obnd (aBin Try.prog Go.BinOp.eql T_int x22 (Go.Value.int Go.IntKind.i64 5) (Go.Operand.tmp 28) (Go.Operand.const (Go.Value.int Go.IntKind.i64 5))) fun x26 =>
guardV3 x26 (
retK (call fn_ops_Name [(Go.Value.int Go.IntKind.u8 38)] h23) (fun x27 h28 =>
obnd (aBin Try.prog Go.BinOp.eql T_string x27 (Go.Value.string { data := #[115, 101, 116, 102, 105, 101, 108, 100] }) (Go.Operand.tmp 32) (Go.Operand.const (Go.Value.string { data := #[115, 101, 116, 102, 105, 101, 108, 100] }))) fun x31 =>
some (Ret.ret x31, h28)) (fun x29 h30 => some (Ret.pan x29, h30))) (
some (Ret.ret (Go.Value.bool false), h23)) (
none)) (fun x24 h25 => some (Ret.pan x24, h25))) (
some (Ret.ret (Go.Value.bool false), h12)) (
none)) (
some (Ret.ret (Go.Value.bool false), h12)) (
none)) (
some (Ret.ret (Go.Value.bool false), h12)) (
none)) (
some (Ret.ret (Go.Value.bool false), h12)) (
none)) (fun x5 h6 => some (Ret.pan x5, h6))
theorem R_trammellaw12_works {call : CallF} {h : Heap} {Q : Ret → Heap → Prop} (hr : WP (B_trammellaw12_works call h ) Q) : WP (runF Try.prog call keep_trammellaw12_works c_trammellaw12_works ⟨[] ++ List.replicate (Try.f16.ntmps - 0) undefA, h⟩ k_trammellaw12_works) Q := wp_eq (by kernel_rfl) hr
theorem F_trammellaw12_works {h : Heap} {Q : Ret → Heap → Prop} (hr : WP (B_trammellaw12_works (callW E) h ) Q) : WP (callW E fn_trammellaw12_works [] h) Q := wp_callW (fn := Try.f16) (c := c_trammellaw12_works) (kp := keep_trammellaw12_works) (by kernel_rfl) (by kernel_rfl) (by kernel_rfl) (by kernel_rfl) (by kernel_rfl) (R_trammellaw12_works hr)
/-! ### 17 trammel/trammelkit.LentCode -/
noncomputable def c_trammelkit_LentCode : Code := bodyOf Try.f17
noncomputable def k_trammelkit_LentCode : Kt := endK Try.prog Try.f17
noncomputable def B_trammelkit_LentCode (call : CallF) (h : Heap) (v0 : Value) : R :=
obnd (aAppend Try.prog T_Suint8 T_Suint8 (Go.Value.slice none 0 0) v0 h) fun r2 =>
anew (mkLit Try.prog T_Suint8 1 [(0, (Go.Value.int Go.IntKind.u8 77))]) r2.2 fun p3 h4 =>
obnd (aAppend Try.prog T_Suint8 T_Suint8 r2.1 p3 h4) fun r6 =>
obnd (aLen Try.prog T_Suint8 v0) fun x7 =>
obnd (aSlice Try.prog T_Suint8 r6.1 none (some x7) none) fun x8 =>
some (Ret.ret x8, r6.2)
theorem R_trammelkit_LentCode {call : CallF} {h : Heap} {v0 : Value} {Q : Ret → Heap → Prop} (hr : WP (B_trammelkit_LentCode call h v0) Q) : WP (runF Try.prog call keep_trammelkit_LentCode c_trammelkit_LentCode ⟨[v0] ++ List.replicate (Try.f17.ntmps - 1) undefA, h⟩ k_trammelkit_LentCode) Q := wp_eq (by kernel_rfl) hr
theorem F_trammelkit_LentCode {h : Heap} {v0 : Value} {Q : Ret → Heap → Prop} (hr : WP (B_trammelkit_LentCode (callW E) h v0) Q) : WP (callW E fn_trammelkit_LentCode [v0] h) Q := wp_callW (fn := Try.f17) (c := c_trammelkit_LentCode) (kp := keep_trammelkit_LentCode) (by kernel_rfl) (by kernel_rfl) (by kernel_rfl) (by kernel_rfl) (by kernel_rfl) (R_trammelkit_LentCode hr)
/-! ### 18 trammel/trammelref12.Decode -/
noncomputable def c_trammelref12_Decode : Code := bodyOf Try.f18
noncomputable def k_trammelref12_Decode : Kt := endK Try.prog Try.f18
noncomputable def c_trammelref12_Decode_b : Code := sB c_trammelref12_Decode
noncomputable def c_trammelref12_Decode_bb : Code := sB c_trammelref12_Decode_b
noncomputable def c_trammelref12_Decode_ba : Code := sA c_trammelref12_Decode_b
noncomputable def c_trammelref12_Decode_bab : Code := sB c_trammelref12_Decode_ba
noncomputable def c_trammelref12_Decode_bbb : Code := sB c_trammelref12_Decode_bb
noncomputable def c_trammelref12_Decode_bbbb : Code := sB c_trammelref12_Decode_bbb
noncomputable def c_trammelref12_Decode_bbbbb : Code := sB c_trammelref12_Decode_bbbb
noncomputable def c_trammelref12_Decode_bbbbbb : Code := sB c_trammelref12_Decode_bbbbb
noncomputable def c_trammelref12_Decode_bbbbbbb : Code := sB c_trammelref12_Decode_bbbbbb
noncomputable def c_trammelref12_Decode_bbbbbbbb : Code := sB c_trammelref12_Decode_bbbbbbb
noncomputable def c_trammelref12_Decode_bbbbbbbbb : Code := sB c_trammelref12_Decode_bbbbbbbb
noncomputable def J_trammelref12_Decode_1000003 (call : CallF) (h : Heap) (v0 v1 v4 v18 : Value) : R := fSeq Try.prog call keep_trammelref12_Decode c_trammelref12_Decode_bab (fSeq Try.prog call keep_trammelref12_Decode c_trammelref12_Decode_bb k_trammelref12_Decode) Ex.normal ⟨v0 :: v1 :: undefA :: undefA :: v4 :: undefA :: undefA :: undefA :: undefA :: undefA :: undefA :: undefA :: undefA :: undefA :: undefA :: undefA :: undefA :: undefA :: v18 :: undefA :: undefA :: undefA :: undefA :: undefA :: undefA :: undefA :: undefA :: undefA :: undefA :: undefA :: undefA :: undefA :: undefA :: undefA :: undefA :: undefA :: undefA :: undefA :: undefA :: undefA :: undefA :: undefA :: undefA :: undefA :: undefA :: undefA :: undefA :: undefA :: undefA :: undefA :: undefA :: undefA :: undefA :: undefA :: undefA :: undefA :: undefA :: undefA :: undefA :: undefA :: undefA :: undefA :: undefA :: undefA :: undefA :: undefA :: undefA :: undefA :: undefA :: undefA :: undefA :: undefA :: undefA :: undefA :: undefA :: undefA :: undefA :: undefA :: undefA :: undefA :: undefA :: undefA :: undefA :: undefA :: undefA :: undefA :: [], h⟩
noncomputable def J_trammelref12_Decode_10 (call : CallF) (h : Heap) (v4 v7 v9 v10 : Value) : R := fSeq Try.prog call keep_trammelref12_Decode c_trammelref12_Decode_bbbbbbb k_trammelref12_Decode Ex.normal ⟨undefA :: undefA :: undefA :: undefA :: v4 :: undefA :: undefA :: v7 :: undefA :: v9 :: v10 :: undefA :: undefA :: undefA :: undefA :: undefA :: undefA :: undefA :: undefA :: undefA :: undefA :: undefA :: undefA :: undefA :: undefA :: undefA :: undefA :: undefA :: undefA :: undefA :: undefA :: undefA :: undefA :: undefA :: undefA :: undefA :: undefA :: undefA :: undefA :: undefA :: undefA :: undefA :: undefA :: undefA :: undefA :: undefA :: undefA :: undefA :: undefA :: undefA :: undefA :: undefA :: undefA :: undefA :: undefA :: undefA :: undefA :: undefA :: undefA :: undefA :: undefA :: undefA :: undefA :: undefA :: undefA :: undefA :: undefA :: undefA :: undefA :: undefA :: undefA :: undefA :: undefA :: undefA :: undefA :: undefA :: undefA :: undefA :: undefA :: undefA :: undefA :: undefA :: undefA :: undefA :: undefA :: undefA :: [], h⟩
noncomputable def J_trammelref12_Decode_12 (call : CallF) (h : Heap) (v4 v9 v10 : Value) : R := fSeq Try.prog call keep_trammelref12_Decode c_trammelref12_Decode_bbbbbbbb k_trammelref12_Decode Ex.normal ⟨undefA :: undefA :: undefA :: undefA :: v4 :: undefA :: undefA :: undefA :: undefA :: v9 :: v10 :: undefA :: undefA :: undefA :: undefA :: undefA :: undefA :: undefA :: undefA :: undefA :: undefA :: undefA :: undefA :: undefA :: undefA :: undefA :: undefA :: undefA :: undefA :: undefA :: undefA :: undefA :: undefA :: undefA :: undefA :: undefA :: undefA :: undefA :: undefA :: undefA :: undefA :: undefA :: undefA :: undefA :: undefA :: undefA :: undefA :: undefA :: undefA :: undefA :: undefA :: undefA :: undefA :: undefA :: undefA :: undefA :: undefA :: undefA :: undefA :: undefA :: undefA :: undefA :: undefA :: undefA :: undefA :: undefA :: undefA :: undefA :: undefA :: undefA :: undefA :: undefA :: undefA :: undefA :: undefA :: undefA :: undefA :: undefA :: undefA :: undefA :: undefA :: undefA :: undefA :: undefA :: undefA :: undefA :: [], h⟩
noncomputable def J_trammelref12_Decode_15 (call : CallF) (h : Heap) (v4 v9 v10 : Value) : R := fSeq Try.prog call keep_trammelref12_Decode c_trammelref12_Decode_bbbbbbbbb k_trammelref12_Decode Ex.normal ⟨undefA :: undefA :: undefA :: undefA :: v4 :: undefA :: undefA :: undefA :: undefA :: v9 :: v10 :: undefA :: undefA :: undefA :: undefA :: undefA :: undefA :: undefA :: undefA :: undefA :: undefA :: undefA :: undefA :: undefA :: undefA :: undefA :: undefA :: undefA :: undefA :: undefA :: undefA :: undefA :: undefA :: undefA :: undefA :: undefA :: undefA :: undefA :: undefA :: undefA :: undefA :: undefA :: undefA :: undefA :: undefA :: undefA :: undefA :: undefA :: undefA :: undefA :: undefA :: undefA :: undefA :: undefA :: undefA :: undefA :: undefA :: undefA :: undefA :: undefA :: undefA :: undefA :: undefA :: undefA :: undefA :: undefA :: undefA :: undefA :: undefA :: undefA :: undefA :: undefA :: undefA :: undefA :: undefA :: undefA :: undefA :: undefA :: undefA :: undefA :: undefA :: undefA :: undefA :: undefA :: undefA :: undefA :: [], h⟩
noncomputable def J_trammelref12_Decode_1000003_b (call : CallF) (h : Heap) (v0 v1 v4 v18 : Value) : R :=
condF v18 (
obnd (aBuild Try.prog T_api_Instr []) fun x6 =>
obnd (aStore Try.prog T_api_Instr v4 x6 h) fun h7 =>
k_trammelref12_Decode .ret ⟨v0 :: v1 :: undefA :: undefA :: v4 :: (Go.Value.int Go.IntKind.i64 0) :: (Go.Value.int Go.IntKind.i64 2) :: undefA :: undefA :: undefA :: undefA :: undefA :: undefA :: undefA :: undefA :: undefA :: undefA :: undefA :: v18 :: x6 :: undefA :: undefA :: undefA :: undefA :: undefA :: undefA :: undefA :: undefA :: undefA :: undefA :: undefA :: undefA :: undefA :: undefA :: undefA :: undefA :: undefA :: undefA :: undefA :: undefA :: undefA :: undefA :: undefA :: undefA :: undefA :: undefA :: undefA :: undefA :: undefA :: undefA :: undefA :: undefA :: undefA :: undefA :: undefA :: undefA :: undefA :: undefA :: undefA :: undefA :: undefA :: undefA :: undefA :: undefA :: undefA :: undefA :: undefA :: undefA :: undefA :: undefA :: undefA :: undefA :: undefA :: undefA :: undefA :: undefA :: undefA :: undefA :: undefA :: undefA :: undefA :: undefA :: undefA :: undefA :: undefA :: undefA :: [], h7⟩) (
obnd (aIndexAddr Try.prog T_Suint8 v0 v1) fun x8 =>
obnd (aLoad Try.prog T_uint8 h x8) fun x9 =>
retK (call fn_trammelref12_parts [x9] h) (fun x10 h11 =>
obnd (aExtract x10 0) fun x14 =>
obnd (aExtract x10 1) fun x15 =>
obnd (aUn Try.prog Go.UnOp.not x15) fun x16 =>
condF x16 (
obnd (aBuild Try.prog T_api_Instr []) fun x17 =>
obnd (aStore Try.prog T_api_Instr v4 x17 h11) fun h18 =>
k_trammelref12_Decode .ret ⟨v0 :: v1 :: undefA :: undefA :: v4 :: (Go.Value.int Go.IntKind.i64 0) :: (Go.Value.int Go.IntKind.i64 120) :: x14 :: x15 :: undefA :: undefA :: undefA :: undefA :: undefA :: undefA :: undefA :: undefA :: undefA :: v18 :: undefA :: x10 :: v0 :: v1 :: x8 :: x9 :: x10 :: x14 :: x15 :: x15 :: x16 :: x17 :: undefA :: undefA :: undefA :: undefA :: undefA :: undefA :: undefA :: undefA :: undefA :: undefA :: undefA :: undefA :: undefA :: undefA :: undefA :: undefA :: undefA :: undefA :: undefA :: undefA :: undefA :: undefA :: undefA :: undefA :: undefA :: undefA :: undefA :: undefA :: undefA :: undefA :: undefA :: undefA :: undefA :: undefA :: undefA :: undefA :: undefA :: undefA :: undefA :: undefA :: undefA :: undefA :: undefA :: undefA :: undefA :: undefA :: undefA :: undefA :: undefA :: undefA :: undefA :: undefA :: undefA :: undefA :: undefA :: [], h18⟩) (
obnd (aBin Try.prog Go.BinOp.add T_int v1 (Go.Value.int Go.IntKind.i64 1) (Go.Operand.tmp 32) (Go.Operand.const (Go.Value.int Go.IntKind.i64 1))) fun x19 =>
obnd (aBuild Try.prog T_trammelref12_reader [(0, v0), (1, x19)]) fun x20 =>
anew (mkBox T_trammelref12_reader x20) h11 fun p21 h22 =>
obnd (aIndexAddr Try.prog T_Suint8 v0 v1) fun x23 =>
obnd (aLoad Try.prog T_uint8 h22 x23) fun x24 =>
obnd (aBuild Try.prog T_api_Instr [(0, x24)]) fun x25 =>
anew (mkAlloc Try.prog T_api_Instr) h22 fun p26 h27 =>
obnd (aStore Try.prog T_api_Instr p26 x25 h27) fun h28 =>
obnd (aLen Try.prog T_Strammelref12_part x14) fun x29 =>
obnd (aBin Try.prog Go.BinOp.gtr T_int x29 (Go.Value.int Go.IntKind.i64 0) (Go.Operand.tmp 42) (Go.Operand.const (Go.Value.int Go.IntKind.i64 0))) fun x30 =>
condF x30 (
obnd (aIndexAddr Try.prog T_Strammelref12_part x14 (Go.Value.int Go.IntKind.i64 0)) fun x31 =>
obnd (aLoad Try.prog T_trammelref12_part h28 x31) fun x32 =>
retK (call fn_trammelref12_reader_number [p21, x32] h28) (fun x33 h34 =>
obnd (aFieldAddr Try.prog T_api_Instr p26 1) fun x37 =>
obnd (aStore Try.prog T_int64 x37 x33 h34) fun h38 =>
J_trammelref12_Decode_10 call h38 v4 x14 p21 p26) (fun x35 h36 => some (Ret.pan x35, h36))) (
J_trammelref12_Decode_10 call h28 v4 x14 p21 p26))) (fun x12 h13 => some (Ret.pan x12, h13)))
theorem J_trammelref12_Decode_1000003_wp {call : CallF} {h : Heap} {v0 v1 v4 v18 : Value} {Q : Ret → Heap → Prop} (hr : WP (J_trammelref12_Decode_1000003_b call h v0 v1 v4 v18) Q) : WP (J_trammelref12_Decode_1000003 call h v0 v1 v4 v18) Q := wp_eq (by kernel_rfl) hr
noncomputable def J_trammelref12_Decode_10_b (call : CallF) (h : Heap) (v4 v7 v9 v10 : Value) : R :=
obnd (aLen Try.prog T_Strammelref12_part v7) fun x39 =>
obnd (aBin Try.prog Go.BinOp.gtr T_int x39 (Go.Value.int Go.IntKind.i64 1) (Go.Operand.tmp 51) (Go.Operand.const (Go.Value.int Go.IntKind.i64 1))) fun x40 =>
condF x40 (
obnd (aIndexAddr Try.prog T_Strammelref12_part v7 (Go.Value.int Go.IntKind.i64 1)) fun x41 =>
obnd (aLoad Try.prog T_trammelref12_part h x41) fun x42 =>
retK (call fn_trammelref12_reader_number [v9, x42] h) (fun x43 h44 =>
obnd (aFieldAddr Try.prog T_api_Instr v10 2) fun x47 =>
obnd (aStore Try.prog T_int64 x47 x43 h44) fun h48 =>
J_trammelref12_Decode_12 call h48 v4 v9 v10) (fun x45 h46 => some (Ret.pan x45, h46))) (
J_trammelref12_Decode_12 call h v4 v9 v10)
theorem J_trammelref12_Decode_10_wp {call : CallF} {h : Heap} {v4 v7 v9 v10 : Value} {Q : Ret → Heap → Prop} (hr : WP (J_trammelref12_Decode_10_b call h v4 v7 v9 v10) Q) : WP (J_trammelref12_Decode_10 call h v4 v7 v9 v10) Q := wp_eq (by kernel_rfl) hr
noncomputable def J_trammelref12_Decode_12_b (call : CallF) (h : Heap) (v4 v9 v10 : Value) : R :=
obnd (aFieldAddr Try.prog T_api_Instr v10 0) fun x49 =>
obnd (aLoad Try.prog T_uint8 h x49) fun x50 =>
obnd (aBin Try.prog Go.BinOp.eql T_uint8 x50 (Go.Value.int Go.IntKind.u8 49) (Go.Operand.tmp 60) (Go.Operand.const (Go.Value.int Go.IntKind.u8 49))) fun x51 =>
condF x51 (
obnd (aFieldAddr Try.prog T_api_Instr v10 1) fun x52 =>
obnd (aLoad Try.prog T_int64 h x52) fun x53 =>
retK (call fn_trammelref12_reader_arms [v9, x53] h) (fun x54 h55 =>
obnd (aFieldAddr Try.prog T_api_Instr v10 3) fun x58 =>
obnd (aStore Try.prog T_Sapi_Arm x58 x54 h55) fun h59 =>
retK (call fn_trammelref12_leap [] h59) (fun x60 h61 =>
retK (call fn_trammelref12_reader_number [v9, x60] h61) (fun x64 h65 =>
obnd (aFieldAddr Try.prog T_api_Instr v10 2) fun x68 =>
obnd (aStore Try.prog T_int64 x68 x64 h65) fun h69 =>
J_trammelref12_Decode_15 call h69 v4 v9 v10) (fun x66 h67 => some (Ret.pan x66, h67))) (fun x62 h63 => some (Ret.pan x62, h63))) (fun x56 h57 => some (Ret.pan x56, h57))) (
J_trammelref12_Decode_15 call h v4 v9 v10)
theorem J_trammelref12_Decode_12_wp {call : CallF} {h : Heap} {v4 v9 v10 : Value} {Q : Ret → Heap → Prop} (hr : WP (J_trammelref12_Decode_12_b call h v4 v9 v10) Q) : WP (J_trammelref12_Decode_12 call h v4 v9 v10) Q := wp_eq (by kernel_rfl) hr
noncomputable def J_trammelref12_Decode_15_b (call : CallF) (h : Heap) (v4 v9 v10 : Value) : R :=
obnd (aNilCheck v9) fun x70 =>
obnd (aFieldAddr Try.prog T_trammelref12_reader x70 2) fun x71 =>
obnd (aLoad Try.prog T_api_Errno h x71) fun x72 =>
obnd (aBin Try.prog Go.BinOp.neq T_api_Errno x72 (Go.Value.int Go.IntKind.i64 0) (Go.Operand.tmp 74) (Go.Operand.const (Go.Value.int Go.IntKind.i64 0))) fun x73 =>
condF x73 (
obnd (aBuild Try.prog T_api_Instr []) fun x74 =>
obnd (aNilCheck v9) fun x75 =>
obnd (aFieldAddr Try.prog T_trammelref12_reader x75 2) fun x76 =>
obnd (aLoad Try.prog T_api_Errno h x76) fun x77 =>
obnd (aStore Try.prog T_api_Instr v4 x74 h) fun h78 =>
chkActs [((blkOf x76), h)] h78 (k_trammelref12_Decode .ret ⟨undefA :: undefA :: undefA :: undefA :: v4 :: (Go.Value.int Go.IntKind.i64 0) :: x77 :: undefA :: undefA :: v9 :: v10 :: undefA :: undefA :: undefA :: undefA :: undefA :: undefA :: undefA :: undefA :: undefA :: undefA :: undefA :: undefA :: undefA :: undefA :: undefA :: undefA :: undefA :: undefA :: undefA :: undefA :: undefA :: undefA :: undefA :: undefA :: undefA :: undefA :: undefA :: undefA :: undefA :: undefA :: undefA :: undefA :: undefA :: undefA :: undefA :: undefA :: undefA :: undefA :: undefA :: undefA :: undefA :: undefA :: undefA :: undefA :: undefA :: undefA :: undefA :: undefA :: undefA :: undefA :: undefA :: undefA :: undefA :: undefA :: undefA :: undefA :: undefA :: undefA :: undefA :: undefA :: v9 :: x70 :: x71 :: x72 :: x73 :: x74 :: v9 :: x75 :: x76 :: x77 :: undefA :: undefA :: undefA :: undefA :: undefA :: [], h78⟩)) (
obnd (aLoad Try.prog T_api_Instr h v10) fun x79 =>
obnd (aNilCheck v9) fun x80 =>
obnd (aFieldAddr Try.prog T_trammelref12_reader x80 1) fun x81 =>
obnd (aLoad Try.prog T_int h x81) fun x82 =>
obnd (aStore Try.prog T_api_Instr v4 x79 h) fun h83 =>
chkActs [((blkOf x81), h)] h83 (k_trammelref12_Decode .ret ⟨undefA :: undefA :: undefA :: undefA :: v4 :: x82 :: (Go.Value.int Go.IntKind.i64 0) :: undefA :: undefA :: v9 :: v10 :: undefA :: undefA :: undefA :: undefA :: undefA :: undefA :: undefA :: undefA :: undefA :: undefA :: undefA :: undefA :: undefA :: undefA :: undefA :: undefA :: undefA :: undefA :: undefA :: undefA :: undefA :: undefA :: undefA :: undefA :: undefA :: undefA :: undefA :: undefA :: undefA :: undefA :: undefA :: undefA :: undefA :: undefA :: undefA :: undefA :: undefA :: undefA :: undefA :: undefA :: undefA :: undefA :: undefA :: undefA :: undefA :: undefA :: undefA :: undefA :: undefA :: undefA :: undefA :: undefA :: undefA :: undefA :: undefA :: undefA :: undefA :: undefA :: undefA :: undefA :: v9 :: x70 :: x71 :: x72 :: x73 :: undefA :: undefA :: undefA :: undefA :: undefA :: x79 :: v9 :: x80 :: x81 :: x82 :: [], h83⟩))
theorem J_trammelref12_Decode_15_wp {call : CallF} {h : Heap} {v4 v9 v10 : Value} {Q : Ret → Heap → Prop} (hr : WP (J_trammelref12_Decode_15_b call h v4 v9 v10) Q) : WP (J_trammelref12_Decode_15 call h v4 v9 v10) Q := wp_eq (by kernel_rfl) hr
noncomputable def B_trammelref12_Decode (call : CallF) (h : Heap) (v0 v1 : Value) : R :=
anew (mkAlloc Try.prog T_api_Instr) h fun p1 h2 =>
obnd (aBin Try.prog Go.BinOp.lss T_int v1 (Go.Value.int Go.IntKind.i64 0) (Go.Operand.tmp 11) (Go.Operand.const (Go.Value.int Go.IntKind.i64 0))) fun x3 =>
guardV3 x3 (
J_trammelref12_Decode_1000003 call h2 v0 v1 p1 (Go.Value.bool true)) (
obnd (aLen Try.prog T_Suint8 v0) fun x4 =>
obnd (aBin Try.prog Go.BinOp.geq T_int v1 x4 (Go.Operand.tmp 14) (Go.Operand.tmp 16)) fun x5 =>
J_trammelref12_Decode_1000003 call h2 v0 v1 p1 x5) (
none)
theorem R_trammelref12_Decode {call : CallF} {h : Heap} {v0 v1 : Value} {Q : Ret → Heap → Prop} (hr : WP (B_trammelref12_Decode call h v0 v1) Q) : WP (runF Try.prog call keep_trammelref12_Decode c_trammelref12_Decode ⟨[v0, v1] ++ List.replicate (Try.f18.ntmps - 2) undefA, h⟩ k_trammelref12_Decode) Q := wp_eq (by kernel_rfl) hr
theorem kr_trammelref12_Decode {tm : List Value} {h : Heap} {a4 a5 a6 r4 : Value} {Q : Ret → Heap → Prop} (e4 : tm[4]? = some a4) (e5 : tm[5]? = some a5) (e6 : tm[6]? = some a6) (l4 : aLoad Try.prog T_api_Instr h a4 = some r4) (hq : Q (.ret (Value.tuple ⟨[r4, a5, a6]⟩)) h) : WP (k_trammelref12_Decode .ret ⟨tm, h⟩) Q :=
  ⟨_, _, by
    have e : Try.f18.results.toList = [.cell 4 T_api_Instr, .tmp 5, .tmp 6] := by kernel_rfl
    simp only [k_trammelref12_Decode, endK, e, resV, e4, e5, e6, l4, Option.bind_some, Option.map_some, retV], hq⟩
theorem F_trammelref12_Decode {h : Heap} {v0 v1 : Value} {Q : Ret → Heap → Prop} (hr : WP (B_trammelref12_Decode (callW E) h v0 v1) Q) : WP (callW E fn_trammelref12_Decode [v0, v1] h) Q := wp_callW (fn := Try.f18) (c := c_trammelref12_Decode) (kp := keep_trammelref12_Decode) (by kernel_rfl) (by kernel_rfl) (by kernel_rfl) (by kernel_rfl) (by kernel_rfl) (R_trammelref12_Decode hr)
/-! ### 19 trammel/ops.Decode -/
noncomputable def c_ops_Decode : Code := bodyOf Try.f19
noncomputable def k_ops_Decode : Kt := endK Try.prog Try.f19
noncomputable def c_ops_Decode_b : Code := sB c_ops_Decode
noncomputable def c_ops_Decode_bb : Code := sB c_ops_Decode_b
noncomputable def c_ops_Decode_ba : Code := sA c_ops_Decode_b
noncomputable def c_ops_Decode_bab : Code := sB c_ops_Decode_ba
noncomputable def c_ops_Decode_bbb : Code := sB c_ops_Decode_bb
noncomputable def c_ops_Decode_bbbb : Code := sB c_ops_Decode_bbb
noncomputable def c_ops_Decode_bbbbb : Code := sB c_ops_Decode_bbbb
noncomputable def c_ops_Decode_bbbbbb : Code := sB c_ops_Decode_bbbbb
noncomputable def c_ops_Decode_bbbbbbb : Code := sB c_ops_Decode_bbbbbb
noncomputable def c_ops_Decode_bbbbbba : Code := sA c_ops_Decode_bbbbbb
noncomputable def c_ops_Decode_bbbbbbab : Code := sB c_ops_Decode_bbbbbba
noncomputable def c_ops_Decode_bbbbbbabk : Code := sK c_ops_Decode_bbbbbbab
noncomputable def c_ops_Decode_bbbbbbabkl : Code := sL c_ops_Decode_bbbbbbabk
noncomputable def c_ops_Decode_bbbbbbbb : Code := sB c_ops_Decode_bbbbbbb
noncomputable def c_ops_Decode_bbbbbbba : Code := sA c_ops_Decode_bbbbbbb
noncomputable def c_ops_Decode_bbbbbbbab : Code := sB c_ops_Decode_bbbbbbba
noncomputable def c_ops_Decode_bbbbbbbabt : Code := cT c_ops_Decode_bbbbbbbab
noncomputable def c_ops_Decode_bbbbbbbabtb : Code := sB c_ops_Decode_bbbbbbbabt
noncomputable def c_ops_Decode_bbbbbbbabtbb : Code := sB c_ops_Decode_bbbbbbbabtb
noncomputable def c_ops_Decode_bbbbbbbabtba : Code := sA c_ops_Decode_bbbbbbbabtb
noncomputable def c_ops_Decode_bbbbbbbabtbab : Code := sB c_ops_Decode_bbbbbbbabtba
noncomputable def c_ops_Decode_bbbbbbbabtbabk : Code := sK c_ops_Decode_bbbbbbbabtbab
noncomputable def c_ops_Decode_bbbbbbbabtbabkl : Code := sL c_ops_Decode_bbbbbbbabtbabk
noncomputable def J_ops_Decode_1000003 (call : CallF) (h : Heap) (v0 v1 v4 v24 : Value) : R := fSeq Try.prog call keep_ops_Decode c_ops_Decode_bab (fSeq Try.prog call keep_ops_Decode c_ops_Decode_bb k_ops_Decode) Ex.normal ⟨v0 :: v1 :: undefA :: undefA :: v4 :: undefA :: undefA :: undefA :: undefA :: undefA :: undefA :: undefA :: undefA :: undefA :: undefA :: undefA :: undefA :: undefA :: undefA :: undefA :: undefA :: undefA :: undefA :: undefA :: v24 :: undefA :: undefA :: undefA :: undefA :: undefA :: undefA :: undefA :: undefA :: undefA :: undefA :: undefA :: undefA :: undefA :: undefA :: undefA :: undefA :: undefA :: undefA :: undefA :: undefA :: undefA :: undefA :: undefA :: undefA :: undefA :: undefA :: undefA :: undefA :: undefA :: undefA :: undefA :: undefA :: undefA :: undefA :: undefA :: undefA :: undefA :: undefA :: undefA :: undefA :: undefA :: undefA :: undefA :: undefA :: undefA :: undefA :: undefA :: undefA :: undefA :: undefA :: undefA :: undefA :: undefA :: undefA :: undefA :: undefA :: undefA :: undefA :: undefA :: undefA :: undefA :: undefA :: undefA :: undefA :: undefA :: undefA :: undefA :: undefA :: undefA :: undefA :: undefA :: undefA :: undefA :: undefA :: undefA :: undefA :: undefA :: undefA :: undefA :: undefA :: undefA :: undefA :: undefA :: undefA :: undefA :: undefA :: undefA :: undefA :: undefA :: undefA :: undefA :: undefA :: undefA :: undefA :: undefA :: [], h⟩
noncomputable def L_ops_Decode_9 (call : CallF) (h : Heap) (v4 v7 v10 v45 v46 v47 : Value) : R := iterW (runF Try.prog call keep_ops_Decode c_ops_Decode_bbbbbbabkl) (maskS (keep_ops_Decode 9)) ⟨undefA :: undefA :: undefA :: undefA :: v4 :: undefA :: undefA :: v7 :: undefA :: undefA :: v10 :: undefA :: undefA :: undefA :: undefA :: undefA :: undefA :: undefA :: undefA :: undefA :: undefA :: undefA :: undefA :: undefA :: undefA :: undefA :: undefA :: undefA :: undefA :: undefA :: undefA :: undefA :: undefA :: undefA :: undefA :: undefA :: undefA :: undefA :: undefA :: undefA :: undefA :: undefA :: undefA :: undefA :: undefA :: v45 :: v46 :: v47 :: undefA :: undefA :: undefA :: undefA :: undefA :: undefA :: undefA :: undefA :: undefA :: undefA :: undefA :: undefA :: undefA :: undefA :: undefA :: undefA :: undefA :: undefA :: undefA :: undefA :: undefA :: undefA :: undefA :: undefA :: undefA :: undefA :: undefA :: undefA :: undefA :: undefA :: undefA :: undefA :: undefA :: undefA :: undefA :: undefA :: undefA :: undefA :: undefA :: undefA :: undefA :: undefA :: undefA :: undefA :: undefA :: undefA :: undefA :: undefA :: undefA :: undefA :: undefA :: undefA :: undefA :: undefA :: undefA :: undefA :: undefA :: undefA :: undefA :: undefA :: undefA :: undefA :: undefA :: undefA :: undefA :: undefA :: undefA :: undefA :: undefA :: undefA :: undefA :: undefA :: [], h⟩ (kBlk 0 (fSeq Try.prog call keep_ops_Decode c_ops_Decode_bbbbbbb k_ops_Decode))
noncomputable def J_ops_Decode_15 (call : CallF) (h : Heap) (v4 v7 v10 : Value) : R := fSeq Try.prog call keep_ops_Decode c_ops_Decode_bbbbbbb k_ops_Decode Ex.normal ⟨undefA :: undefA :: undefA :: undefA :: v4 :: undefA :: undefA :: v7 :: undefA :: undefA :: v10 :: undefA :: undefA :: undefA :: undefA :: undefA :: undefA :: undefA :: undefA :: undefA :: undefA :: undefA :: undefA :: undefA :: undefA :: undefA :: undefA :: undefA :: undefA :: undefA :: undefA :: undefA :: undefA :: undefA :: undefA :: undefA :: undefA :: undefA :: undefA :: undefA :: undefA :: undefA :: undefA :: undefA :: undefA :: undefA :: undefA :: undefA :: undefA :: undefA :: undefA :: undefA :: undefA :: undefA :: undefA :: undefA :: undefA :: undefA :: undefA :: undefA :: undefA :: undefA :: undefA :: undefA :: undefA :: undefA :: undefA :: undefA :: undefA :: undefA :: undefA :: undefA :: undefA :: undefA :: undefA :: undefA :: undefA :: undefA :: undefA :: undefA :: undefA :: undefA :: undefA :: undefA :: undefA :: undefA :: undefA :: undefA :: undefA :: undefA :: undefA :: undefA :: undefA :: undefA :: undefA :: undefA :: undefA :: undefA :: undefA :: undefA :: undefA :: undefA :: undefA :: undefA :: undefA :: undefA :: undefA :: undefA :: undefA :: undefA :: undefA :: undefA :: undefA :: undefA :: undefA :: undefA :: undefA :: undefA :: undefA :: undefA :: [], h⟩
noncomputable def L_ops_Decode_18 (call : CallF) (h : Heap) (v4 v7 v10 v13 v14 v15 : Value) : R := iterW (runF Try.prog call keep_ops_Decode c_ops_Decode_bbbbbbbabtbabkl) (maskS (keep_ops_Decode 18)) ⟨undefA :: undefA :: undefA :: undefA :: v4 :: undefA :: undefA :: v7 :: undefA :: undefA :: v10 :: undefA :: undefA :: v13 :: v14 :: v15 :: undefA :: undefA :: undefA :: undefA :: undefA :: undefA :: undefA :: undefA :: undefA :: undefA :: undefA :: undefA :: undefA :: undefA :: undefA :: undefA :: undefA :: undefA :: undefA :: undefA :: undefA :: undefA :: undefA :: undefA :: undefA :: undefA :: undefA :: undefA :: undefA :: undefA :: undefA :: undefA :: undefA :: undefA :: undefA :: undefA :: undefA :: undefA :: undefA :: undefA :: undefA :: undefA :: undefA :: undefA :: undefA :: undefA :: undefA :: undefA :: undefA :: undefA :: undefA :: undefA :: undefA :: undefA :: undefA :: undefA :: undefA :: undefA :: undefA :: undefA :: undefA :: undefA :: undefA :: undefA :: undefA :: undefA :: undefA :: undefA :: undefA :: undefA :: undefA :: undefA :: undefA :: undefA :: undefA :: undefA :: undefA :: undefA :: undefA :: undefA :: undefA :: undefA :: undefA :: undefA :: undefA :: undefA :: undefA :: undefA :: undefA :: undefA :: undefA :: undefA :: undefA :: undefA :: undefA :: undefA :: undefA :: undefA :: undefA :: undefA :: undefA :: undefA :: undefA :: undefA :: [], h⟩ (kBlk 2 (fSeq Try.prog call keep_ops_Decode c_ops_Decode_bbbbbbbabtbb (fSeq Try.prog call keep_ops_Decode c_ops_Decode_bbbbbbbb k_ops_Decode)))
noncomputable def J_ops_Decode_23 (call : CallF) (h : Heap) (v4 v7 v10 : Value) : R := fSeq Try.prog call keep_ops_Decode c_ops_Decode_bbbbbbbb k_ops_Decode Ex.normal ⟨undefA :: undefA :: undefA :: undefA :: v4 :: undefA :: undefA :: v7 :: undefA :: undefA :: v10 :: undefA :: undefA :: undefA :: undefA :: undefA :: undefA :: undefA :: undefA :: undefA :: undefA :: undefA :: undefA :: undefA :: undefA :: undefA :: undefA :: undefA :: undefA :: undefA :: undefA :: undefA :: undefA :: undefA :: undefA :: undefA :: undefA :: undefA :: undefA :: undefA :: undefA :: undefA :: undefA :: undefA :: undefA :: undefA :: undefA :: undefA :: undefA :: undefA :: undefA :: undefA :: undefA :: undefA :: undefA :: undefA :: undefA :: undefA :: undefA :: undefA :: undefA :: undefA :: undefA :: undefA :: undefA :: undefA :: undefA :: undefA :: undefA :: undefA :: undefA :: undefA :: undefA :: undefA :: undefA :: undefA :: undefA :: undefA :: undefA :: undefA :: undefA :: undefA :: undefA :: undefA :: undefA :: undefA :: undefA :: undefA :: undefA :: undefA :: undefA :: undefA :: undefA :: undefA :: undefA :: undefA :: undefA :: undefA :: undefA :: undefA :: undefA :: undefA :: undefA :: undefA :: undefA :: undefA :: undefA :: undefA :: undefA :: undefA :: undefA :: undefA :: undefA :: undefA :: undefA :: undefA :: undefA :: undefA :: undefA :: undefA :: [], h⟩
noncomputable def J_ops_Decode_22 (call : CallF) (h : Heap) (v4 v7 v10 v13 : Value) : R := fSeq Try.prog call keep_ops_Decode c_ops_Decode_bbbbbbbabtbb (fSeq Try.prog call keep_ops_Decode c_ops_Decode_bbbbbbbb k_ops_Decode) Ex.normal ⟨undefA :: undefA :: undefA :: undefA :: v4 :: undefA :: undefA :: v7 :: undefA :: undefA :: v10 :: undefA :: undefA :: v13 :: undefA :: undefA :: undefA :: undefA :: undefA :: undefA :: undefA :: undefA :: undefA :: undefA :: undefA :: undefA :: undefA :: undefA :: undefA :: undefA :: undefA :: undefA :: undefA :: undefA :: undefA :: undefA :: undefA :: undefA :: undefA :: undefA :: undefA :: undefA :: undefA :: undefA :: undefA :: undefA :: undefA :: undefA :: undefA :: undefA :: undefA :: undefA :: undefA :: undefA :: undefA :: undefA :: undefA :: undefA :: undefA :: undefA :: undefA :: undefA :: undefA :: undefA :: undefA :: undefA :: undefA :: undefA :: undefA :: undefA :: undefA :: undefA :: undefA :: undefA :: undefA :: undefA :: undefA :: undefA :: undefA :: undefA :: undefA :: undefA :: undefA :: undefA :: undefA :: undefA :: undefA :: undefA :: undefA :: undefA :: undefA :: undefA :: undefA :: undefA :: undefA :: undefA :: undefA :: undefA :: undefA :: undefA :: undefA :: undefA :: undefA :: undefA :: undefA :: undefA :: undefA :: undefA :: undefA :: undefA :: undefA :: undefA :: undefA :: undefA :: undefA :: undefA :: undefA :: undefA :: undefA :: undefA :: [], h⟩
noncomputable def J_ops_Decode_1000003_b (call : CallF) (h : Heap) (v0 v1 v4 v24 : Value) : R :=
condF v24 (
obnd (aBuild Try.prog T_api_Instr []) fun x6 =>
obnd (aStore Try.prog T_api_Instr v4 x6 h) fun h7 =>
k_ops_Decode .ret ⟨v0 :: v1 :: undefA :: undefA :: v4 :: (Go.Value.int Go.IntKind.i64 0) :: (Go.Value.int Go.IntKind.i64 2) :: undefA :: undefA :: undefA :: undefA :: undefA :: undefA :: undefA :: undefA :: undefA :: undefA :: undefA :: undefA :: undefA :: undefA :: undefA :: undefA :: undefA :: v24 :: x6 :: undefA :: undefA :: undefA :: undefA :: undefA :: undefA :: undefA :: undefA :: undefA :: undefA :: undefA :: undefA :: undefA :: undefA :: undefA :: undefA :: undefA :: undefA :: undefA :: undefA :: undefA :: undefA :: undefA :: undefA :: undefA :: undefA :: undefA :: undefA :: undefA :: undefA :: undefA :: undefA :: undefA :: undefA :: undefA :: undefA :: undefA :: undefA :: undefA :: undefA :: undefA :: undefA :: undefA :: undefA :: undefA :: undefA :: undefA :: undefA :: undefA :: undefA :: undefA :: undefA :: undefA :: undefA :: undefA :: undefA :: undefA :: undefA :: undefA :: undefA :: undefA :: undefA :: undefA :: undefA :: undefA :: undefA :: undefA :: undefA :: undefA :: undefA :: undefA :: undefA :: undefA :: undefA :: undefA :: undefA :: undefA :: undefA :: undefA :: undefA :: undefA :: undefA :: undefA :: undefA :: undefA :: undefA :: undefA :: undefA :: undefA :: undefA :: undefA :: undefA :: undefA :: undefA :: [], h7⟩) (
obnd (aIndexAddr Try.prog T_Suint8 v0 v1) fun x8 =>
obnd (aLoad Try.prog T_uint8 h x8) fun x9 =>
obnd (aBuild Try.prog T_api_Instr [(0, x9)]) fun x10 =>
anew (mkAlloc Try.prog T_api_Instr) h fun p11 h12 =>
obnd (aStore Try.prog T_api_Instr p11 x10 h12) fun h13 =>
obnd (aFieldAddr Try.prog T_api_Instr p11 0) fun x14 =>
obnd (aLoad Try.prog T_uint8 h13 x14) fun x15 =>
retK (call fn_ops_layout [x15] h13) (fun x16 h17 =>
obnd (aExtract x16 0) fun x20 =>
obnd (aExtract x16 1) fun x21 =>
obnd (aUn Try.prog Go.UnOp.not x21) fun x22 =>
condF x22 (
obnd (aBuild Try.prog T_api_Instr []) fun x23 =>
obnd (aStore Try.prog T_api_Instr v4 x23 h17) fun h24 =>
k_ops_Decode .ret ⟨v0 :: v1 :: undefA :: undefA :: v4 :: (Go.Value.int Go.IntKind.i64 0) :: (Go.Value.int Go.IntKind.i64 120) :: p11 :: x20 :: x21 :: undefA :: undefA :: undefA :: undefA :: undefA :: undefA :: undefA :: undefA :: undefA :: undefA :: undefA :: undefA :: undefA :: undefA :: v24 :: undefA :: v0 :: v1 :: x8 :: x9 :: x10 :: x16 :: x14 :: x15 :: x16 :: x20 :: x21 :: x21 :: x22 :: x23 :: undefA :: undefA :: undefA :: undefA :: undefA :: undefA :: undefA :: undefA :: undefA :: undefA :: undefA :: undefA :: undefA :: undefA :: undefA :: undefA :: undefA :: undefA :: undefA :: undefA :: undefA :: undefA :: undefA :: undefA :: undefA :: undefA :: undefA :: undefA :: undefA :: undefA :: undefA :: undefA :: undefA :: undefA :: undefA :: undefA :: undefA :: undefA :: undefA :: undefA :: undefA :: undefA :: undefA :: undefA :: undefA :: undefA :: undefA :: undefA :: undefA :: undefA :: undefA :: undefA :: undefA :: undefA :: undefA :: undefA :: undefA :: undefA :: undefA :: undefA :: undefA :: undefA :: undefA :: undefA :: undefA :: undefA :: undefA :: undefA :: undefA :: undefA :: undefA :: undefA :: undefA :: undefA :: undefA :: undefA :: undefA :: undefA :: undefA :: undefA :: [], h24⟩) (
obnd (aBin Try.prog Go.BinOp.add T_int v1 (Go.Value.int Go.IntKind.i64 1) (Go.Operand.tmp 41) (Go.Operand.const (Go.Value.int Go.IntKind.i64 1))) fun x25 =>
obnd (aBuild Try.prog T_ops_reader [(0, v0), (1, x25)]) fun x26 =>
anew (mkBox T_ops_reader x26) h17 fun p27 h28 =>
obnd (aLen Try.prog T_Sops_field x20) fun x29 =>
L_ops_Decode_9 call h28 v4 p11 p27 x20 x29 (Go.Value.int Go.IntKind.i64 0))) (fun x18 h19 => some (Ret.pan x18, h19)))
theorem J_ops_Decode_1000003_wp {call : CallF} {h : Heap} {v0 v1 v4 v24 : Value} {Q : Ret → Heap → Prop} (hr : WP (J_ops_Decode_1000003_b call h v0 v1 v4 v24) Q) : WP (J_ops_Decode_1000003 call h v0 v1 v4 v24) Q := wp_eq (by kernel_rfl) hr
noncomputable def L_ops_Decode_9_b (call : CallF) (h : Heap) (v4 v7 v10 v45 v46 v47 : Value) : R :=
obnd (aBin Try.prog Go.BinOp.lss T_int v47 v46 (Go.Operand.tmp 47) (Go.Operand.tmp 46)) fun x30 =>
condF x30 (
obnd (aIndexAddr Try.prog T_Sops_field v45 v47) fun x31 =>
obnd (aLoad Try.prog T_ops_field h x31) fun x32 =>
anew (mkAlloc Try.prog T_ops_field) h fun p33 h34 =>
obnd (aStore Try.prog T_ops_field p33 x32 h34) fun h35 =>
obnd (aBin Try.prog Go.BinOp.eql T_int v47 (Go.Value.int Go.IntKind.i64 0) (Go.Operand.tmp 52) (Go.Operand.const (Go.Value.int Go.IntKind.i64 0))) fun x36 =>
condF x36 (
obnd (aLoad Try.prog T_ops_field h35 p33) fun x37 =>
retK (call fn_ops_reader_read [v10, x37] h35) (fun x38 h39 =>
obnd (aFieldAddr Try.prog T_api_Instr v7 1) fun x42 =>
obnd (aStore Try.prog T_int64 x42 x38 h39) fun h43 =>
obnd (aBin Try.prog Go.BinOp.add T_int v47 (Go.Value.int Go.IntKind.i64 1) (Go.Operand.tmp 47) (Go.Operand.const (Go.Value.int Go.IntKind.i64 1))) fun x44 =>
L_ops_Decode_9 call h43 v4 v7 v10 v45 v46 x44) (fun x40 h41 => some (Ret.pan x40, h41))) (
obnd (aLoad Try.prog T_ops_field h35 p33) fun x45 =>
retK (call fn_ops_reader_read [v10, x45] h35) (fun x46 h47 =>
obnd (aFieldAddr Try.prog T_api_Instr v7 2) fun x50 =>
obnd (aStore Try.prog T_int64 x50 x46 h47) fun h51 =>
obnd (aBin Try.prog Go.BinOp.add T_int v47 (Go.Value.int Go.IntKind.i64 1) (Go.Operand.tmp 47) (Go.Operand.const (Go.Value.int Go.IntKind.i64 1))) fun x52 =>
L_ops_Decode_9 call h51 v4 v7 v10 v45 v46 x52) (fun x48 h49 => some (Ret.pan x48, h49)))) (
J_ops_Decode_15 call h v4 v7 v10)
theorem L_ops_Decode_9_wp {call : CallF} {h : Heap} {v4 v7 v10 v45 v46 v47 : Value} {Q : Ret → Heap → Prop} (hr : WP (L_ops_Decode_9_b call h v4 v7 v10 v45 v46 v47) Q) : WP (L_ops_Decode_9 call h v4 v7 v10 v45 v46 v47) Q :=
  wp_step (fun x hx => iterW_round (runF_tail c_ops_Decode_bbbbbbabkl) ((Eq.trans (by kernel_rfl) hx : runF Try.prog call keep_ops_Decode c_ops_Decode_bbbbbbabkl ⟨undefA :: undefA :: undefA :: undefA :: v4 :: undefA :: undefA :: v7 :: undefA :: undefA :: v10 :: undefA :: undefA :: undefA :: undefA :: undefA :: undefA :: undefA :: undefA :: undefA :: undefA :: undefA :: undefA :: undefA :: undefA :: undefA :: undefA :: undefA :: undefA :: undefA :: undefA :: undefA :: undefA :: undefA :: undefA :: undefA :: undefA :: undefA :: undefA :: undefA :: undefA :: undefA :: undefA :: undefA :: undefA :: v45 :: v46 :: v47 :: undefA :: undefA :: undefA :: undefA :: undefA :: undefA :: undefA :: undefA :: undefA :: undefA :: undefA :: undefA :: undefA :: undefA :: undefA :: undefA :: undefA :: undefA :: undefA :: undefA :: undefA :: undefA :: undefA :: undefA :: undefA :: undefA :: undefA :: undefA :: undefA :: undefA :: undefA :: undefA :: undefA :: undefA :: undefA :: undefA :: undefA :: undefA :: undefA :: undefA :: undefA :: undefA :: undefA :: undefA :: undefA :: undefA :: undefA :: undefA :: undefA :: undefA :: undefA :: undefA :: undefA :: undefA :: undefA :: undefA :: undefA :: undefA :: undefA :: undefA :: undefA :: undefA :: undefA :: undefA :: undefA :: undefA :: undefA :: undefA :: undefA :: undefA :: undefA :: undefA :: [], h⟩ (fLoop Try.prog call keep_ops_Decode c_ops_Decode_bbbbbbabkl (kBlk 0 (fSeq Try.prog call keep_ops_Decode c_ops_Decode_bbbbbbb k_ops_Decode))) = some x))) hr
noncomputable def J_ops_Decode_15_b (call : CallF) (h : Heap) (v4 v7 v10 : Value) : R :=
obnd (aFieldAddr Try.prog T_api_Instr v7 0) fun x53 =>
obnd (aLoad Try.prog T_uint8 h x53) fun x54 =>
obnd (aBin Try.prog Go.BinOp.eql T_uint8 x54 (Go.Value.int Go.IntKind.u8 49) (Go.Operand.tmp 64) (Go.Operand.const (Go.Value.int Go.IntKind.u8 49))) fun x55 =>
condF x55 (
retK (call fn_ops_between [(Go.Value.int Go.IntKind.i64 0), (Go.Value.int Go.IntKind.i64 4294967295)] (h ++ List.replicate 2 deadBlk)) (fun x56 h57 =>
obnd (aBuild Try.prog T_ops_field [(0, (Go.Value.int Go.IntKind.i64 4)), (1, x56)]) fun x60 =>
obnd (aFieldAddr Try.prog T_api_Instr v7 1) fun x61 =>
chkRd [h.length + 0, h.length + 1] [(h ++ List.replicate 2 deadBlk)] h57 (obnd (aLoad Try.prog T_int64 h57 x61) fun x62 =>
obnd (aConv Try.prog T_int64 T_uint8 x62) fun x63 =>
retK (call fn_ops_fits [x63] h57) (fun x64 h65 =>
obnd (aBuild Try.prog T_ops_field [(0, (Go.Value.int Go.IntKind.i64 8)), (1, x64)]) fun x68 =>
aput (mkAlloc Try.prog T_ops_field) (h.length + 0) h65 fun p69 h70 =>
aput (mkAlloc Try.prog T_ops_field) (h.length + 1) h70 fun p71 h72 =>
obnd (aStore Try.prog T_ops_field p69 x60 h72) fun h73 =>
obnd (aStore Try.prog T_ops_field p71 x68 h73) fun h74 =>
retK (call fn_ops_between [(Go.Value.int Go.IntKind.i64 0), (Go.Value.int Go.IntKind.i64 65535)] h74) (fun x75 h76 =>
obnd (aBuild Try.prog T_ops_field [(0, (Go.Value.int Go.IntKind.i64 2)), (1, x75)]) fun x79 =>
retK (call fn_ops_reader_read [v10, x79] h76) (fun x80 h81 =>
L_ops_Decode_18 call h81 v4 v7 v10 p69 p71 x80) (fun x82 h83 => some (Ret.pan x82, h83))) (fun x77 h78 => some (Ret.pan x77, h78))) (fun x66 h67 => aput (mkAlloc Try.prog T_ops_field) (h.length + 0) h67 fun p84 h85 =>
aput (mkAlloc Try.prog T_ops_field) (h.length + 1) h85 fun p86 h87 =>
some (Ret.pan x66, (killSlots h.length 2 h87)))) (blkOf x61)) (fun x58 h59 => obnd (aFieldAddr Try.prog T_api_Instr v7 1) fun x88 =>
chkRd [h.length + 0, h.length + 1] [(h ++ List.replicate 2 deadBlk)] h59 (obnd (aLoad Try.prog T_int64 h59 x88) fun x89 =>
obnd (aConv Try.prog T_int64 T_uint8 x89) fun x90 =>
aput (mkAlloc Try.prog T_ops_field) (h.length + 0) h59 fun p91 h92 =>
aput (mkAlloc Try.prog T_ops_field) (h.length + 1) h92 fun p93 h94 =>
some (Ret.pan x58, (killSlots h.length 2 h94))) (blkOf x88))) (
J_ops_Decode_23 call h v4 v7 v10)
theorem J_ops_Decode_15_wp {call : CallF} {h : Heap} {v4 v7 v10 : Value} {Q : Ret → Heap → Prop} (hr : WP (J_ops_Decode_15_b call h v4 v7 v10) Q) : WP (J_ops_Decode_15 call h v4 v7 v10) Q := wp_eq (by kernel_rfl) hr
noncomputable def L_ops_Decode_18_b (call : CallF) (h : Heap) (v4 v7 v10 v13 v14 v15 : Value) : R :=
obnd (aBin Try.prog Go.BinOp.gtr T_int64 v15 (Go.Value.int Go.IntKind.i64 0) (Go.Operand.tmp 77) (Go.Operand.const (Go.Value.int Go.IntKind.i64 0))) fun x95 =>
guardV3 x95 (
obnd (aNilCheck v10) fun x96 =>
obnd (aFieldAddr Try.prog T_ops_reader x96 2) fun x97 =>
obnd (aLoad Try.prog T_api_Errno h x97) fun x98 =>
obnd (aBin Try.prog Go.BinOp.eql T_api_Errno x98 (Go.Value.int Go.IntKind.i64 0) (Go.Operand.tmp 83) (Go.Operand.const (Go.Value.int Go.IntKind.i64 0))) fun x99 =>
condF x99 (
obnd (aLoad Try.prog T_ops_field h v14) fun x100 =>
retK (call fn_ops_reader_read [v10, x100] h) (fun x101 h102 =>
obnd (aFieldAddr Try.prog T_api_Instr v7 3) fun x105 =>
chkRd [h102.length + 0] [] (h102 ++ List.replicate 1 deadBlk) (obnd (aLoad Try.prog T_Sapi_Arm (h102 ++ List.replicate 1 deadBlk) x105) fun x106 =>
chkRd [h102.length + 0] [] (h102 ++ List.replicate 1 deadBlk) (obnd (aLoad Try.prog T_ops_field (h102 ++ List.replicate 1 deadBlk) v13) fun x107 =>
retK (call fn_ops_reader_read [v10, x107] (h102 ++ List.replicate 1 deadBlk)) (fun x108 h109 =>
chkActs [((blkOf x105), (h102 ++ List.replicate 1 deadBlk))] h109 (obnd (aBuild Try.prog T_api_Arm [(0, x101), (1, x108)]) fun x112 =>
aput (mkLit Try.prog T_Sapi_Arm 1 [(0, x112)]) (h102.length + 0) h109 fun p113 h114 =>
obnd (aAppend Try.prog T_Sapi_Arm T_Sapi_Arm x106 p113 h114) fun r116 =>
obnd (aFieldAddr Try.prog T_api_Instr v7 3) fun x117 =>
obnd (aStore Try.prog T_Sapi_Arm x117 r116.1 r116.2) fun h118 =>
obnd (aBin Try.prog Go.BinOp.sub T_int64 v15 (Go.Value.int Go.IntKind.i64 1) (Go.Operand.tmp 86) (Go.Operand.const (Go.Value.int Go.IntKind.i64 1))) fun x119 =>
L_ops_Decode_18 call h118 v4 v7 v10 v13 v14 x119)) (fun x110 h111 => chkActs [((blkOf x105), (h102 ++ List.replicate 1 deadBlk))] h111 (some (Ret.pan x110, (killSlots h102.length 1 h111))))) (blkOf v13)) (blkOf x105)) (fun x103 h104 => some (Ret.pan x103, h104))) (
J_ops_Decode_22 call h v4 v7 v10 v13)) (
J_ops_Decode_22 call h v4 v7 v10 v13) (
none)
theorem L_ops_Decode_18_wp {call : CallF} {h : Heap} {v4 v7 v10 v13 v14 v15 : Value} {Q : Ret → Heap → Prop} (hr : WP (L_ops_Decode_18_b call h v4 v7 v10 v13 v14 v15) Q) : WP (L_ops_Decode_18 call h v4 v7 v10 v13 v14 v15) Q :=
  wp_step (fun x hx => iterW_round (runF_tail c_ops_Decode_bbbbbbbabtbabkl) ((Eq.trans (by kernel_rfl) hx : runF Try.prog call keep_ops_Decode c_ops_Decode_bbbbbbbabtbabkl ⟨undefA :: undefA :: undefA :: undefA :: v4 :: undefA :: undefA :: v7 :: undefA :: undefA :: v10 :: undefA :: undefA :: v13 :: v14 :: v15 :: undefA :: undefA :: undefA :: undefA :: undefA :: undefA :: undefA :: undefA :: undefA :: undefA :: undefA :: undefA :: undefA :: undefA :: undefA :: undefA :: undefA :: undefA :: undefA :: undefA :: undefA :: undefA :: undefA :: undefA :: undefA :: undefA :: undefA :: undefA :: undefA :: undefA :: undefA :: undefA :: undefA :: undefA :: undefA :: undefA :: undefA :: undefA :: undefA :: undefA :: undefA :: undefA :: undefA :: undefA :: undefA :: undefA :: undefA :: undefA :: undefA :: undefA :: undefA :: undefA :: undefA :: undefA :: undefA :: undefA :: undefA :: undefA :: undefA :: undefA :: undefA :: undefA :: undefA :: undefA :: undefA :: undefA :: undefA :: undefA :: undefA :: undefA :: undefA :: undefA :: undefA :: undefA :: undefA :: undefA :: undefA :: undefA :: undefA :: undefA :: undefA :: undefA :: undefA :: undefA :: undefA :: undefA :: undefA :: undefA :: undefA :: undefA :: undefA :: undefA :: undefA :: undefA :: undefA :: undefA :: undefA :: undefA :: undefA :: undefA :: undefA :: undefA :: undefA :: undefA :: [], h⟩ (fLoop Try.prog call keep_ops_Decode c_ops_Decode_bbbbbbbabtbabkl (kBlk 2 (fSeq Try.prog call keep_ops_Decode c_ops_Decode_bbbbbbbabtbb (fSeq Try.prog call keep_ops_Decode c_ops_Decode_bbbbbbbb k_ops_Decode)))) = some x))) hr
noncomputable def J_ops_Decode_23_b (call : CallF) (h : Heap) (v4 v7 v10 : Value) : R :=
obnd (aNilCheck v10) fun x120 =>
obnd (aFieldAddr Try.prog T_ops_reader x120 2) fun x121 =>
obnd (aLoad Try.prog T_api_Errno h x121) fun x122 =>
obnd (aBin Try.prog Go.BinOp.neq T_api_Errno x122 (Go.Value.int Go.IntKind.i64 0) (Go.Operand.tmp 108) (Go.Operand.const (Go.Value.int Go.IntKind.i64 0))) fun x123 =>
condF x123 (
obnd (aBuild Try.prog T_api_Instr []) fun x124 =>
obnd (aNilCheck v10) fun x125 =>
obnd (aFieldAddr Try.prog T_ops_reader x125 2) fun x126 =>
obnd (aLoad Try.prog T_api_Errno h x126) fun x127 =>
obnd (aStore Try.prog T_api_Instr v4 x124 h) fun h128 =>
chkActs [((blkOf x126), h)] h128 (k_ops_Decode .ret ⟨undefA :: undefA :: undefA :: undefA :: v4 :: (Go.Value.int Go.IntKind.i64 0) :: x127 :: v7 :: undefA :: undefA :: v10 :: undefA :: undefA :: undefA :: undefA :: undefA :: undefA :: undefA :: undefA :: undefA :: undefA :: undefA :: undefA :: undefA :: undefA :: undefA :: undefA :: undefA :: undefA :: undefA :: undefA :: undefA :: undefA :: undefA :: undefA :: undefA :: undefA :: undefA :: undefA :: undefA :: undefA :: undefA :: undefA :: undefA :: undefA :: undefA :: undefA :: undefA :: undefA :: undefA :: undefA :: undefA :: undefA :: undefA :: undefA :: undefA :: undefA :: undefA :: undefA :: undefA :: undefA :: undefA :: undefA :: undefA :: undefA :: undefA :: undefA :: undefA :: undefA :: undefA :: undefA :: undefA :: undefA :: undefA :: undefA :: undefA :: undefA :: undefA :: undefA :: undefA :: undefA :: undefA :: undefA :: undefA :: undefA :: undefA :: undefA :: undefA :: undefA :: undefA :: undefA :: undefA :: undefA :: undefA :: undefA :: undefA :: undefA :: undefA :: undefA :: undefA :: undefA :: undefA :: undefA :: undefA :: undefA :: v10 :: x120 :: x121 :: x122 :: x123 :: x124 :: v10 :: x125 :: x126 :: x127 :: undefA :: undefA :: undefA :: undefA :: undefA :: [], h128⟩)) (
obnd (aLoad Try.prog T_api_Instr h v7) fun x129 =>
obnd (aNilCheck v10) fun x130 =>
obnd (aFieldAddr Try.prog T_ops_reader x130 1) fun x131 =>
obnd (aLoad Try.prog T_int h x131) fun x132 =>
obnd (aStore Try.prog T_api_Instr v4 x129 h) fun h133 =>
chkActs [((blkOf x131), h)] h133 (k_ops_Decode .ret ⟨undefA :: undefA :: undefA :: undefA :: v4 :: x132 :: (Go.Value.int Go.IntKind.i64 0) :: v7 :: undefA :: undefA :: v10 :: undefA :: undefA :: undefA :: undefA :: undefA :: undefA :: undefA :: undefA :: undefA :: undefA :: undefA :: undefA :: undefA :: undefA :: undefA :: undefA :: undefA :: undefA :: undefA :: undefA :: undefA :: undefA :: undefA :: undefA :: undefA :: undefA :: undefA :: undefA :: undefA :: undefA :: undefA :: undefA :: undefA :: undefA :: undefA :: undefA :: undefA :: undefA :: undefA :: undefA :: undefA :: undefA :: undefA :: undefA :: undefA :: undefA :: undefA :: undefA :: undefA :: undefA :: undefA :: undefA :: undefA :: undefA :: undefA :: undefA :: undefA :: undefA :: undefA :: undefA :: undefA :: undefA :: undefA :: undefA :: undefA :: undefA :: undefA :: undefA :: undefA :: undefA :: undefA :: undefA :: undefA :: undefA :: undefA :: undefA :: undefA :: undefA :: undefA :: undefA :: undefA :: undefA :: undefA :: undefA :: undefA :: undefA :: undefA :: undefA :: undefA :: undefA :: undefA :: undefA :: undefA :: undefA :: v10 :: x120 :: x121 :: x122 :: x123 :: undefA :: undefA :: undefA :: undefA :: undefA :: x129 :: v10 :: x130 :: x131 :: x132 :: [], h133⟩))
theorem J_ops_Decode_23_wp {call : CallF} {h : Heap} {v4 v7 v10 : Value} {Q : Ret → Heap → Prop} (hr : WP (J_ops_Decode_23_b call h v4 v7 v10) Q) : WP (J_ops_Decode_23 call h v4 v7 v10) Q := wp_eq (by kernel_rfl) hr
noncomputable def J_ops_Decode_22_b (call : CallF) (h : Heap) (v4 v7 v10 v13 : Value) : R :=
obnd (aLoad Try.prog T_ops_field h v13) fun x134 =>
retK (call fn_ops_reader_read [v10, x134] h) (fun x135 h136 =>
obnd (aFieldAddr Try.prog T_api_Instr v7 2) fun x139 =>
obnd (aStore Try.prog T_int64 x139 x135 h136) fun h140 =>
J_ops_Decode_23 call h140 v4 v7 v10) (fun x137 h138 => some (Ret.pan x137, h138))
theorem J_ops_Decode_22_wp {call : CallF} {h : Heap} {v4 v7 v10 v13 : Value} {Q : Ret → Heap → Prop} (hr : WP (J_ops_Decode_22_b call h v4 v7 v10 v13) Q) : WP (J_ops_Decode_22 call h v4 v7 v10 v13) Q := wp_eq (by kernel_rfl) hr
noncomputable def B_ops_Decode (call : CallF) (h : Heap) (v0 v1 : Value) : R :=
anew (mkAlloc Try.prog T_api_Instr) h fun p1 h2 =>
obnd (aBin Try.prog Go.BinOp.lss T_int v1 (Go.Value.int Go.IntKind.i64 0) (Go.Operand.tmp 17) (Go.Operand.const (Go.Value.int Go.IntKind.i64 0))) fun x3 =>
guardV3 x3 (
J_ops_Decode_1000003 call h2 v0 v1 p1 (Go.Value.bool true)) (
obnd (aLen Try.prog T_Suint8 v0) fun x4 =>
obnd (aBin Try.prog Go.BinOp.geq T_int v1 x4 (Go.Operand.tmp 20) (Go.Operand.tmp 22)) fun x5 =>
J_ops_Decode_1000003 call h2 v0 v1 p1 x5) (
none)
theorem R_ops_Decode {call : CallF} {h : Heap} {v0 v1 : Value} {Q : Ret → Heap → Prop} (hr : WP (B_ops_Decode call h v0 v1) Q) : WP (runF Try.prog call keep_ops_Decode c_ops_Decode ⟨[v0, v1] ++ List.replicate (Try.f19.ntmps - 2) undefA, h⟩ k_ops_Decode) Q := wp_eq (by kernel_rfl) hr
theorem kr_ops_Decode {tm : List Value} {h : Heap} {a4 a5 a6 r4 : Value} {Q : Ret → Heap → Prop} (e4 : tm[4]? = some a4) (e5 : tm[5]? = some a5) (e6 : tm[6]? = some a6) (l4 : aLoad Try.prog T_api_Instr h a4 = some r4) (hq : Q (.ret (Value.tuple ⟨[r4, a5, a6]⟩)) h) : WP (k_ops_Decode .ret ⟨tm, h⟩) Q :=
  ⟨_, _, by
    have e : Try.f19.results.toList = [.cell 4 T_api_Instr, .tmp 5, .tmp 6] := by kernel_rfl
    simp only [k_ops_Decode, endK, e, resV, e4, e5, e6, l4, Option.bind_some, Option.map_some, retV], hq⟩
theorem F_ops_Decode {h : Heap} {v0 v1 : Value} {Q : Ret → Heap → Prop} (hr : WP (B_ops_Decode (callW E) h v0 v1) Q) : WP (callW E fn_ops_Decode [v0, v1] h) Q := wp_callW (fn := Try.f19) (c := c_ops_Decode) (kp := keep_ops_Decode) (by kernel_rfl) (by kernel_rfl) (by kernel_rfl) (by kernel_rfl) (by kernel_rfl) (R_ops_Decode hr)
/-! ### 20 trammel/trammelref12.All -/
noncomputable def c_trammelref12_All : Code := bodyOf Try.f20
noncomputable def k_trammelref12_All : Kt := endK Try.prog Try.f20
noncomputable def c_trammelref12_All_b : Code := sB c_trammelref12_All
noncomputable def c_trammelref12_All_bb : Code := sB c_trammelref12_All_b
noncomputable def c_trammelref12_All_bbb : Code := sB c_trammelref12_All_bb
noncomputable def c_trammelref12_All_bbbb : Code := sB c_trammelref12_All_bbb
noncomputable def c_trammelref12_All_bbba : Code := sA c_trammelref12_All_bbb
noncomputable def c_trammelref12_All_bbbab : Code := sB c_trammelref12_All_bbba
noncomputable def c_trammelref12_All_bbbabk : Code := sK c_trammelref12_All_bbbab
noncomputable def c_trammelref12_All_bbbabkl : Code := sL c_trammelref12_All_bbbabk
noncomputable def L_trammelref12_All_4 (call : CallF) (h : Heap) (v0 v5 v6 v7 : Value) : R := iterW (runF Try.prog call keep_trammelref12_All c_trammelref12_All_bbbabkl) (maskS (keep_trammelref12_All 4)) ⟨[v0, undefA, undefA, undefA, undefA, v5, v6, v7, undefA, undefA, undefA, undefA, undefA, undefA, undefA, undefA, undefA, undefA, undefA, undefA, undefA, undefA, undefA, undefA, undefA, undefA, undefA, undefA, undefA, undefA, undefA, undefA, undefA, undefA, undefA, undefA], h⟩ (kBlk 0 (fSeq Try.prog call keep_trammelref12_All c_trammelref12_All_bbbb k_trammelref12_All))
noncomputable def J_trammelref12_All_11 (call : CallF) (h : Heap) (v5 v6 : Value) : R := fSeq Try.prog call keep_trammelref12_All c_trammelref12_All_bbbb k_trammelref12_All Ex.normal ⟨[undefA, undefA, undefA, undefA, undefA, v5, v6, undefA, undefA, undefA, undefA, undefA, undefA, undefA, undefA, undefA, undefA, undefA, undefA, undefA, undefA, undefA, undefA, undefA, undefA, undefA, undefA, undefA, undefA, undefA, undefA, undefA, undefA, undefA, undefA, undefA], h⟩
noncomputable def L_trammelref12_All_4_b (call : CallF) (h : Heap) (v0 v5 v6 v7 : Value) : R :=
obnd (aLen Try.prog T_Suint8 v0) fun x1 =>
obnd (aBin Try.prog Go.BinOp.lss T_int v7 x1 (Go.Operand.tmp 11) (Go.Operand.tmp 13)) fun x2 =>
condF x2 (
retK (call fn_trammelref12_Decode [v0, v7] h) (fun x3 h4 =>
obnd (aExtract x3 0) fun x7 =>
obnd (aExtract x3 1) fun x8 =>
obnd (aExtract x3 2) fun x9 =>
anew (mkAlloc Try.prog T_api_Instr) h4 fun p10 h11 =>
obnd (aStore Try.prog T_api_Instr p10 x7 h11) fun h12 =>
obnd (aBin Try.prog Go.BinOp.neq T_api_Errno x9 (Go.Value.int Go.IntKind.i64 0) (Go.Operand.tmp 22) (Go.Operand.const (Go.Value.int Go.IntKind.i64 0))) fun x13 =>
condF x13 (
some (Ret.ret (Value.tuple ⟨[(Go.Value.slice none 0 0), (Go.Value.slice none 0 0), x9]⟩), h12)) (
obnd (aLoad Try.prog T_api_Instr h12 p10) fun x14 =>
anew (mkLit Try.prog T_Sapi_Instr 1 [(0, x14)]) h12 fun p15 h16 =>
obnd (aAppend Try.prog T_Sapi_Instr T_Sapi_Instr v5 p15 h16) fun r18 =>
anew (mkLit Try.prog T_Sint 1 [(0, v7)]) r18.2 fun p19 h20 =>
obnd (aAppend Try.prog T_Sint T_Sint v6 p19 h20) fun r22 =>
L_trammelref12_All_4 call r22.2 v0 r18.1 r22.1 x8)) (fun x5 h6 => some (Ret.pan x5, h6))) (
J_trammelref12_All_11 call h v5 v6)
theorem L_trammelref12_All_4_wp {call : CallF} {h : Heap} {v0 v5 v6 v7 : Value} {Q : Ret → Heap → Prop} (hr : WP (L_trammelref12_All_4_b call h v0 v5 v6 v7) Q) : WP (L_trammelref12_All_4 call h v0 v5 v6 v7) Q :=
  wp_step (fun x hx => iterW_round (runF_tail c_trammelref12_All_bbbabkl) ((Eq.trans (by kernel_rfl) hx : runF Try.prog call keep_trammelref12_All c_trammelref12_All_bbbabkl ⟨[v0, undefA, undefA, undefA, undefA, v5, v6, v7, undefA, undefA, undefA, undefA, undefA, undefA, undefA, undefA, undefA, undefA, undefA, undefA, undefA, undefA, undefA, undefA, undefA, undefA, undefA, undefA, undefA, undefA, undefA, undefA, undefA, undefA, undefA, undefA], h⟩ (fLoop Try.prog call keep_trammelref12_All c_trammelref12_All_bbbabkl (kBlk 0 (fSeq Try.prog call keep_trammelref12_All c_trammelref12_All_bbbb k_trammelref12_All))) = some x))) hr
noncomputable def J_trammelref12_All_11_b (call : CallF) (h : Heap) (v5 v6 : Value) : R :=
some (Ret.ret (Value.tuple ⟨[v5, v6, (Go.Value.int Go.IntKind.i64 0)]⟩), h)
theorem J_trammelref12_All_11_wp {call : CallF} {h : Heap} {v5 v6 : Value} {Q : Ret → Heap → Prop} (hr : WP (J_trammelref12_All_11_b call h v5 v6) Q) : WP (J_trammelref12_All_11 call h v5 v6) Q := wp_eq (by kernel_rfl) hr
noncomputable def B_trammelref12_All (call : CallF) (h : Heap) (v0 : Value) : R :=
L_trammelref12_All_4 call h v0 (Go.Value.slice none 0 0) (Go.Value.slice none 0 0) (Go.Value.int Go.IntKind.i64 0)
theorem R_trammelref12_All {call : CallF} {h : Heap} {v0 : Value} {Q : Ret → Heap → Prop} (hr : WP (B_trammelref12_All call h v0) Q) : WP (runF Try.prog call keep_trammelref12_All c_trammelref12_All ⟨[v0] ++ List.replicate (Try.f20.ntmps - 1) undefA, h⟩ k_trammelref12_All) Q := wp_eq (by kernel_rfl) hr
theorem F_trammelref12_All {h : Heap} {v0 : Value} {Q : Ret → Heap → Prop} (hr : WP (B_trammelref12_All (callW E) h v0) Q) : WP (callW E fn_trammelref12_All [v0] h) Q := wp_callW (fn := Try.f20) (c := c_trammelref12_All) (kp := keep_trammelref12_All) (by kernel_rfl) (by kernel_rfl) (by kernel_rfl) (by kernel_rfl) (by kernel_rfl) (R_trammelref12_All hr)
/-! ### 21 trammel/ops.All -/
noncomputable def c_ops_All : Code := bodyOf Try.f21
noncomputable def k_ops_All : Kt := endK Try.prog Try.f21
noncomputable def c_ops_All_b : Code := sB c_ops_All
noncomputable def c_ops_All_bb : Code := sB c_ops_All_b
noncomputable def c_ops_All_bbb : Code := sB c_ops_All_bb
noncomputable def c_ops_All_bbbb : Code := sB c_ops_All_bbb
noncomputable def c_ops_All_bbba : Code := sA c_ops_All_bbb
noncomputable def c_ops_All_bbbab : Code := sB c_ops_All_bbba
noncomputable def c_ops_All_bbbabk : Code := sK c_ops_All_bbbab
noncomputable def c_ops_All_bbbabkl : Code := sL c_ops_All_bbbabk
noncomputable def L_ops_All_4 (call : CallF) (h : Heap) (v0 v5 v6 v7 : Value) : R := iterW (runF Try.prog call keep_ops_All c_ops_All_bbbabkl) (maskS (keep_ops_All 4)) ⟨[v0, undefA, undefA, undefA, undefA, v5, v6, v7, undefA, undefA, undefA, undefA, undefA, undefA, undefA, undefA, undefA, undefA, undefA, undefA, undefA, undefA, undefA, undefA, undefA, undefA, undefA, undefA, undefA, undefA, undefA, undefA, undefA, undefA, undefA, undefA], h⟩ (kBlk 0 (fSeq Try.prog call keep_ops_All c_ops_All_bbbb k_ops_All))
noncomputable def J_ops_All_9 (call : CallF) (h : Heap) (v5 v6 : Value) : R := fSeq Try.prog call keep_ops_All c_ops_All_bbbb k_ops_All Ex.normal ⟨[undefA, undefA, undefA, undefA, undefA, v5, v6, undefA, undefA, undefA, undefA, undefA, undefA, undefA, undefA, undefA, undefA, undefA, undefA, undefA, undefA, undefA, undefA, undefA, undefA, undefA, undefA, undefA, undefA, undefA, undefA, undefA, undefA, undefA, undefA, undefA], h⟩
noncomputable def L_ops_All_4_b (call : CallF) (h : Heap) (v0 v5 v6 v7 : Value) : R :=
obnd (aLen Try.prog T_Suint8 v0) fun x1 =>
obnd (aBin Try.prog Go.BinOp.lss T_int v7 x1 (Go.Operand.tmp 11) (Go.Operand.tmp 13)) fun x2 =>
condF x2 (
retK (call fn_ops_Decode [v0, v7] h) (fun x3 h4 =>
obnd (aExtract x3 0) fun x7 =>
obnd (aExtract x3 1) fun x8 =>
obnd (aExtract x3 2) fun x9 =>
anew (mkAlloc Try.prog T_api_Instr) h4 fun p10 h11 =>
obnd (aStore Try.prog T_api_Instr p10 x7 h11) fun h12 =>
obnd (aBin Try.prog Go.BinOp.neq T_api_Errno x9 (Go.Value.int Go.IntKind.i64 0) (Go.Operand.tmp 22) (Go.Operand.const (Go.Value.int Go.IntKind.i64 0))) fun x13 =>
condF x13 (
some (Ret.ret (Value.tuple ⟨[(Go.Value.slice none 0 0), (Go.Value.slice none 0 0), x9]⟩), h12)) (
obnd (aLoad Try.prog T_api_Instr h12 p10) fun x14 =>
anew (mkLit Try.prog T_Sapi_Instr 1 [(0, x14)]) h12 fun p15 h16 =>
obnd (aAppend Try.prog T_Sapi_Instr T_Sapi_Instr v5 p15 h16) fun r18 =>
anew (mkLit Try.prog T_Sint 1 [(0, v7)]) r18.2 fun p19 h20 =>
obnd (aAppend Try.prog T_Sint T_Sint v6 p19 h20) fun r22 =>
L_ops_All_4 call r22.2 v0 r18.1 r22.1 x8)) (fun x5 h6 => some (Ret.pan x5, h6))) (
J_ops_All_9 call h v5 v6)
theorem L_ops_All_4_wp {call : CallF} {h : Heap} {v0 v5 v6 v7 : Value} {Q : Ret → Heap → Prop} (hr : WP (L_ops_All_4_b call h v0 v5 v6 v7) Q) : WP (L_ops_All_4 call h v0 v5 v6 v7) Q :=
  wp_step (fun x hx => iterW_round (runF_tail c_ops_All_bbbabkl) ((Eq.trans (by kernel_rfl) hx : runF Try.prog call keep_ops_All c_ops_All_bbbabkl ⟨[v0, undefA, undefA, undefA, undefA, v5, v6, v7, undefA, undefA, undefA, undefA, undefA, undefA, undefA, undefA, undefA, undefA, undefA, undefA, undefA, undefA, undefA, undefA, undefA, undefA, undefA, undefA, undefA, undefA, undefA, undefA, undefA, undefA, undefA, undefA], h⟩ (fLoop Try.prog call keep_ops_All c_ops_All_bbbabkl (kBlk 0 (fSeq Try.prog call keep_ops_All c_ops_All_bbbb k_ops_All))) = some x))) hr
noncomputable def J_ops_All_9_b (call : CallF) (h : Heap) (v5 v6 : Value) : R :=
some (Ret.ret (Value.tuple ⟨[v5, v6, (Go.Value.int Go.IntKind.i64 0)]⟩), h)
theorem J_ops_All_9_wp {call : CallF} {h : Heap} {v5 v6 : Value} {Q : Ret → Heap → Prop} (hr : WP (J_ops_All_9_b call h v5 v6) Q) : WP (J_ops_All_9 call h v5 v6) Q := wp_eq (by kernel_rfl) hr
noncomputable def B_ops_All (call : CallF) (h : Heap) (v0 : Value) : R :=
L_ops_All_4 call h v0 (Go.Value.slice none 0 0) (Go.Value.slice none 0 0) (Go.Value.int Go.IntKind.i64 0)
theorem R_ops_All {call : CallF} {h : Heap} {v0 : Value} {Q : Ret → Heap → Prop} (hr : WP (B_ops_All call h v0) Q) : WP (runF Try.prog call keep_ops_All c_ops_All ⟨[v0] ++ List.replicate (Try.f21.ntmps - 1) undefA, h⟩ k_ops_All) Q := wp_eq (by kernel_rfl) hr
theorem F_ops_All {h : Heap} {v0 : Value} {Q : Ret → Heap → Prop} (hr : WP (B_ops_All (callW E) h v0) Q) : WP (callW E fn_ops_All [v0] h) Q := wp_callW (fn := Try.f21) (c := c_ops_All) (kp := keep_ops_All) (by kernel_rfl) (by kernel_rfl) (by kernel_rfl) (by kernel_rfl) (by kernel_rfl) (R_ops_All hr)
/-! ### 22 trammel/trammelkit.SameInstr -/
noncomputable def c_trammelkit_SameInstr : Code := bodyOf Try.f22
noncomputable def k_trammelkit_SameInstr : Kt := endK Try.prog Try.f22
noncomputable def c_trammelkit_SameInstr_b : Code := sB c_trammelkit_SameInstr
noncomputable def c_trammelkit_SameInstr_bb : Code := sB c_trammelkit_SameInstr_b
noncomputable def c_trammelkit_SameInstr_ba : Code := sA c_trammelkit_SameInstr_b
noncomputable def c_trammelkit_SameInstr_bab : Code := sB c_trammelkit_SameInstr_ba
noncomputable def c_trammelkit_SameInstr_bbb : Code := sB c_trammelkit_SameInstr_bb
noncomputable def c_trammelkit_SameInstr_bba : Code := sA c_trammelkit_SameInstr_bb
noncomputable def c_trammelkit_SameInstr_bbab : Code := sB c_trammelkit_SameInstr_bba
noncomputable def c_trammelkit_SameInstr_bbabk : Code := sK c_trammelkit_SameInstr_bbab
noncomputable def c_trammelkit_SameInstr_bbabkl : Code := sL c_trammelkit_SameInstr_bbabk
noncomputable def J_trammelkit_SameInstr_1000003 (call : CallF) (h : Heap) (v2 v3 v33 : Value) : R := fSeq Try.prog call keep_trammelkit_SameInstr c_trammelkit_SameInstr_bab (fSeq Try.prog call keep_trammelkit_SameInstr c_trammelkit_SameInstr_bb k_trammelkit_SameInstr) Ex.normal ⟨undefA :: undefA :: v2 :: v3 :: undefA :: undefA :: undefA :: undefA :: undefA :: undefA :: undefA :: undefA :: undefA :: undefA :: undefA :: undefA :: undefA :: undefA :: undefA :: undefA :: undefA :: undefA :: undefA :: undefA :: undefA :: undefA :: undefA :: undefA :: undefA :: undefA :: undefA :: undefA :: undefA :: v33 :: undefA :: undefA :: undefA :: undefA :: undefA :: undefA :: undefA :: undefA :: undefA :: undefA :: undefA :: undefA :: undefA :: undefA :: undefA :: undefA :: undefA :: undefA :: [], h⟩
noncomputable def L_trammelkit_SameInstr_4 (call : CallF) (h : Heap) (v2 v3 v5 : Value) : R := iterW (runF Try.prog call keep_trammelkit_SameInstr c_trammelkit_SameInstr_bbabkl) (maskS (keep_trammelkit_SameInstr 4)) ⟨undefA :: undefA :: v2 :: v3 :: undefA :: v5 :: undefA :: undefA :: undefA :: undefA :: undefA :: undefA :: undefA :: undefA :: undefA :: undefA :: undefA :: undefA :: undefA :: undefA :: undefA :: undefA :: undefA :: undefA :: undefA :: undefA :: undefA :: undefA :: undefA :: undefA :: undefA :: undefA :: undefA :: undefA :: undefA :: undefA :: undefA :: undefA :: undefA :: undefA :: undefA :: undefA :: undefA :: undefA :: undefA :: undefA :: undefA :: undefA :: undefA :: undefA :: undefA :: undefA :: [], h⟩ (kBlk 0 (fSeq Try.prog call keep_trammelkit_SameInstr c_trammelkit_SameInstr_bbb k_trammelkit_SameInstr))
noncomputable def J_trammelkit_SameInstr_8 (call : CallF) (h : Heap) : R := fSeq Try.prog call keep_trammelkit_SameInstr c_trammelkit_SameInstr_bbb k_trammelkit_SameInstr Ex.normal ⟨undefA :: undefA :: undefA :: undefA :: undefA :: undefA :: undefA :: undefA :: undefA :: undefA :: undefA :: undefA :: undefA :: undefA :: undefA :: undefA :: undefA :: undefA :: undefA :: undefA :: undefA :: undefA :: undefA :: undefA :: undefA :: undefA :: undefA :: undefA :: undefA :: undefA :: undefA :: undefA :: undefA :: undefA :: undefA :: undefA :: undefA :: undefA :: undefA :: undefA :: undefA :: undefA :: undefA :: undefA :: undefA :: undefA :: undefA :: undefA :: undefA :: undefA :: undefA :: undefA :: [], h⟩
noncomputable def J_trammelkit_SameInstr_1000003_b (call : CallF) (h : Heap) (v2 v3 v33 : Value) : R :=
condF v33 (
some (Ret.ret (Go.Value.bool false), h)) (
L_trammelkit_SameInstr_4 call h v2 v3 (Go.Value.int Go.IntKind.i64 0))
theorem J_trammelkit_SameInstr_1000003_wp {call : CallF} {h : Heap} {v2 v3 v33 : Value} {Q : Ret → Heap → Prop} (hr : WP (J_trammelkit_SameInstr_1000003_b call h v2 v3 v33) Q) : WP (J_trammelkit_SameInstr_1000003 call h v2 v3 v33) Q := wp_eq (by kernel_rfl) hr
noncomputable def L_trammelkit_SameInstr_4_b (call : CallF) (h : Heap) (v2 v3 v5 : Value) : R :=
obnd (aFieldAddr Try.prog T_api_Instr v2 3) fun x27 =>
obnd (aLoad Try.prog T_Sapi_Arm h x27) fun x28 =>
obnd (aLen Try.prog T_Sapi_Arm x28) fun x29 =>
obnd (aBin Try.prog Go.BinOp.lss T_int v5 x29 (Go.Operand.tmp 34) (Go.Operand.tmp 37)) fun x30 =>
condF x30 (
obnd (aFieldAddr Try.prog T_api_Instr v2 3) fun x31 =>
obnd (aLoad Try.prog T_Sapi_Arm h x31) fun x32 =>
obnd (aIndexAddr Try.prog T_Sapi_Arm x32 v5) fun x33 =>
obnd (aLoad Try.prog T_api_Arm h x33) fun x34 =>
obnd (aFieldAddr Try.prog T_api_Instr v3 3) fun x35 =>
obnd (aLoad Try.prog T_Sapi_Arm h x35) fun x36 =>
obnd (aIndexAddr Try.prog T_Sapi_Arm x36 v5) fun x37 =>
obnd (aLoad Try.prog T_api_Arm h x37) fun x38 =>
obnd (aBin Try.prog Go.BinOp.neq T_api_Arm x34 x38 (Go.Operand.tmp 45) (Go.Operand.tmp 50)) fun x39 =>
condF x39 (
some (Ret.ret (Go.Value.bool false), h)) (
obnd (aBin Try.prog Go.BinOp.add T_int v5 (Go.Value.int Go.IntKind.i64 1) (Go.Operand.tmp 39) (Go.Operand.const (Go.Value.int Go.IntKind.i64 1))) fun x40 =>
L_trammelkit_SameInstr_4 call h v2 v3 x40)) (
J_trammelkit_SameInstr_8 call h)
theorem L_trammelkit_SameInstr_4_wp {call : CallF} {h : Heap} {v2 v3 v5 : Value} {Q : Ret → Heap → Prop} (hr : WP (L_trammelkit_SameInstr_4_b call h v2 v3 v5) Q) : WP (L_trammelkit_SameInstr_4 call h v2 v3 v5) Q :=
  wp_step (fun x hx => iterW_round (runF_tail c_trammelkit_SameInstr_bbabkl) ((Eq.trans (by kernel_rfl) hx : runF Try.prog call keep_trammelkit_SameInstr c_trammelkit_SameInstr_bbabkl ⟨undefA :: undefA :: v2 :: v3 :: undefA :: v5 :: undefA :: undefA :: undefA :: undefA :: undefA :: undefA :: undefA :: undefA :: undefA :: undefA :: undefA :: undefA :: undefA :: undefA :: undefA :: undefA :: undefA :: undefA :: undefA :: undefA :: undefA :: undefA :: undefA :: undefA :: undefA :: undefA :: undefA :: undefA :: undefA :: undefA :: undefA :: undefA :: undefA :: undefA :: undefA :: undefA :: undefA :: undefA :: undefA :: undefA :: undefA :: undefA :: undefA :: undefA :: undefA :: undefA :: [], h⟩ (fLoop Try.prog call keep_trammelkit_SameInstr c_trammelkit_SameInstr_bbabkl (kBlk 0 (fSeq Try.prog call keep_trammelkit_SameInstr c_trammelkit_SameInstr_bbb k_trammelkit_SameInstr))) = some x))) hr
noncomputable def J_trammelkit_SameInstr_8_b (call : CallF) (h : Heap) : R :=
some (Ret.ret (Go.Value.bool true), h)
theorem J_trammelkit_SameInstr_8_wp {call : CallF} {h : Heap} {Q : Ret → Heap → Prop} (hr : WP (J_trammelkit_SameInstr_8_b call h ) Q) : WP (J_trammelkit_SameInstr_8 call h ) Q := wp_eq (by kernel_rfl) hr
noncomputable def B_trammelkit_SameInstr (call : CallF) (h : Heap) (v0 v1 : Value) : R :=
anew (mkBox T_api_Instr v0) h fun p1 h2 =>
anew (mkBox T_api_Instr v1) h2 fun p3 h4 =>
obnd (aFieldAddr Try.prog T_api_Instr p1 0) fun x5 =>
obnd (aLoad Try.prog T_uint8 h4 x5) fun x6 =>
obnd (aFieldAddr Try.prog T_api_Instr p3 0) fun x7 =>
obnd (aLoad Try.prog T_uint8 h4 x7) fun x8 =>
obnd (aBin Try.prog Go.BinOp.neq T_uint8 x6 x8 (Go.Operand.tmp 7) (Go.Operand.tmp 9)) fun x9 =>
guardV3 x9 (
J_trammelkit_SameInstr_1000003 call h4 p1 p3 (Go.Value.bool true)) (
obnd (aFieldAddr Try.prog T_api_Instr p1 1) fun x10 =>
obnd (aLoad Try.prog T_int64 h4 x10) fun x11 =>
obnd (aFieldAddr Try.prog T_api_Instr p3 1) fun x12 =>
obnd (aLoad Try.prog T_int64 h4 x12) fun x13 =>
obnd (aBin Try.prog Go.BinOp.neq T_int64 x11 x13 (Go.Operand.tmp 13) (Go.Operand.tmp 15)) fun x14 =>
guardV3 x14 (
J_trammelkit_SameInstr_1000003 call h4 p1 p3 (Go.Value.bool true)) (
obnd (aFieldAddr Try.prog T_api_Instr p1 2) fun x15 =>
obnd (aLoad Try.prog T_int64 h4 x15) fun x16 =>
obnd (aFieldAddr Try.prog T_api_Instr p3 2) fun x17 =>
obnd (aLoad Try.prog T_int64 h4 x17) fun x18 =>
obnd (aBin Try.prog Go.BinOp.neq T_int64 x16 x18 (Go.Operand.tmp 20) (Go.Operand.tmp 22)) fun x19 =>
guardV3 x19 (
J_trammelkit_SameInstr_1000003 call h4 p1 p3 (Go.Value.bool true)) (
obnd (aFieldAddr Try.prog T_api_Instr p1 3) fun x20 =>
obnd (aLoad Try.prog T_Sapi_Arm h4 x20) fun x21 =>
obnd (aLen Try.prog T_Sapi_Arm x21) fun x22 =>
obnd (aFieldAddr Try.prog T_api_Instr p3 3) fun x23 =>
obnd (aLoad Try.prog T_Sapi_Arm h4 x23) fun x24 =>
obnd (aLen Try.prog T_Sapi_Arm x24) fun x25 =>
obnd (aBin Try.prog Go.BinOp.neq T_int x22 x25 (Go.Operand.tmp 28) (Go.Operand.tmp 31)) fun x26 =>
J_trammelkit_SameInstr_1000003 call h4 p1 p3 x26) (
none)) (
none)) (
none)
theorem R_trammelkit_SameInstr {call : CallF} {h : Heap} {v0 v1 : Value} {Q : Ret → Heap → Prop} (hr : WP (B_trammelkit_SameInstr call h v0 v1) Q) : WP (runF Try.prog call keep_trammelkit_SameInstr c_trammelkit_SameInstr ⟨[v0, v1] ++ List.replicate (Try.f22.ntmps - 2) undefA, h⟩ k_trammelkit_SameInstr) Q := wp_eq (by kernel_rfl) hr
theorem F_trammelkit_SameInstr {h : Heap} {v0 v1 : Value} {Q : Ret → Heap → Prop} (hr : WP (B_trammelkit_SameInstr (callW E) h v0 v1) Q) : WP (callW E fn_trammelkit_SameInstr [v0, v1] h) Q := wp_callW (fn := Try.f22) (c := c_trammelkit_SameInstr) (kp := keep_trammelkit_SameInstr) (by kernel_rfl) (by kernel_rfl) (by kernel_rfl) (by kernel_rfl) (by kernel_rfl) (R_trammelkit_SameInstr hr)
/-! ### 23 trammel/trammelkit.SameInstrs -/
noncomputable def c_trammelkit_SameInstrs : Code := bodyOf Try.f23
noncomputable def k_trammelkit_SameInstrs : Kt := endK Try.prog Try.f23
noncomputable def c_trammelkit_SameInstrs_b : Code := sB c_trammelkit_SameInstrs
noncomputable def c_trammelkit_SameInstrs_bb : Code := sB c_trammelkit_SameInstrs_b
noncomputable def c_trammelkit_SameInstrs_bbb : Code := sB c_trammelkit_SameInstrs_bb
noncomputable def c_trammelkit_SameInstrs_bba : Code := sA c_trammelkit_SameInstrs_bb
noncomputable def c_trammelkit_SameInstrs_bbab : Code := sB c_trammelkit_SameInstrs_bba
noncomputable def c_trammelkit_SameInstrs_bbabk : Code := sK c_trammelkit_SameInstrs_bbab
noncomputable def c_trammelkit_SameInstrs_bbabkl : Code := sL c_trammelkit_SameInstrs_bbabk
noncomputable def L_trammelkit_SameInstrs_4 (call : CallF) (h : Heap) (v0 v1 v5 : Value) : R := iterW (runF Try.prog call keep_trammelkit_SameInstrs c_trammelkit_SameInstrs_bbabkl) (maskS (keep_trammelkit_SameInstrs 4)) ⟨[v0, v1, undefA, undefA, undefA, v5, undefA, undefA, undefA, undefA, undefA, undefA, undefA, undefA, undefA, undefA, undefA, undefA, undefA, undefA, undefA, undefA, undefA, undefA, undefA, undefA, undefA], h⟩ (kBlk 0 (fSeq Try.prog call keep_trammelkit_SameInstrs c_trammelkit_SameInstrs_bbb k_trammelkit_SameInstrs))
noncomputable def J_trammelkit_SameInstrs_8 (call : CallF) (h : Heap) : R := fSeq Try.prog call keep_trammelkit_SameInstrs c_trammelkit_SameInstrs_bbb k_trammelkit_SameInstrs Ex.normal ⟨[undefA, undefA, undefA, undefA, undefA, undefA, undefA, undefA, undefA, undefA, undefA, undefA, undefA, undefA, undefA, undefA, undefA, undefA, undefA, undefA, undefA, undefA, undefA, undefA, undefA, undefA, undefA], h⟩
noncomputable def L_trammelkit_SameInstrs_4_b (call : CallF) (h : Heap) (v0 v1 v5 : Value) : R :=
obnd (aLen Try.prog T_Sapi_Instr v0) fun x4 =>
obnd (aBin Try.prog Go.BinOp.lss T_int v5 x4 (Go.Operand.tmp 11) (Go.Operand.tmp 13)) fun x5 =>
condF x5 (
obnd (aIndexAddr Try.prog T_Sapi_Instr v0 v5) fun x6 =>
obnd (aLoad Try.prog T_api_Instr h x6) fun x7 =>
obnd (aIndexAddr Try.prog T_Sapi_Instr v1 v5) fun x8 =>
obnd (aLoad Try.prog T_api_Instr h x8) fun x9 =>
retK (call fn_trammelkit_SameInstr [x7, x9] h) (fun x10 h11 =>
obnd (aUn Try.prog Go.UnOp.not x10) fun x14 =>
condF x14 (
some (Ret.ret (Go.Value.bool false), h11)) (
obnd (aBin Try.prog Go.BinOp.add T_int v5 (Go.Value.int Go.IntKind.i64 1) (Go.Operand.tmp 15) (Go.Operand.const (Go.Value.int Go.IntKind.i64 1))) fun x15 =>
L_trammelkit_SameInstrs_4 call h11 v0 v1 x15)) (fun x12 h13 => some (Ret.pan x12, h13))) (
J_trammelkit_SameInstrs_8 call h)
theorem L_trammelkit_SameInstrs_4_wp {call : CallF} {h : Heap} {v0 v1 v5 : Value} {Q : Ret → Heap → Prop} (hr : WP (L_trammelkit_SameInstrs_4_b call h v0 v1 v5) Q) : WP (L_trammelkit_SameInstrs_4 call h v0 v1 v5) Q :=
  wp_step (fun x hx => iterW_round (runF_tail c_trammelkit_SameInstrs_bbabkl) ((Eq.trans (by kernel_rfl) hx : runF Try.prog call keep_trammelkit_SameInstrs c_trammelkit_SameInstrs_bbabkl ⟨[v0, v1, undefA, undefA, undefA, v5, undefA, undefA, undefA, undefA, undefA, undefA, undefA, undefA, undefA, undefA, undefA, undefA, undefA, undefA, undefA, undefA, undefA, undefA, undefA, undefA, undefA], h⟩ (fLoop Try.prog call keep_trammelkit_SameInstrs c_trammelkit_SameInstrs_bbabkl (kBlk 0 (fSeq Try.prog call keep_trammelkit_SameInstrs c_trammelkit_SameInstrs_bbb k_trammelkit_SameInstrs))) = some x))) hr
noncomputable def J_trammelkit_SameInstrs_8_b (call : CallF) (h : Heap) : R :=
some (Ret.ret (Go.Value.bool true), h)
theorem J_trammelkit_SameInstrs_8_wp {call : CallF} {h : Heap} {Q : Ret → Heap → Prop} (hr : WP (J_trammelkit_SameInstrs_8_b call h ) Q) : WP (J_trammelkit_SameInstrs_8 call h ) Q := wp_eq (by kernel_rfl) hr
noncomputable def B_trammelkit_SameInstrs (call : CallF) (h : Heap) (v0 v1 : Value) : R :=
obnd (aLen Try.prog T_Sapi_Instr v0) fun x1 =>
obnd (aLen Try.prog T_Sapi_Instr v1) fun x2 =>
obnd (aBin Try.prog Go.BinOp.neq T_int x1 x2 (Go.Operand.tmp 7) (Go.Operand.tmp 9)) fun x3 =>
condF x3 (
some (Ret.ret (Go.Value.bool false), h)) (
L_trammelkit_SameInstrs_4 call h v0 v1 (Go.Value.int Go.IntKind.i64 0))
theorem R_trammelkit_SameInstrs {call : CallF} {h : Heap} {v0 v1 : Value} {Q : Ret → Heap → Prop} (hr : WP (B_trammelkit_SameInstrs call h v0 v1) Q) : WP (runF Try.prog call keep_trammelkit_SameInstrs c_trammelkit_SameInstrs ⟨[v0, v1] ++ List.replicate (Try.f23.ntmps - 2) undefA, h⟩ k_trammelkit_SameInstrs) Q := wp_eq (by kernel_rfl) hr
theorem F_trammelkit_SameInstrs {h : Heap} {v0 v1 : Value} {Q : Ret → Heap → Prop} (hr : WP (B_trammelkit_SameInstrs (callW E) h v0 v1) Q) : WP (callW E fn_trammelkit_SameInstrs [v0, v1] h) Q := wp_callW (fn := Try.f23) (c := c_trammelkit_SameInstrs) (kp := keep_trammelkit_SameInstrs) (by kernel_rfl) (by kernel_rfl) (by kernel_rfl) (by kernel_rfl) (by kernel_rfl) (R_trammelkit_SameInstrs hr)
/-! ### 24 trammel/trammelkit.SameInts -/
noncomputable def c_trammelkit_SameInts : Code := bodyOf Try.f24
noncomputable def k_trammelkit_SameInts : Kt := endK Try.prog Try.f24
noncomputable def c_trammelkit_SameInts_b : Code := sB c_trammelkit_SameInts
noncomputable def c_trammelkit_SameInts_bb : Code := sB c_trammelkit_SameInts_b
noncomputable def c_trammelkit_SameInts_bbb : Code := sB c_trammelkit_SameInts_bb
noncomputable def c_trammelkit_SameInts_bba : Code := sA c_trammelkit_SameInts_bb
noncomputable def c_trammelkit_SameInts_bbab : Code := sB c_trammelkit_SameInts_bba
noncomputable def c_trammelkit_SameInts_bbabk : Code := sK c_trammelkit_SameInts_bbab
noncomputable def c_trammelkit_SameInts_bbabkl : Code := sL c_trammelkit_SameInts_bbabk
noncomputable def L_trammelkit_SameInts_4 (call : CallF) (h : Heap) (v0 v1 v5 : Value) : R := iterW (runF Try.prog call keep_trammelkit_SameInts c_trammelkit_SameInts_bbabkl) (maskS (keep_trammelkit_SameInts 4)) ⟨[v0, v1, undefA, undefA, undefA, v5, undefA, undefA, undefA, undefA, undefA, undefA, undefA, undefA, undefA, undefA, undefA, undefA, undefA, undefA, undefA, undefA, undefA, undefA, undefA, undefA], h⟩ (kBlk 0 (fSeq Try.prog call keep_trammelkit_SameInts c_trammelkit_SameInts_bbb k_trammelkit_SameInts))
noncomputable def J_trammelkit_SameInts_8 (call : CallF) (h : Heap) : R := fSeq Try.prog call keep_trammelkit_SameInts c_trammelkit_SameInts_bbb k_trammelkit_SameInts Ex.normal ⟨[undefA, undefA, undefA, undefA, undefA, undefA, undefA, undefA, undefA, undefA, undefA, undefA, undefA, undefA, undefA, undefA, undefA, undefA, undefA, undefA, undefA, undefA, undefA, undefA, undefA, undefA], h⟩
noncomputable def L_trammelkit_SameInts_4_b (call : CallF) (h : Heap) (v0 v1 v5 : Value) : R :=
obnd (aLen Try.prog T_Sint v0) fun x4 =>
obnd (aBin Try.prog Go.BinOp.lss T_int v5 x4 (Go.Operand.tmp 11) (Go.Operand.tmp 13)) fun x5 =>
condF x5 (
obnd (aIndexAddr Try.prog T_Sint v0 v5) fun x6 =>
obnd (aLoad Try.prog T_int h x6) fun x7 =>
obnd (aIndexAddr Try.prog T_Sint v1 v5) fun x8 =>
obnd (aLoad Try.prog T_int h x8) fun x9 =>
obnd (aBin Try.prog Go.BinOp.neq T_int x7 x9 (Go.Operand.tmp 20) (Go.Operand.tmp 24)) fun x10 =>
condF x10 (
some (Ret.ret (Go.Value.bool false), h)) (
obnd (aBin Try.prog Go.BinOp.add T_int v5 (Go.Value.int Go.IntKind.i64 1) (Go.Operand.tmp 15) (Go.Operand.const (Go.Value.int Go.IntKind.i64 1))) fun x11 =>
L_trammelkit_SameInts_4 call h v0 v1 x11)) (
J_trammelkit_SameInts_8 call h)
theorem L_trammelkit_SameInts_4_wp {call : CallF} {h : Heap} {v0 v1 v5 : Value} {Q : Ret → Heap → Prop} (hr : WP (L_trammelkit_SameInts_4_b call h v0 v1 v5) Q) : WP (L_trammelkit_SameInts_4 call h v0 v1 v5) Q :=
  wp_step (fun x hx => iterW_round (runF_tail c_trammelkit_SameInts_bbabkl) ((Eq.trans (by kernel_rfl) hx : runF Try.prog call keep_trammelkit_SameInts c_trammelkit_SameInts_bbabkl ⟨[v0, v1, undefA, undefA, undefA, v5, undefA, undefA, undefA, undefA, undefA, undefA, undefA, undefA, undefA, undefA, undefA, undefA, undefA, undefA, undefA, undefA, undefA, undefA, undefA, undefA], h⟩ (fLoop Try.prog call keep_trammelkit_SameInts c_trammelkit_SameInts_bbabkl (kBlk 0 (fSeq Try.prog call keep_trammelkit_SameInts c_trammelkit_SameInts_bbb k_trammelkit_SameInts))) = some x))) hr
noncomputable def J_trammelkit_SameInts_8_b (call : CallF) (h : Heap) : R :=
some (Ret.ret (Go.Value.bool true), h)
theorem J_trammelkit_SameInts_8_wp {call : CallF} {h : Heap} {Q : Ret → Heap → Prop} (hr : WP (J_trammelkit_SameInts_8_b call h ) Q) : WP (J_trammelkit_SameInts_8 call h ) Q := wp_eq (by kernel_rfl) hr
noncomputable def B_trammelkit_SameInts (call : CallF) (h : Heap) (v0 v1 : Value) : R :=
obnd (aLen Try.prog T_Sint v0) fun x1 =>
obnd (aLen Try.prog T_Sint v1) fun x2 =>
obnd (aBin Try.prog Go.BinOp.neq T_int x1 x2 (Go.Operand.tmp 7) (Go.Operand.tmp 9)) fun x3 =>
condF x3 (
some (Ret.ret (Go.Value.bool false), h)) (
L_trammelkit_SameInts_4 call h v0 v1 (Go.Value.int Go.IntKind.i64 0))
theorem R_trammelkit_SameInts {call : CallF} {h : Heap} {v0 v1 : Value} {Q : Ret → Heap → Prop} (hr : WP (B_trammelkit_SameInts call h v0 v1) Q) : WP (runF Try.prog call keep_trammelkit_SameInts c_trammelkit_SameInts ⟨[v0, v1] ++ List.replicate (Try.f24.ntmps - 2) undefA, h⟩ k_trammelkit_SameInts) Q := wp_eq (by kernel_rfl) hr
theorem F_trammelkit_SameInts {h : Heap} {v0 v1 : Value} {Q : Ret → Heap → Prop} (hr : WP (B_trammelkit_SameInts (callW E) h v0 v1) Q) : WP (callW E fn_trammelkit_SameInts [v0, v1] h) Q := wp_callW (fn := Try.f24) (c := c_trammelkit_SameInts) (kp := keep_trammelkit_SameInts) (by kernel_rfl) (by kernel_rfl) (by kernel_rfl) (by kernel_rfl) (by kernel_rfl) (R_trammelkit_SameInts hr)
/-! ### 25 trammel/trammelkit.KeptCode -/
noncomputable def c_trammelkit_KeptCode : Code := bodyOf Try.f25
noncomputable def k_trammelkit_KeptCode : Kt := endK Try.prog Try.f25
noncomputable def B_trammelkit_KeptCode (call : CallF) (h : Heap) (v0 v1 : Value) : R :=
obnd (aBytesStr Try.prog T_Suint8 T_string h v0) fun x1 =>
obnd (aBytesStr Try.prog T_Suint8 T_string h v1) fun x2 =>
obnd (aBin Try.prog Go.BinOp.eql T_string x1 x2 (Go.Operand.tmp 6) (Go.Operand.tmp 8)) fun x3 =>
guardV3 x3 (
obnd (aLen Try.prog T_Suint8 v1) fun x4 =>
obnd (aBin Try.prog Go.BinOp.add T_int x4 (Go.Value.int Go.IntKind.i64 1) (Go.Operand.tmp 13) (Go.Operand.const (Go.Value.int Go.IntKind.i64 1))) fun x5 =>
obnd (aSlice Try.prog T_Suint8 v0 none (some x5) none) fun x6 =>
obnd (aLen Try.prog T_Suint8 v1) fun x7 =>
obnd (aIndexAddr Try.prog T_Suint8 x6 x7) fun x8 =>
obnd (aLoad Try.prog T_uint8 h x8) fun x9 =>
obnd (aBin Try.prog Go.BinOp.eql T_uint8 x9 (Go.Value.int Go.IntKind.u8 77) (Go.Operand.tmp 19) (Go.Operand.const (Go.Value.int Go.IntKind.u8 77))) fun x10 =>
some (Ret.ret x10, h)) (
some (Ret.ret (Go.Value.bool false), h)) (
none)
theorem R_trammelkit_KeptCode {call : CallF} {h : Heap} {v0 v1 : Value} {Q : Ret → Heap → Prop} (hr : WP (B_trammelkit_KeptCode call h v0 v1) Q) : WP (runF Try.prog call keep_trammelkit_KeptCode c_trammelkit_KeptCode ⟨[v0, v1] ++ List.replicate (Try.f25.ntmps - 2) undefA, h⟩ k_trammelkit_KeptCode) Q := wp_eq (by kernel_rfl) hr
theorem F_trammelkit_KeptCode {h : Heap} {v0 v1 : Value} {Q : Ret → Heap → Prop} (hr : WP (B_trammelkit_KeptCode (callW E) h v0 v1) Q) : WP (callW E fn_trammelkit_KeptCode [v0, v1] h) Q := wp_callW (fn := Try.f25) (c := c_trammelkit_KeptCode) (kp := keep_trammelkit_KeptCode) (by kernel_rfl) (by kernel_rfl) (by kernel_rfl) (by kernel_rfl) (by kernel_rfl) (R_trammelkit_KeptCode hr)
/-! ### 34 trammel/ops.Encode -/
noncomputable def c_ops_Encode : Code := bodyOf Try.f34
noncomputable def k_ops_Encode : Kt := endK Try.prog Try.f34
noncomputable def c_ops_Encode_b : Code := sB c_ops_Encode
noncomputable def c_ops_Encode_bb : Code := sB c_ops_Encode_b
noncomputable def c_ops_Encode_bbb : Code := sB c_ops_Encode_bb
noncomputable def c_ops_Encode_bbbb : Code := sB c_ops_Encode_bbb
noncomputable def c_ops_Encode_bbba : Code := sA c_ops_Encode_bbb
noncomputable def c_ops_Encode_bbbab : Code := sB c_ops_Encode_bbba
noncomputable def c_ops_Encode_bbbabk : Code := sK c_ops_Encode_bbbab
noncomputable def c_ops_Encode_bbbabkl : Code := sL c_ops_Encode_bbbabk
noncomputable def c_ops_Encode_bbbabklb : Code := sB c_ops_Encode_bbbabkl
noncomputable def c_ops_Encode_bbbabklbb : Code := sB c_ops_Encode_bbbabklb
noncomputable def c_ops_Encode_bbbabklbbb : Code := sB c_ops_Encode_bbbabklbb
noncomputable def c_ops_Encode_bbbabklbba : Code := sA c_ops_Encode_bbbabklbb
noncomputable def c_ops_Encode_bbbabklbbak : Code := sK c_ops_Encode_bbbabklbba
noncomputable def c_ops_Encode_bbbabklbbakb : Code := sB c_ops_Encode_bbbabklbbak
noncomputable def c_ops_Encode_bbbabklbbakbb : Code := sB c_ops_Encode_bbbabklbbakb
noncomputable def c_ops_Encode_bbbabklbbakbbb : Code := sB c_ops_Encode_bbbabklbbakbb
noncomputable def c_ops_Encode_bbbbb : Code := sB c_ops_Encode_bbbb
noncomputable def c_ops_Encode_bbbba : Code := sA c_ops_Encode_bbbb
noncomputable def c_ops_Encode_bbbbak : Code := sK c_ops_Encode_bbbba
noncomputable def c_ops_Encode_bbbbakb : Code := sB c_ops_Encode_bbbbak
noncomputable def c_ops_Encode_bbbbakbe : Code := cE c_ops_Encode_bbbbakb
noncomputable def c_ops_Encode_bbbbakbeb : Code := sB c_ops_Encode_bbbbakbe
noncomputable def c_ops_Encode_bbbbakbea : Code := sA c_ops_Encode_bbbbakbe
noncomputable def c_ops_Encode_bbbbakbeab : Code := sB c_ops_Encode_bbbbakbea
noncomputable def c_ops_Encode_bbbbakbeabe : Code := cE c_ops_Encode_bbbbakbeab
noncomputable def c_ops_Encode_bbbbakbeabeb : Code := sB c_ops_Encode_bbbbakbeabe
noncomputable def L_ops_Encode_4 (call : CallF) (h : Heap) (v1 v4 v5 v6 v21 v22 v23 : Value) : R := iterW (runF Try.prog call keep_ops_Encode c_ops_Encode_bbbabkl) (maskS (keep_ops_Encode 4)) ⟨undefA :: v1 :: undefA :: undefA :: v4 :: v5 :: v6 :: undefA :: undefA :: undefA :: undefA :: undefA :: undefA :: undefA :: undefA :: undefA :: undefA :: undefA :: undefA :: undefA :: undefA :: v21 :: v22 :: v23 :: undefA :: undefA :: undefA :: undefA :: undefA :: undefA :: undefA :: undefA :: undefA :: undefA :: undefA :: undefA :: undefA :: undefA :: undefA :: undefA :: undefA :: undefA :: undefA :: undefA :: undefA :: undefA :: undefA :: undefA :: undefA :: undefA :: undefA :: undefA :: undefA :: undefA :: undefA :: undefA :: undefA :: undefA :: undefA :: undefA :: undefA :: undefA :: undefA :: undefA :: undefA :: undefA :: undefA :: undefA :: undefA :: undefA :: undefA :: undefA :: undefA :: undefA :: undefA :: undefA :: undefA :: undefA :: undefA :: undefA :: undefA :: undefA :: undefA :: [], h⟩ (kBlk 0 (fSeq Try.prog call keep_ops_Encode c_ops_Encode_bbbb k_ops_Encode))
noncomputable def J_ops_Encode_9 (call : CallF) (h : Heap) (v1 v4 v5 v6 v8 v9 v21 v22 v23 : Value) : R := fSeq Try.prog call keep_ops_Encode c_ops_Encode_bbbabklbbakbbb (kBlk 1 (fSeq Try.prog call keep_ops_Encode c_ops_Encode_bbbabklbbb (fLoop Try.prog call keep_ops_Encode c_ops_Encode_bbbabkl (kBlk 0 (fSeq Try.prog call keep_ops_Encode c_ops_Encode_bbbb k_ops_Encode))))) Ex.normal ⟨undefA :: v1 :: undefA :: undefA :: v4 :: v5 :: v6 :: undefA :: v8 :: v9 :: undefA :: undefA :: undefA :: undefA :: undefA :: undefA :: undefA :: undefA :: undefA :: undefA :: undefA :: v21 :: v22 :: v23 :: undefA :: undefA :: undefA :: undefA :: undefA :: undefA :: undefA :: undefA :: undefA :: undefA :: undefA :: undefA :: undefA :: undefA :: undefA :: undefA :: undefA :: undefA :: undefA :: undefA :: undefA :: undefA :: undefA :: undefA :: undefA :: undefA :: undefA :: undefA :: undefA :: undefA :: undefA :: undefA :: undefA :: undefA :: undefA :: undefA :: undefA :: undefA :: undefA :: undefA :: undefA :: undefA :: undefA :: undefA :: undefA :: undefA :: undefA :: undefA :: undefA :: undefA :: undefA :: undefA :: undefA :: undefA :: undefA :: undefA :: undefA :: undefA :: undefA :: [], h⟩
noncomputable def J_ops_Encode_12 (call : CallF) (h : Heap) (v1 v4 v5 v6 : Value) : R := fSeq Try.prog call keep_ops_Encode c_ops_Encode_bbbb k_ops_Encode Ex.normal ⟨undefA :: v1 :: undefA :: undefA :: v4 :: v5 :: v6 :: undefA :: undefA :: undefA :: undefA :: undefA :: undefA :: undefA :: undefA :: undefA :: undefA :: undefA :: undefA :: undefA :: undefA :: undefA :: undefA :: undefA :: undefA :: undefA :: undefA :: undefA :: undefA :: undefA :: undefA :: undefA :: undefA :: undefA :: undefA :: undefA :: undefA :: undefA :: undefA :: undefA :: undefA :: undefA :: undefA :: undefA :: undefA :: undefA :: undefA :: undefA :: undefA :: undefA :: undefA :: undefA :: undefA :: undefA :: undefA :: undefA :: undefA :: undefA :: undefA :: undefA :: undefA :: undefA :: undefA :: undefA :: undefA :: undefA :: undefA :: undefA :: undefA :: undefA :: undefA :: undefA :: undefA :: undefA :: undefA :: undefA :: undefA :: undefA :: undefA :: undefA :: undefA :: undefA :: undefA :: [], h⟩
noncomputable def J_ops_Encode_1000014 (call : CallF) (h : Heap) (v1 v4 v5 v6 v46 : Value) : R := fSeq Try.prog call keep_ops_Encode c_ops_Encode_bbbbakb (kBlk 2 (fSeq Try.prog call keep_ops_Encode c_ops_Encode_bbbbb k_ops_Encode)) Ex.normal ⟨undefA :: v1 :: undefA :: undefA :: v4 :: v5 :: v6 :: undefA :: undefA :: undefA :: undefA :: undefA :: undefA :: undefA :: undefA :: undefA :: undefA :: undefA :: undefA :: undefA :: undefA :: undefA :: undefA :: undefA :: undefA :: undefA :: undefA :: undefA :: undefA :: undefA :: undefA :: undefA :: undefA :: undefA :: undefA :: undefA :: undefA :: undefA :: undefA :: undefA :: undefA :: undefA :: undefA :: undefA :: undefA :: undefA :: v46 :: undefA :: undefA :: undefA :: undefA :: undefA :: undefA :: undefA :: undefA :: undefA :: undefA :: undefA :: undefA :: undefA :: undefA :: undefA :: undefA :: undefA :: undefA :: undefA :: undefA :: undefA :: undefA :: undefA :: undefA :: undefA :: undefA :: undefA :: undefA :: undefA :: undefA :: undefA :: undefA :: undefA :: undefA :: undefA :: undefA :: [], h⟩
noncomputable def J_ops_Encode_18 (call : CallF) (h : Heap) (v5 v6 : Value) : R := fSeq Try.prog call keep_ops_Encode c_ops_Encode_bbbbb k_ops_Encode Ex.normal ⟨undefA :: undefA :: undefA :: undefA :: undefA :: v5 :: v6 :: undefA :: undefA :: undefA :: undefA :: undefA :: undefA :: undefA :: undefA :: undefA :: undefA :: undefA :: undefA :: undefA :: undefA :: undefA :: undefA :: undefA :: undefA :: undefA :: undefA :: undefA :: undefA :: undefA :: undefA :: undefA :: undefA :: undefA :: undefA :: undefA :: undefA :: undefA :: undefA :: undefA :: undefA :: undefA :: undefA :: undefA :: undefA :: undefA :: undefA :: undefA :: undefA :: undefA :: undefA :: undefA :: undefA :: undefA :: undefA :: undefA :: undefA :: undefA :: undefA :: undefA :: undefA :: undefA :: undefA :: undefA :: undefA :: undefA :: undefA :: undefA :: undefA :: undefA :: undefA :: undefA :: undefA :: undefA :: undefA :: undefA :: undefA :: undefA :: undefA :: undefA :: undefA :: undefA :: undefA :: [], h⟩
noncomputable def J_ops_Encode_2000016 (call : CallF) (h : Heap) (v1 v4 v5 v6 v59 : Value) : R := fSeq Try.prog call keep_ops_Encode c_ops_Encode_bbbbakbeabeb (fSeq Try.prog call keep_ops_Encode c_ops_Encode_bbbbakbeb (kBlk 2 (fSeq Try.prog call keep_ops_Encode c_ops_Encode_bbbbb k_ops_Encode))) Ex.normal ⟨undefA :: v1 :: undefA :: undefA :: v4 :: v5 :: v6 :: undefA :: undefA :: undefA :: undefA :: undefA :: undefA :: undefA :: undefA :: undefA :: undefA :: undefA :: undefA :: undefA :: undefA :: undefA :: undefA :: undefA :: undefA :: undefA :: undefA :: undefA :: undefA :: undefA :: undefA :: undefA :: undefA :: undefA :: undefA :: undefA :: undefA :: undefA :: undefA :: undefA :: undefA :: undefA :: undefA :: undefA :: undefA :: undefA :: undefA :: undefA :: undefA :: undefA :: undefA :: undefA :: undefA :: undefA :: undefA :: undefA :: undefA :: undefA :: undefA :: v59 :: undefA :: undefA :: undefA :: undefA :: undefA :: undefA :: undefA :: undefA :: undefA :: undefA :: undefA :: undefA :: undefA :: undefA :: undefA :: undefA :: undefA :: undefA :: undefA :: undefA :: undefA :: undefA :: undefA :: [], h⟩
noncomputable def L_ops_Encode_4_b (call : CallF) (h : Heap) (v1 v4 v5 v6 v21 v22 v23 : Value) : R :=
obnd (aBin Try.prog Go.BinOp.lss T_int v23 v22 (Go.Operand.tmp 23) (Go.Operand.tmp 22)) fun x20 =>
condF x20 (
obnd (aIndexAddr Try.prog T_Sops_field v21 v23) fun x21 =>
obnd (aLoad Try.prog T_ops_field h x21) fun x22 =>
anew (mkAlloc Try.prog T_ops_field) h fun p23 h24 =>
obnd (aStore Try.prog T_ops_field p23 x22 h24) fun h25 =>
obnd (aFieldAddr Try.prog T_api_Instr v1 1) fun x26 =>
obnd (aLoad Try.prog T_int64 h25 x26) fun x27 =>
obnd (aBin Try.prog Go.BinOp.eql T_int v23 (Go.Value.int Go.IntKind.i64 1) (Go.Operand.tmp 30) (Go.Operand.const (Go.Value.int Go.IntKind.i64 1))) fun x28 =>
condF x28 (
obnd (aFieldAddr Try.prog T_api_Instr v1 2) fun x29 =>
obnd (aLoad Try.prog T_int64 h25 x29) fun x30 =>
J_ops_Encode_9 call h25 v1 v4 v5 v6 p23 x30 v21 v22 v23) (
J_ops_Encode_9 call h25 v1 v4 v5 v6 p23 x27 v21 v22 v23)) (
J_ops_Encode_12 call h v1 v4 v5 v6)
theorem L_ops_Encode_4_wp {call : CallF} {h : Heap} {v1 v4 v5 v6 v21 v22 v23 : Value} {Q : Ret → Heap → Prop} (hr : WP (L_ops_Encode_4_b call h v1 v4 v5 v6 v21 v22 v23) Q) : WP (L_ops_Encode_4 call h v1 v4 v5 v6 v21 v22 v23) Q :=
  wp_step (fun x hx => iterW_round (runF_tail c_ops_Encode_bbbabkl) ((Eq.trans (by kernel_rfl) hx : runF Try.prog call keep_ops_Encode c_ops_Encode_bbbabkl ⟨undefA :: v1 :: undefA :: undefA :: v4 :: v5 :: v6 :: undefA :: undefA :: undefA :: undefA :: undefA :: undefA :: undefA :: undefA :: undefA :: undefA :: undefA :: undefA :: undefA :: undefA :: v21 :: v22 :: v23 :: undefA :: undefA :: undefA :: undefA :: undefA :: undefA :: undefA :: undefA :: undefA :: undefA :: undefA :: undefA :: undefA :: undefA :: undefA :: undefA :: undefA :: undefA :: undefA :: undefA :: undefA :: undefA :: undefA :: undefA :: undefA :: undefA :: undefA :: undefA :: undefA :: undefA :: undefA :: undefA :: undefA :: undefA :: undefA :: undefA :: undefA :: undefA :: undefA :: undefA :: undefA :: undefA :: undefA :: undefA :: undefA :: undefA :: undefA :: undefA :: undefA :: undefA :: undefA :: undefA :: undefA :: undefA :: undefA :: undefA :: undefA :: undefA :: undefA :: [], h⟩ (fLoop Try.prog call keep_ops_Encode c_ops_Encode_bbbabkl (kBlk 0 (fSeq Try.prog call keep_ops_Encode c_ops_Encode_bbbb k_ops_Encode))) = some x))) hr
noncomputable def J_ops_Encode_9_b (call : CallF) (h : Heap) (v1 v4 v5 v6 v8 v9 v21 v22 v23 : Value) : R :=
obnd (aLoad Try.prog T_ops_field h v8) fun x31 =>
retK (call fn_ops_number [v6, x31, v9] h) (fun x32 h33 =>
obnd (aExtract x32 0) fun x36 =>
obnd (aExtract x32 1) fun x37 =>
guardV3 v5 (
obnd (aBin Try.prog Go.BinOp.add T_int v23 (Go.Value.int Go.IntKind.i64 1) (Go.Operand.tmp 23) (Go.Operand.const (Go.Value.int Go.IntKind.i64 1))) fun x38 =>
L_ops_Encode_4 call h33 v1 v4 x37 x36 v21 v22 x38) (
obnd (aBin Try.prog Go.BinOp.add T_int v23 (Go.Value.int Go.IntKind.i64 1) (Go.Operand.tmp 23) (Go.Operand.const (Go.Value.int Go.IntKind.i64 1))) fun x39 =>
L_ops_Encode_4 call h33 v1 v4 (Go.Value.bool false) x36 v21 v22 x39) (
none)) (fun x34 h35 => some (Ret.pan x34, h35))
theorem J_ops_Encode_9_wp {call : CallF} {h : Heap} {v1 v4 v5 v6 v8 v9 v21 v22 v23 : Value} {Q : Ret → Heap → Prop} (hr : WP (J_ops_Encode_9_b call h v1 v4 v5 v6 v8 v9 v21 v22 v23) Q) : WP (J_ops_Encode_9 call h v1 v4 v5 v6 v8 v9 v21 v22 v23) Q := wp_eq (by kernel_rfl) hr
noncomputable def J_ops_Encode_12_b (call : CallF) (h : Heap) (v1 v4 v5 v6 : Value) : R :=
obnd (aFieldAddr Try.prog T_api_Instr v1 0) fun x40 =>
obnd (aLoad Try.prog T_uint8 h x40) fun x41 =>
obnd (aBin Try.prog Go.BinOp.eql T_uint8 x41 (Go.Value.int Go.IntKind.u8 49) (Go.Operand.tmp 48) (Go.Operand.const (Go.Value.int Go.IntKind.u8 49))) fun x42 =>
guardV3 x42 (
J_ops_Encode_1000014 call h v1 v4 v5 v6 v5) (
J_ops_Encode_1000014 call h v1 v4 v5 v6 (Go.Value.bool false)) (
none)
theorem J_ops_Encode_12_wp {call : CallF} {h : Heap} {v1 v4 v5 v6 : Value} {Q : Ret → Heap → Prop} (hr : WP (J_ops_Encode_12_b call h v1 v4 v5 v6) Q) : WP (J_ops_Encode_12 call h v1 v4 v5 v6) Q := wp_eq (by kernel_rfl) hr
noncomputable def J_ops_Encode_1000014_b (call : CallF) (h : Heap) (v1 v4 v5 v6 v46 : Value) : R :=
condF v46 (
obnd (aLoad Try.prog T_api_Instr h v1) fun x43 =>
retK (call fn_ops_arms [v6, x43] h) (fun x44 h45 =>
obnd (aExtract x44 0) fun x48 =>
obnd (aExtract x44 1) fun x49 =>
J_ops_Encode_18 call h45 x49 x48) (fun x46 h47 => some (Ret.pan x46, h47))) (
obnd (aFieldAddr Try.prog T_api_Instr v1 3) fun x50 =>
obnd (aLoad Try.prog T_Sapi_Arm h x50) fun x51 =>
obnd (aLen Try.prog T_Sapi_Arm x51) fun x52 =>
obnd (aBin Try.prog Go.BinOp.gtr T_int x52 (Go.Value.int Go.IntKind.i64 0) (Go.Operand.tmp 62) (Go.Operand.const (Go.Value.int Go.IntKind.i64 0))) fun x53 =>
condF x53 (
condF x53 (
J_ops_Encode_18 call h (Go.Value.bool false) v6) (
J_ops_Encode_18 call h v5 v6)) (
obnd (aLen Try.prog T_Sops_field v4) fun x54 =>
obnd (aBin Try.prog Go.BinOp.lss T_int x54 (Go.Value.int Go.IntKind.i64 2) (Go.Operand.tmp 65) (Go.Operand.const (Go.Value.int Go.IntKind.i64 2))) fun x55 =>
guardV3 x55 (
obnd (aFieldAddr Try.prog T_api_Instr v1 2) fun x56 =>
obnd (aLoad Try.prog T_int64 h x56) fun x57 =>
obnd (aBin Try.prog Go.BinOp.neq T_int64 x57 (Go.Value.int Go.IntKind.i64 0) (Go.Operand.tmp 69) (Go.Operand.const (Go.Value.int Go.IntKind.i64 0))) fun x58 =>
J_ops_Encode_2000016 call h v1 v4 v5 v6 x58) (
J_ops_Encode_2000016 call h v1 v4 v5 v6 (Go.Value.bool false)) (
none)))
theorem J_ops_Encode_1000014_wp {call : CallF} {h : Heap} {v1 v4 v5 v6 v46 : Value} {Q : Ret → Heap → Prop} (hr : WP (J_ops_Encode_1000014_b call h v1 v4 v5 v6 v46) Q) : WP (J_ops_Encode_1000014 call h v1 v4 v5 v6 v46) Q := wp_eq (by kernel_rfl) hr
noncomputable def J_ops_Encode_18_b (call : CallF) (h : Heap) (v5 v6 : Value) : R :=
obnd (aUn Try.prog Go.UnOp.not v5) fun x59 =>
condF x59 (
some (Ret.ret (Value.tuple ⟨[(Go.Value.slice none 0 0), (Go.Value.int Go.IntKind.i64 120)]⟩), h)) (
some (Ret.ret (Value.tuple ⟨[v6, (Go.Value.int Go.IntKind.i64 0)]⟩), h))
theorem J_ops_Encode_18_wp {call : CallF} {h : Heap} {v5 v6 : Value} {Q : Ret → Heap → Prop} (hr : WP (J_ops_Encode_18_b call h v5 v6) Q) : WP (J_ops_Encode_18 call h v5 v6) Q := wp_eq (by kernel_rfl) hr
noncomputable def J_ops_Encode_2000016_b (call : CallF) (h : Heap) (v1 v4 v5 v6 v59 : Value) : R :=
condF v59 (
condF v59 (
J_ops_Encode_18 call h (Go.Value.bool false) v6) (
J_ops_Encode_18 call h v5 v6)) (
obnd (aLen Try.prog T_Sops_field v4) fun x60 =>
obnd (aBin Try.prog Go.BinOp.lss T_int x60 (Go.Value.int Go.IntKind.i64 1) (Go.Operand.tmp 73) (Go.Operand.const (Go.Value.int Go.IntKind.i64 1))) fun x61 =>
guardV3 x61 (
obnd (aFieldAddr Try.prog T_api_Instr v1 1) fun x62 =>
obnd (aLoad Try.prog T_int64 h x62) fun x63 =>
obnd (aBin Try.prog Go.BinOp.neq T_int64 x63 (Go.Value.int Go.IntKind.i64 0) (Go.Operand.tmp 77) (Go.Operand.const (Go.Value.int Go.IntKind.i64 0))) fun x64 =>
condF x64 (
J_ops_Encode_18 call h (Go.Value.bool false) v6) (
J_ops_Encode_18 call h v5 v6)) (
J_ops_Encode_18 call h v5 v6) (
none))
theorem J_ops_Encode_2000016_wp {call : CallF} {h : Heap} {v1 v4 v5 v6 v59 : Value} {Q : Ret → Heap → Prop} (hr : WP (J_ops_Encode_2000016_b call h v1 v4 v5 v6 v59) Q) : WP (J_ops_Encode_2000016 call h v1 v4 v5 v6 v59) Q := wp_eq (by kernel_rfl) hr
noncomputable def B_ops_Encode (call : CallF) (h : Heap) (v0 : Value) : R :=
anew (mkBox T_api_Instr v0) h fun p1 h2 =>
obnd (aFieldAddr Try.prog T_api_Instr p1 0) fun x3 =>
obnd (aLoad Try.prog T_uint8 h2 x3) fun x4 =>
retK (call fn_ops_layout [x4] h2) (fun x5 h6 =>
obnd (aExtract x5 0) fun x9 =>
obnd (aExtract x5 1) fun x10 =>
obnd (aFieldAddr Try.prog T_api_Instr p1 0) fun x11 =>
obnd (aLoad Try.prog T_uint8 h6 x11) fun x12 =>
anew (mkLit Try.prog T_Suint8 1 [(0, x12)]) h6 fun p13 h14 =>
retK (call fn_ops_put [(Go.Value.slice none 0 0), p13] h14) (fun x15 h16 =>
obnd (aLen Try.prog T_Sops_field x9) fun x19 =>
L_ops_Encode_4 call h16 p1 x9 x10 x15 x9 x19 (Go.Value.int Go.IntKind.i64 0)) (fun x17 h18 => some (Ret.pan x17, h18))) (fun x7 h8 => some (Ret.pan x7, h8))
theorem R_ops_Encode {call : CallF} {h : Heap} {v0 : Value} {Q : Ret → Heap → Prop} (hr : WP (B_ops_Encode call h v0) Q) : WP (runF Try.prog call keep_ops_Encode c_ops_Encode ⟨[v0] ++ List.replicate (Try.f34.ntmps - 1) undefA, h⟩ k_ops_Encode) Q := wp_eq (by kernel_rfl) hr
theorem F_ops_Encode {h : Heap} {v0 : Value} {Q : Ret → Heap → Prop} (hr : WP (B_ops_Encode (callW E) h v0) Q) : WP (callW E fn_ops_Encode [v0] h) Q := wp_callW (fn := Try.f34) (c := c_ops_Encode) (kp := keep_ops_Encode) (by kernel_rfl) (by kernel_rfl) (by kernel_rfl) (by kernel_rfl) (by kernel_rfl) (R_ops_Encode hr)
/-! ### 35 trammel/ops.Size -/
noncomputable def c_ops_Size : Code := bodyOf Try.f35
noncomputable def k_ops_Size : Kt := endK Try.prog Try.f35
noncomputable def B_ops_Size (call : CallF) (h : Heap) (v0 : Value) : R :=
anew (mkBox T_api_Instr v0) h fun p1 h2 =>
obnd (aLoad Try.prog T_api_Instr h2 p1) fun x3 =>
retK (call fn_ops_Encode [x3] h2) (fun x4 h5 =>
obnd (aExtract x4 0) fun x8 =>
obnd (aExtract x4 1) fun x9 =>
obnd (aLen Try.prog T_Suint8 x8) fun x10 =>
some (Ret.ret x10, h5)) (fun x6 h7 => some (Ret.pan x6, h7))
theorem R_ops_Size {call : CallF} {h : Heap} {v0 : Value} {Q : Ret → Heap → Prop} (hr : WP (B_ops_Size call h v0) Q) : WP (runF Try.prog call keep_ops_Size c_ops_Size ⟨[v0] ++ List.replicate (Try.f35.ntmps - 1) undefA, h⟩ k_ops_Size) Q := wp_eq (by kernel_rfl) hr
theorem F_ops_Size {h : Heap} {v0 : Value} {Q : Ret → Heap → Prop} (hr : WP (B_ops_Size (callW E) h v0) Q) : WP (callW E fn_ops_Size [v0] h) Q := wp_callW (fn := Try.f35) (c := c_ops_Size) (kp := keep_ops_Size) (by kernel_rfl) (by kernel_rfl) (by kernel_rfl) (by kernel_rfl) (by kernel_rfl) (R_ops_Size hr)
/-! ### 56 trammel/ops.Name -/
noncomputable def c_ops_Name : Code := bodyOf Try.f56
noncomputable def k_ops_Name : Kt := endK Try.prog Try.f56
noncomputable def B_ops_Name (call : CallF) (h : Heap) (v0 : Value) : R :=
obnd (aBuild Try.prog T_53_string [(0, (Go.Value.string { data := #[] })), (1, (Go.Value.string { data := #[105, 56] })), (2, (Go.Value.string { data := #[105, 51, 50] })), (3, (Go.Value.string { data := #[105, 54, 52] })), (4, (Go.Value.string { data := #[116, 114, 117, 101] })), (5, (Go.Value.string { data := #[102, 97, 108, 115, 101] })), (6, (Go.Value.string { data := #[116, 101, 120, 116] })), (7, (Go.Value.string { data := #[103, 101, 116] })), (8, (Go.Value.string { data := #[112, 117, 116] })), (9, (Go.Value.string { data := #[112, 111, 112] })), (10, (Go.Value.string { data := #[100, 117, 112] })), (11, (Go.Value.string { data := #[97, 100, 100] })), (12, (Go.Value.string { data := #[115, 117, 98] })), (13, (Go.Value.string { data := #[109, 117, 108] })), (14, (Go.Value.string { data := #[100, 105, 118] })), (15, (Go.Value.string { data := #[114, 101, 109] })), (16, (Go.Value.string { data := #[97, 110, 100] })), (17, (Go.Value.string { data := #[111, 114] })), (18, (Go.Value.string { data := #[120, 111, 114] })), (19, (Go.Value.string { data := #[115, 104, 108] })), (20, (Go.Value.string { data := #[115, 104, 114] })), (21, (Go.Value.string { data := #[110, 101, 103] })), (22, (Go.Value.string { data := #[110, 111, 116] })), (23, (Go.Value.string { data := #[101, 113] })), (24, (Go.Value.string { data := #[110, 101] })), (25, (Go.Value.string { data := #[108, 116] })), (26, (Go.Value.string { data := #[108, 101] })), (27, (Go.Value.string { data := #[103, 116] })), (28, (Go.Value.string { data := #[103, 101] })), (29, (Go.Value.string { data := #[99, 111, 110, 118] })), (30, (Go.Value.string { data := #[102, 108, 105, 112] })), (31, (Go.Value.string { data := #[99, 97, 116] })), (32, (Go.Value.string { data := #[115, 105, 122, 101] })), (33, (Go.Value.string { data := #[99, 104, 97, 114, 97, 116] })), (34, (Go.Value.string { data := #[99, 117, 116] })), (35, (Go.Value.string { data := #[98, 121, 116, 101] })), (36, (Go.Value.string { data := #[110, 101, 119] })), (37, (Go.Value.string { data := #[102, 105, 101, 108, 100] })), (38, (Go.Value.string { data := #[115, 101, 116, 102, 105, 101, 108, 100] })), (39, (Go.Value.string { data := #[102, 105, 108, 108] })), (40, (Go.Value.string { data := #[101, 109, 112, 116, 121] })), (41, (Go.Value.string { data := #[97, 116] })), (42, (Go.Value.string { data := #[115, 101, 116, 97, 116] })), (43, (Go.Value.string { data := #[108, 101, 110] })), (44, (Go.Value.string { data := #[112, 117, 115, 104] })), (45, (Go.Value.string { data := #[100, 114, 111, 112] })), (46, (Go.Value.string { data := #[106, 117, 109, 112] })), (47, (Go.Value.string { data := #[117, 110, 108, 101, 115, 115] })), (48, (Go.Value.string { data := #[119, 104, 101, 110] })), (49, (Go.Value.string { data := #[115, 119, 105, 116, 99, 104] })), (50, (Go.Value.string { data := #[99, 97, 108, 108] })), (51, (Go.Value.string { data := #[114, 101, 116, 117, 114, 110] })), (52, (Go.Value.string { data := #[116, 114, 97, 112] }))]) fun x1 =>
anew (mkAlloc Try.prog T_53_string) h fun p2 h3 =>
obnd (aStore Try.prog T_53_string p2 x1 h3) fun h4 =>
obnd (aConv Try.prog T_uint8 T_int v0) fun x5 =>
obnd (aBin Try.prog Go.BinOp.lss T_int x5 (Go.Value.int Go.IntKind.i64 53) (Go.Operand.tmp 6) (Go.Operand.const (Go.Value.int Go.IntKind.i64 53))) fun x6 =>
condF x6 (
obnd (aIndexAddr Try.prog T_53_string p2 v0) fun x7 =>
obnd (aLoad Try.prog T_string h4 x7) fun x8 =>
some (Ret.ret x8, h4)) (
some (Ret.ret (Go.Value.string { data := #[] }), h4))
theorem R_ops_Name {call : CallF} {h : Heap} {v0 : Value} {Q : Ret → Heap → Prop} (hr : WP (B_ops_Name call h v0) Q) : WP (runF Try.prog call keep_ops_Name c_ops_Name ⟨[v0] ++ List.replicate (Try.f56.ntmps - 1) undefA, h⟩ k_ops_Name) Q := wp_eq (by kernel_rfl) hr
theorem F_ops_Name {h : Heap} {v0 : Value} {Q : Ret → Heap → Prop} (hr : WP (B_ops_Name (callW E) h v0) Q) : WP (callW E fn_ops_Name [v0] h) Q := wp_callW (fn := Try.f56) (c := c_ops_Name) (kp := keep_ops_Name) (by kernel_rfl) (by kernel_rfl) (by kernel_rfl) (by kernel_rfl) (by kernel_rfl) (R_ops_Name hr)
/-! ### 57 trammel/trammelref12.parts -/
noncomputable def c_trammelref12_parts : Code := bodyOf Try.f57
noncomputable def k_trammelref12_parts : Kt := endK Try.prog Try.f57
noncomputable def c_trammelref12_parts_b : Code := sB c_trammelref12_parts
noncomputable def c_trammelref12_parts_bb : Code := sB c_trammelref12_parts_b
noncomputable def c_trammelref12_parts_ba : Code := sA c_trammelref12_parts_b
noncomputable def c_trammelref12_parts_bak : Code := sK c_trammelref12_parts_ba
noncomputable def c_trammelref12_parts_bakb : Code := sB c_trammelref12_parts_bak
noncomputable def c_trammelref12_parts_bakbe : Code := cE c_trammelref12_parts_bakb
noncomputable def c_trammelref12_parts_bakbeb : Code := sB c_trammelref12_parts_bakbe
noncomputable def c_trammelref12_parts_bakbebe : Code := cE c_trammelref12_parts_bakbeb
noncomputable def c_trammelref12_parts_bakbebeb : Code := sB c_trammelref12_parts_bakbebe
noncomputable def c_trammelref12_parts_bakbebebe : Code := cE c_trammelref12_parts_bakbebeb
noncomputable def c_trammelref12_parts_bakbebebeb : Code := sB c_trammelref12_parts_bakbebebe
noncomputable def c_trammelref12_parts_bakbebebebe : Code := cE c_trammelref12_parts_bakbebebeb
noncomputable def c_trammelref12_parts_bakbebebebeb : Code := sB c_trammelref12_parts_bakbebebebe
noncomputable def c_trammelref12_parts_bakbebebebebe : Code := cE c_trammelref12_parts_bakbebebebeb
noncomputable def c_trammelref12_parts_bakbebebebebeb : Code := sB c_trammelref12_parts_bakbebebebebe
noncomputable def c_trammelref12_parts_bakbebebebebebe : Code := cE c_trammelref12_parts_bakbebebebebeb
noncomputable def c_trammelref12_parts_bakbebebebebebeb : Code := sB c_trammelref12_parts_bakbebebebebebe
noncomputable def c_trammelref12_parts_bakbebebebebebebe : Code := cE c_trammelref12_parts_bakbebebebebebeb
noncomputable def c_trammelref12_parts_bakbebebebebebebeb : Code := sB c_trammelref12_parts_bakbebebebebebebe
noncomputable def c_trammelref12_parts_bakbebebebebebebebe : Code := cE c_trammelref12_parts_bakbebebebebebebeb
noncomputable def c_trammelref12_parts_bakbebebebebebebebeb : Code := sB c_trammelref12_parts_bakbebebebebebebebe
noncomputable def J_trammelref12_parts_1000009 (call : CallF) (h : Heap) (v0 v19 : Value) : R := fSeq Try.prog call keep_trammelref12_parts c_trammelref12_parts_bakbebebeb (kBlk 0 (fSeq Try.prog call keep_trammelref12_parts c_trammelref12_parts_bb k_trammelref12_parts)) Ex.normal ⟨v0 :: undefA :: undefA :: undefA :: undefA :: undefA :: undefA :: undefA :: undefA :: undefA :: undefA :: undefA :: undefA :: undefA :: undefA :: undefA :: undefA :: undefA :: undefA :: v19 :: undefA :: undefA :: undefA :: undefA :: undefA :: undefA :: undefA :: undefA :: undefA :: undefA :: undefA :: undefA :: undefA :: undefA :: undefA :: undefA :: undefA :: undefA :: undefA :: undefA :: undefA :: undefA :: undefA :: undefA :: undefA :: undefA :: undefA :: undefA :: undefA :: undefA :: undefA :: undefA :: undefA :: undefA :: undefA :: undefA :: undefA :: undefA :: undefA :: undefA :: undefA :: undefA :: undefA :: undefA :: undefA :: undefA :: undefA :: undefA :: undefA :: undefA :: undefA :: undefA :: undefA :: undefA :: undefA :: undefA :: undefA :: undefA :: undefA :: undefA :: undefA :: undefA :: undefA :: undefA :: undefA :: undefA :: undefA :: undefA :: undefA :: undefA :: undefA :: undefA :: undefA :: undefA :: undefA :: undefA :: undefA :: undefA :: undefA :: undefA :: undefA :: undefA :: undefA :: undefA :: undefA :: undefA :: undefA :: undefA :: undefA :: undefA :: undefA :: [], h⟩
noncomputable def J_trammelref12_parts_1000011 (call : CallF) (h : Heap) (v0 v48 : Value) : R := fSeq Try.prog call keep_trammelref12_parts c_trammelref12_parts_bakbebebebeb (kBlk 0 (fSeq Try.prog call keep_trammelref12_parts c_trammelref12_parts_bb k_trammelref12_parts)) Ex.normal ⟨v0 :: undefA :: undefA :: undefA :: undefA :: undefA :: undefA :: undefA :: undefA :: undefA :: undefA :: undefA :: undefA :: undefA :: undefA :: undefA :: undefA :: undefA :: undefA :: undefA :: undefA :: undefA :: undefA :: undefA :: undefA :: undefA :: undefA :: undefA :: undefA :: undefA :: undefA :: undefA :: undefA :: undefA :: undefA :: undefA :: undefA :: undefA :: undefA :: undefA :: undefA :: undefA :: undefA :: undefA :: undefA :: undefA :: undefA :: undefA :: v48 :: undefA :: undefA :: undefA :: undefA :: undefA :: undefA :: undefA :: undefA :: undefA :: undefA :: undefA :: undefA :: undefA :: undefA :: undefA :: undefA :: undefA :: undefA :: undefA :: undefA :: undefA :: undefA :: undefA :: undefA :: undefA :: undefA :: undefA :: undefA :: undefA :: undefA :: undefA :: undefA :: undefA :: undefA :: undefA :: undefA :: undefA :: undefA :: undefA :: undefA :: undefA :: undefA :: undefA :: undefA :: undefA :: undefA :: undefA :: undefA :: undefA :: undefA :: undefA :: undefA :: undefA :: undefA :: undefA :: undefA :: undefA :: undefA :: undefA :: undefA :: undefA :: undefA :: [], h⟩
noncomputable def J_trammelref12_parts_1000013 (call : CallF) (h : Heap) (v0 v58 : Value) : R := fSeq Try.prog call keep_trammelref12_parts c_trammelref12_parts_bakbebebebebeb (kBlk 0 (fSeq Try.prog call keep_trammelref12_parts c_trammelref12_parts_bb k_trammelref12_parts)) Ex.normal ⟨v0 :: undefA :: undefA :: undefA :: undefA :: undefA :: undefA :: undefA :: undefA :: undefA :: undefA :: undefA :: undefA :: undefA :: undefA :: undefA :: undefA :: undefA :: undefA :: undefA :: undefA :: undefA :: undefA :: undefA :: undefA :: undefA :: undefA :: undefA :: undefA :: undefA :: undefA :: undefA :: undefA :: undefA :: undefA :: undefA :: undefA :: undefA :: undefA :: undefA :: undefA :: undefA :: undefA :: undefA :: undefA :: undefA :: undefA :: undefA :: undefA :: undefA :: undefA :: undefA :: undefA :: undefA :: undefA :: undefA :: undefA :: undefA :: v58 :: undefA :: undefA :: undefA :: undefA :: undefA :: undefA :: undefA :: undefA :: undefA :: undefA :: undefA :: undefA :: undefA :: undefA :: undefA :: undefA :: undefA :: undefA :: undefA :: undefA :: undefA :: undefA :: undefA :: undefA :: undefA :: undefA :: undefA :: undefA :: undefA :: undefA :: undefA :: undefA :: undefA :: undefA :: undefA :: undefA :: undefA :: undefA :: undefA :: undefA :: undefA :: undefA :: undefA :: undefA :: undefA :: undefA :: undefA :: undefA :: undefA :: undefA :: undefA :: undefA :: [], h⟩
noncomputable def J_trammelref12_parts_1000015 (call : CallF) (h : Heap) (v0 v67 : Value) : R := fSeq Try.prog call keep_trammelref12_parts c_trammelref12_parts_bakbebebebebebeb (kBlk 0 (fSeq Try.prog call keep_trammelref12_parts c_trammelref12_parts_bb k_trammelref12_parts)) Ex.normal ⟨v0 :: undefA :: undefA :: undefA :: undefA :: undefA :: undefA :: undefA :: undefA :: undefA :: undefA :: undefA :: undefA :: undefA :: undefA :: undefA :: undefA :: undefA :: undefA :: undefA :: undefA :: undefA :: undefA :: undefA :: undefA :: undefA :: undefA :: undefA :: undefA :: undefA :: undefA :: undefA :: undefA :: undefA :: undefA :: undefA :: undefA :: undefA :: undefA :: undefA :: undefA :: undefA :: undefA :: undefA :: undefA :: undefA :: undefA :: undefA :: undefA :: undefA :: undefA :: undefA :: undefA :: undefA :: undefA :: undefA :: undefA :: undefA :: undefA :: undefA :: undefA :: undefA :: undefA :: undefA :: undefA :: undefA :: undefA :: v67 :: undefA :: undefA :: undefA :: undefA :: undefA :: undefA :: undefA :: undefA :: undefA :: undefA :: undefA :: undefA :: undefA :: undefA :: undefA :: undefA :: undefA :: undefA :: undefA :: undefA :: undefA :: undefA :: undefA :: undefA :: undefA :: undefA :: undefA :: undefA :: undefA :: undefA :: undefA :: undefA :: undefA :: undefA :: undefA :: undefA :: undefA :: undefA :: undefA :: undefA :: undefA :: undefA :: undefA :: [], h⟩
noncomputable def J_trammelref12_parts_1000019 (call : CallF) (h : Heap) (v0 v82 : Value) : R := fSeq Try.prog call keep_trammelref12_parts c_trammelref12_parts_bakbebebebebebebebeb (kBlk 0 (fSeq Try.prog call keep_trammelref12_parts c_trammelref12_parts_bb k_trammelref12_parts)) Ex.normal ⟨v0 :: undefA :: undefA :: undefA :: undefA :: undefA :: undefA :: undefA :: undefA :: undefA :: undefA :: undefA :: undefA :: undefA :: undefA :: undefA :: undefA :: undefA :: undefA :: undefA :: undefA :: undefA :: undefA :: undefA :: undefA :: undefA :: undefA :: undefA :: undefA :: undefA :: undefA :: undefA :: undefA :: undefA :: undefA :: undefA :: undefA :: undefA :: undefA :: undefA :: undefA :: undefA :: undefA :: undefA :: undefA :: undefA :: undefA :: undefA :: undefA :: undefA :: undefA :: undefA :: undefA :: undefA :: undefA :: undefA :: undefA :: undefA :: undefA :: undefA :: undefA :: undefA :: undefA :: undefA :: undefA :: undefA :: undefA :: undefA :: undefA :: undefA :: undefA :: undefA :: undefA :: undefA :: undefA :: undefA :: undefA :: undefA :: undefA :: undefA :: undefA :: undefA :: v82 :: undefA :: undefA :: undefA :: undefA :: undefA :: undefA :: undefA :: undefA :: undefA :: undefA :: undefA :: undefA :: undefA :: undefA :: undefA :: undefA :: undefA :: undefA :: undefA :: undefA :: undefA :: undefA :: undefA :: undefA :: undefA :: undefA :: undefA :: undefA :: [], h⟩
noncomputable def J_trammelref12_parts_1000009_b (call : CallF) (h : Heap) (v0 v19 : Value) : R :=
condF v19 (
retK (call fn_trammelref12_place [] h) (fun x20 h21 =>
anew (mkLit Try.prog T_Strammelref12_part 1 [(0, x20)]) h21 fun p24 h25 =>
some (Ret.ret (Value.tuple ⟨[p24, (Go.Value.bool true)]⟩), h25)) (fun x22 h23 => some (Ret.pan x22, h23))) (
obnd (aBin Try.prog Go.BinOp.eql T_uint8 v0 (Go.Value.int Go.IntKind.u8 37) (Go.Operand.tmp 49) (Go.Operand.const (Go.Value.int Go.IntKind.u8 37))) fun x26 =>
guardV3 x26 (
J_trammelref12_parts_1000011 call h v0 (Go.Value.bool true)) (
obnd (aBin Try.prog Go.BinOp.eql T_uint8 v0 (Go.Value.int Go.IntKind.u8 38) (Go.Operand.tmp 52) (Go.Operand.const (Go.Value.int Go.IntKind.u8 38))) fun x27 =>
J_trammelref12_parts_1000011 call h v0 x27) (
none))
theorem J_trammelref12_parts_1000009_wp {call : CallF} {h : Heap} {v0 v19 : Value} {Q : Ret → Heap → Prop} (hr : WP (J_trammelref12_parts_1000009_b call h v0 v19) Q) : WP (J_trammelref12_parts_1000009 call h v0 v19) Q := wp_eq (by kernel_rfl) hr
noncomputable def J_trammelref12_parts_1000011_b (call : CallF) (h : Heap) (v0 v48 : Value) : R :=
condF v48 (
retK (call fn_trammelref12_place [] h) (fun x28 h29 =>
retK (call fn_trammelref12_place [] h29) (fun x32 h33 =>
anew (mkLit Try.prog T_Strammelref12_part 2 [(0, x28), (1, x32)]) h33 fun p36 h37 =>
some (Ret.ret (Value.tuple ⟨[p36, (Go.Value.bool true)]⟩), h37)) (fun x34 h35 => some (Ret.pan x34, h35))) (fun x30 h31 => some (Ret.pan x30, h31))) (
obnd (aBin Try.prog Go.BinOp.eql T_uint8 v0 (Go.Value.int Go.IntKind.u8 23) (Go.Operand.tmp 59) (Go.Operand.const (Go.Value.int Go.IntKind.u8 23))) fun x38 =>
guardV3 x38 (
J_trammelref12_parts_1000013 call h v0 (Go.Value.bool true)) (
obnd (aBin Try.prog Go.BinOp.eql T_uint8 v0 (Go.Value.int Go.IntKind.u8 24) (Go.Operand.tmp 62) (Go.Operand.const (Go.Value.int Go.IntKind.u8 24))) fun x39 =>
J_trammelref12_parts_1000013 call h v0 x39) (
none))
theorem J_trammelref12_parts_1000011_wp {call : CallF} {h : Heap} {v0 v48 : Value} {Q : Ret → Heap → Prop} (hr : WP (J_trammelref12_parts_1000011_b call h v0 v48) Q) : WP (J_trammelref12_parts_1000011 call h v0 v48) Q := wp_eq (by kernel_rfl) hr
noncomputable def J_trammelref12_parts_1000013_b (call : CallF) (h : Heap) (v0 v58 : Value) : R :=
condF v58 (
retK (call fn_trammelref12_width [(Go.Value.int Go.IntKind.i64 5)] h) (fun x40 h41 =>
anew (mkLit Try.prog T_Strammelref12_part 1 [(0, x40)]) h41 fun p44 h45 =>
some (Ret.ret (Value.tuple ⟨[p44, (Go.Value.bool true)]⟩), h45)) (fun x42 h43 => some (Ret.pan x42, h43))) (
obnd (aBin Try.prog Go.BinOp.geq T_uint8 v0 (Go.Value.int Go.IntKind.u8 11) (Go.Operand.tmp 68) (Go.Operand.const (Go.Value.int Go.IntKind.u8 11))) fun x46 =>
guardV3 x46 (
obnd (aBin Try.prog Go.BinOp.leq T_uint8 v0 (Go.Value.int Go.IntKind.u8 28) (Go.Operand.tmp 71) (Go.Operand.const (Go.Value.int Go.IntKind.u8 28))) fun x47 =>
J_trammelref12_parts_1000015 call h v0 x47) (
J_trammelref12_parts_1000015 call h v0 (Go.Value.bool false)) (
none))
theorem J_trammelref12_parts_1000013_wp {call : CallF} {h : Heap} {v0 v58 : Value} {Q : Ret → Heap → Prop} (hr : WP (J_trammelref12_parts_1000013_b call h v0 v58) Q) : WP (J_trammelref12_parts_1000013 call h v0 v58) Q := wp_eq (by kernel_rfl) hr
noncomputable def J_trammelref12_parts_1000015_b (call : CallF) (h : Heap) (v0 v67 : Value) : R :=
condF v67 (
retK (call fn_trammelref12_width [(Go.Value.int Go.IntKind.i64 3)] h) (fun x48 h49 =>
anew (mkLit Try.prog T_Strammelref12_part 1 [(0, x48)]) h49 fun p52 h53 =>
some (Ret.ret (Value.tuple ⟨[p52, (Go.Value.bool true)]⟩), h53)) (fun x50 h51 => some (Ret.pan x50, h51))) (
obnd (aBin Try.prog Go.BinOp.eql T_uint8 v0 (Go.Value.int Go.IntKind.u8 29) (Go.Operand.tmp 77) (Go.Operand.const (Go.Value.int Go.IntKind.u8 29))) fun x54 =>
condF x54 (
retK (call fn_trammelref12_width [(Go.Value.int Go.IntKind.i64 3)] h) (fun x55 h56 =>
retK (call fn_trammelref12_width [(Go.Value.int Go.IntKind.i64 3)] h56) (fun x59 h60 =>
anew (mkLit Try.prog T_Strammelref12_part 2 [(0, x55), (1, x59)]) h60 fun p63 h64 =>
some (Ret.ret (Value.tuple ⟨[p63, (Go.Value.bool true)]⟩), h64)) (fun x61 h62 => some (Ret.pan x61, h62))) (fun x57 h58 => some (Ret.pan x57, h58))) (
obnd (aBin Try.prog Go.BinOp.eql T_uint8 v0 (Go.Value.int Go.IntKind.u8 46) (Go.Operand.tmp 83) (Go.Operand.const (Go.Value.int Go.IntKind.u8 46))) fun x65 =>
guardV3 x65 (
J_trammelref12_parts_1000019 call h v0 (Go.Value.bool true)) (
obnd (aBin Try.prog Go.BinOp.eql T_uint8 v0 (Go.Value.int Go.IntKind.u8 47) (Go.Operand.tmp 86) (Go.Operand.const (Go.Value.int Go.IntKind.u8 47))) fun x66 =>
guardV3 x66 (
J_trammelref12_parts_1000019 call h v0 (Go.Value.bool true)) (
obnd (aBin Try.prog Go.BinOp.eql T_uint8 v0 (Go.Value.int Go.IntKind.u8 48) (Go.Operand.tmp 90) (Go.Operand.const (Go.Value.int Go.IntKind.u8 48))) fun x67 =>
J_trammelref12_parts_1000019 call h v0 x67) (
none)) (
none)))
theorem J_trammelref12_parts_1000015_wp {call : CallF} {h : Heap} {v0 v67 : Value} {Q : Ret → Heap → Prop} (hr : WP (J_trammelref12_parts_1000015_b call h v0 v67) Q) : WP (J_trammelref12_parts_1000015 call h v0 v67) Q := wp_eq (by kernel_rfl) hr
noncomputable def J_trammelref12_parts_1000019_b (call : CallF) (h : Heap) (v0 v82 : Value) : R :=
condF v82 (
retK (call fn_trammelref12_leap [] h) (fun x68 h69 =>
anew (mkLit Try.prog T_Strammelref12_part 1 [(0, x68)]) h69 fun p72 h73 =>
some (Ret.ret (Value.tuple ⟨[p72, (Go.Value.bool true)]⟩), h73)) (fun x70 h71 => some (Ret.pan x70, h71))) (
obnd (aBin Try.prog Go.BinOp.eql T_uint8 v0 (Go.Value.int Go.IntKind.u8 52) (Go.Operand.tmp 96) (Go.Operand.const (Go.Value.int Go.IntKind.u8 52))) fun x74 =>
condF x74 (
obnd (aBuild Try.prog T_trammelref12_part [(0, (Go.Value.int Go.IntKind.i64 1)), (2, (Go.Value.int Go.IntKind.i64 255))]) fun x75 =>
anew (mkLit Try.prog T_Strammelref12_part 1 [(0, x75)]) h fun p76 h77 =>
some (Ret.ret (Value.tuple ⟨[p76, (Go.Value.bool true)]⟩), h77)) (
obnd (aBin Try.prog Go.BinOp.eql T_uint8 v0 (Go.Value.int Go.IntKind.u8 49) (Go.Operand.tmp 101) (Go.Operand.const (Go.Value.int Go.IntKind.u8 49))) fun x78 =>
condF x78 (
retK (call fn_trammelref12_width [(Go.Value.int Go.IntKind.i64 3)] h) (fun x79 h80 =>
anew (mkLit Try.prog T_Strammelref12_part 1 [(0, x79)]) h80 fun p83 h84 =>
some (Ret.ret (Value.tuple ⟨[p83, (Go.Value.bool true)]⟩), h84)) (fun x81 h82 => some (Ret.pan x81, h82))) (
obnd (aBin Try.prog Go.BinOp.geq T_uint8 v0 (Go.Value.int Go.IntKind.u8 1) (Go.Operand.tmp 105) (Go.Operand.const (Go.Value.int Go.IntKind.u8 1))) fun x85 =>
guardV3 x85 (
obnd (aBin Try.prog Go.BinOp.leq T_uint8 v0 (Go.Value.int Go.IntKind.u8 52) (Go.Operand.tmp 108) (Go.Operand.const (Go.Value.int Go.IntKind.u8 52))) fun x86 =>
some (Ret.ret (Value.tuple ⟨[(Go.Value.slice none 0 0), x86]⟩), h)) (
some (Ret.ret (Value.tuple ⟨[(Go.Value.slice none 0 0), (Go.Value.bool false)]⟩), h)) (
none))))
theorem J_trammelref12_parts_1000019_wp {call : CallF} {h : Heap} {v0 v82 : Value} {Q : Ret → Heap → Prop} (hr : WP (J_trammelref12_parts_1000019_b call h v0 v82) Q) : WP (J_trammelref12_parts_1000019 call h v0 v82) Q := wp_eq (by kernel_rfl) hr
noncomputable def B_trammelref12_parts (call : CallF) (h : Heap) (v0 : Value) : R :=
obnd (aBin Try.prog Go.BinOp.eql T_uint8 v0 (Go.Value.int Go.IntKind.u8 1) (Go.Operand.tmp 5) (Go.Operand.const (Go.Value.int Go.IntKind.u8 1))) fun x1 =>
condF x1 (
obnd (aBuild Try.prog T_trammelref12_part [(0, (Go.Value.int Go.IntKind.i64 1)), (1, (Go.Value.int Go.IntKind.i64 (-128))), (2, (Go.Value.int Go.IntKind.i64 127)), (3, (Go.Value.bool true))]) fun x2 =>
anew (mkLit Try.prog T_Strammelref12_part 1 [(0, x2)]) h fun p3 h4 =>
some (Ret.ret (Value.tuple ⟨[p3, (Go.Value.bool true)]⟩), h4)) (
obnd (aBin Try.prog Go.BinOp.eql T_uint8 v0 (Go.Value.int Go.IntKind.u8 2) (Go.Operand.tmp 10) (Go.Operand.const (Go.Value.int Go.IntKind.u8 2))) fun x5 =>
condF x5 (
obnd (aBuild Try.prog T_trammelref12_part [(0, (Go.Value.int Go.IntKind.i64 4)), (1, (Go.Value.int Go.IntKind.i64 (-2147483648))), (2, (Go.Value.int Go.IntKind.i64 2147483647)), (3, (Go.Value.bool true))]) fun x6 =>
anew (mkLit Try.prog T_Strammelref12_part 1 [(0, x6)]) h fun p7 h8 =>
some (Ret.ret (Value.tuple ⟨[p7, (Go.Value.bool true)]⟩), h8)) (
obnd (aBin Try.prog Go.BinOp.eql T_uint8 v0 (Go.Value.int Go.IntKind.u8 3) (Go.Operand.tmp 15) (Go.Operand.const (Go.Value.int Go.IntKind.u8 3))) fun x9 =>
condF x9 (
obnd (aBuild Try.prog T_trammelref12_part [(0, (Go.Value.int Go.IntKind.i64 8)), (1, (Go.Value.int Go.IntKind.i64 (-9223372036854775808))), (2, (Go.Value.int Go.IntKind.i64 9223372036854775807)), (3, (Go.Value.bool true))]) fun x10 =>
anew (mkLit Try.prog T_Strammelref12_part 1 [(0, x10)]) h fun p11 h12 =>
some (Ret.ret (Value.tuple ⟨[p11, (Go.Value.bool true)]⟩), h12)) (
obnd (aBin Try.prog Go.BinOp.eql T_uint8 v0 (Go.Value.int Go.IntKind.u8 6) (Go.Operand.tmp 20) (Go.Operand.const (Go.Value.int Go.IntKind.u8 6))) fun x13 =>
guardV3 x13 (
J_trammelref12_parts_1000009 call h v0 (Go.Value.bool true)) (
obnd (aBin Try.prog Go.BinOp.eql T_uint8 v0 (Go.Value.int Go.IntKind.u8 7) (Go.Operand.tmp 23) (Go.Operand.const (Go.Value.int Go.IntKind.u8 7))) fun x14 =>
guardV3 x14 (
J_trammelref12_parts_1000009 call h v0 (Go.Value.bool true)) (
obnd (aBin Try.prog Go.BinOp.eql T_uint8 v0 (Go.Value.int Go.IntKind.u8 8) (Go.Operand.tmp 27) (Go.Operand.const (Go.Value.int Go.IntKind.u8 8))) fun x15 =>
guardV3 x15 (
J_trammelref12_parts_1000009 call h v0 (Go.Value.bool true)) (
obnd (aBin Try.prog Go.BinOp.eql T_uint8 v0 (Go.Value.int Go.IntKind.u8 50) (Go.Operand.tmp 31) (Go.Operand.const (Go.Value.int Go.IntKind.u8 50))) fun x16 =>
guardV3 x16 (
J_trammelref12_parts_1000009 call h v0 (Go.Value.bool true)) (
obnd (aBin Try.prog Go.BinOp.eql T_uint8 v0 (Go.Value.int Go.IntKind.u8 36) (Go.Operand.tmp 35) (Go.Operand.const (Go.Value.int Go.IntKind.u8 36))) fun x17 =>
guardV3 x17 (
J_trammelref12_parts_1000009 call h v0 (Go.Value.bool true)) (
obnd (aBin Try.prog Go.BinOp.geq T_uint8 v0 (Go.Value.int Go.IntKind.u8 39) (Go.Operand.tmp 39) (Go.Operand.const (Go.Value.int Go.IntKind.u8 39))) fun x18 =>
guardV3 x18 (
obnd (aBin Try.prog Go.BinOp.leq T_uint8 v0 (Go.Value.int Go.IntKind.u8 45) (Go.Operand.tmp 42) (Go.Operand.const (Go.Value.int Go.IntKind.u8 45))) fun x19 =>
J_trammelref12_parts_1000009 call h v0 x19) (
J_trammelref12_parts_1000009 call h v0 (Go.Value.bool false)) (
none)) (
none)) (
none)) (
none)) (
none)) (
none))))
theorem R_trammelref12_parts {call : CallF} {h : Heap} {v0 : Value} {Q : Ret → Heap → Prop} (hr : WP (B_trammelref12_parts call h v0) Q) : WP (runF Try.prog call keep_trammelref12_parts c_trammelref12_parts ⟨[v0] ++ List.replicate (Try.f57.ntmps - 1) undefA, h⟩ k_trammelref12_parts) Q := wp_eq (by kernel_rfl) hr
theorem F_trammelref12_parts {h : Heap} {v0 : Value} {Q : Ret → Heap → Prop} (hr : WP (B_trammelref12_parts (callW E) h v0) Q) : WP (callW E fn_trammelref12_parts [v0] h) Q := wp_callW (fn := Try.f57) (c := c_trammelref12_parts) (kp := keep_trammelref12_parts) (by kernel_rfl) (by kernel_rfl) (by kernel_rfl) (by kernel_rfl) (by kernel_rfl) (R_trammelref12_parts hr)
/-! ### 58 (*trammel/trammelref12.reader).number -/
noncomputable def c_trammelref12_reader_number : Code := bodyOf Try.f58
noncomputable def k_trammelref12_reader_number : Kt := endK Try.prog Try.f58
noncomputable def c_trammelref12_reader_number_b : Code := sB c_trammelref12_reader_number
noncomputable def c_trammelref12_reader_number_bb : Code := sB c_trammelref12_reader_number_b
noncomputable def c_trammelref12_reader_number_bbb : Code := sB c_trammelref12_reader_number_bb
noncomputable def c_trammelref12_reader_number_bbbb : Code := sB c_trammelref12_reader_number_bbb
noncomputable def c_trammelref12_reader_number_bbbbb : Code := sB c_trammelref12_reader_number_bbbb
noncomputable def c_trammelref12_reader_number_bbbba : Code := sA c_trammelref12_reader_number_bbbb
noncomputable def c_trammelref12_reader_number_bbbbab : Code := sB c_trammelref12_reader_number_bbbba
noncomputable def c_trammelref12_reader_number_bbbbabk : Code := sK c_trammelref12_reader_number_bbbbab
noncomputable def c_trammelref12_reader_number_bbbbabkl : Code := sL c_trammelref12_reader_number_bbbbabk
noncomputable def c_trammelref12_reader_number_bbbbbb : Code := sB c_trammelref12_reader_number_bbbbb
noncomputable def c_trammelref12_reader_number_bbbbbbb : Code := sB c_trammelref12_reader_number_bbbbbb
noncomputable def c_trammelref12_reader_number_bbbbbba : Code := sA c_trammelref12_reader_number_bbbbbb
noncomputable def c_trammelref12_reader_number_bbbbbbab : Code := sB c_trammelref12_reader_number_bbbbbba
noncomputable def L_trammelref12_reader_number_8 (call : CallF) (h : Heap) (v0 v3 v5 v6 : Value) : R := iterW (runF Try.prog call keep_trammelref12_reader_number c_trammelref12_reader_number_bbbbabkl) (maskS (keep_trammelref12_reader_number 8)) ⟨v0 :: undefA :: undefA :: v3 :: undefA :: v5 :: v6 :: undefA :: undefA :: undefA :: undefA :: undefA :: undefA :: undefA :: undefA :: undefA :: undefA :: undefA :: undefA :: undefA :: undefA :: undefA :: undefA :: undefA :: undefA :: undefA :: undefA :: undefA :: undefA :: undefA :: undefA :: undefA :: undefA :: undefA :: undefA :: undefA :: undefA :: undefA :: undefA :: undefA :: undefA :: undefA :: undefA :: undefA :: undefA :: undefA :: undefA :: undefA :: undefA :: undefA :: undefA :: undefA :: undefA :: undefA :: undefA :: undefA :: undefA :: undefA :: undefA :: undefA :: undefA :: undefA :: undefA :: undefA :: undefA :: undefA :: undefA :: undefA :: undefA :: undefA :: undefA :: undefA :: undefA :: undefA :: undefA :: undefA :: undefA :: undefA :: undefA :: undefA :: undefA :: undefA :: undefA :: undefA :: undefA :: undefA :: undefA :: undefA :: undefA :: undefA :: undefA :: undefA :: undefA :: undefA :: [], h⟩ (kBlk 0 (fSeq Try.prog call keep_trammelref12_reader_number c_trammelref12_reader_number_bbbbb k_trammelref12_reader_number))
noncomputable def J_trammelref12_reader_number_11 (call : CallF) (h : Heap) (v0 v3 v5 : Value) : R := fSeq Try.prog call keep_trammelref12_reader_number c_trammelref12_reader_number_bbbbb k_trammelref12_reader_number Ex.normal ⟨v0 :: undefA :: undefA :: v3 :: undefA :: v5 :: undefA :: undefA :: undefA :: undefA :: undefA :: undefA :: undefA :: undefA :: undefA :: undefA :: undefA :: undefA :: undefA :: undefA :: undefA :: undefA :: undefA :: undefA :: undefA :: undefA :: undefA :: undefA :: undefA :: undefA :: undefA :: undefA :: undefA :: undefA :: undefA :: undefA :: undefA :: undefA :: undefA :: undefA :: undefA :: undefA :: undefA :: undefA :: undefA :: undefA :: undefA :: undefA :: undefA :: undefA :: undefA :: undefA :: undefA :: undefA :: undefA :: undefA :: undefA :: undefA :: undefA :: undefA :: undefA :: undefA :: undefA :: undefA :: undefA :: undefA :: undefA :: undefA :: undefA :: undefA :: undefA :: undefA :: undefA :: undefA :: undefA :: undefA :: undefA :: undefA :: undefA :: undefA :: undefA :: undefA :: undefA :: undefA :: undefA :: undefA :: undefA :: undefA :: undefA :: undefA :: undefA :: undefA :: undefA :: undefA :: [], h⟩
noncomputable def J_trammelref12_reader_number_1000014 (call : CallF) (h : Heap) (v0 v3 v5 v77 : Value) : R := fSeq Try.prog call keep_trammelref12_reader_number c_trammelref12_reader_number_bbbbbbab (fSeq Try.prog call keep_trammelref12_reader_number c_trammelref12_reader_number_bbbbbbb k_trammelref12_reader_number) Ex.normal ⟨v0 :: undefA :: undefA :: v3 :: undefA :: v5 :: undefA :: undefA :: undefA :: undefA :: undefA :: undefA :: undefA :: undefA :: undefA :: undefA :: undefA :: undefA :: undefA :: undefA :: undefA :: undefA :: undefA :: undefA :: undefA :: undefA :: undefA :: undefA :: undefA :: undefA :: undefA :: undefA :: undefA :: undefA :: undefA :: undefA :: undefA :: undefA :: undefA :: undefA :: undefA :: undefA :: undefA :: undefA :: undefA :: undefA :: undefA :: undefA :: undefA :: undefA :: undefA :: undefA :: undefA :: undefA :: undefA :: undefA :: undefA :: undefA :: undefA :: undefA :: undefA :: undefA :: undefA :: undefA :: undefA :: undefA :: undefA :: undefA :: undefA :: undefA :: undefA :: undefA :: undefA :: undefA :: undefA :: undefA :: undefA :: v77 :: undefA :: undefA :: undefA :: undefA :: undefA :: undefA :: undefA :: undefA :: undefA :: undefA :: undefA :: undefA :: undefA :: undefA :: undefA :: undefA :: [], h⟩
noncomputable def J_trammelref12_reader_number_14 (call : CallF) (h : Heap) (v0 v3 v5 : Value) : R := fSeq Try.prog call keep_trammelref12_reader_number c_trammelref12_reader_number_bbbbbbb k_trammelref12_reader_number Ex.normal ⟨v0 :: undefA :: undefA :: v3 :: undefA :: v5 :: undefA :: undefA :: undefA :: undefA :: undefA :: undefA :: undefA :: undefA :: undefA :: undefA :: undefA :: undefA :: undefA :: undefA :: undefA :: undefA :: undefA :: undefA :: undefA :: undefA :: undefA :: undefA :: undefA :: undefA :: undefA :: undefA :: undefA :: undefA :: undefA :: undefA :: undefA :: undefA :: undefA :: undefA :: undefA :: undefA :: undefA :: undefA :: undefA :: undefA :: undefA :: undefA :: undefA :: undefA :: undefA :: undefA :: undefA :: undefA :: undefA :: undefA :: undefA :: undefA :: undefA :: undefA :: undefA :: undefA :: undefA :: undefA :: undefA :: undefA :: undefA :: undefA :: undefA :: undefA :: undefA :: undefA :: undefA :: undefA :: undefA :: undefA :: undefA :: undefA :: undefA :: undefA :: undefA :: undefA :: undefA :: undefA :: undefA :: undefA :: undefA :: undefA :: undefA :: undefA :: undefA :: undefA :: undefA :: undefA :: [], h⟩
noncomputable def L_trammelref12_reader_number_8_b (call : CallF) (h : Heap) (v0 v3 v5 v6 : Value) : R :=
obnd (aFieldAddr Try.prog T_trammelref12_part v3 0) fun x21 =>
obnd (aLoad Try.prog T_int h x21) fun x22 =>
obnd (aBin Try.prog Go.BinOp.lss T_int v6 x22 (Go.Operand.tmp 28) (Go.Operand.tmp 30)) fun x23 =>
condF x23 (
obnd (aNilCheck v0) fun x24 =>
obnd (aFieldAddr Try.prog T_trammelref12_reader x24 0) fun x25 =>
obnd (aLoad Try.prog T_Suint8 h x25) fun x26 =>
obnd (aNilCheck v0) fun x27 =>
obnd (aFieldAddr Try.prog T_trammelref12_reader x27 1) fun x28 =>
obnd (aLoad Try.prog T_int h x28) fun x29 =>
obnd (aBin Try.prog Go.BinOp.add T_int x29 v6 (Go.Operand.tmp 42) (Go.Operand.tmp 43)) fun x30 =>
obnd (aIndexAddr Try.prog T_Suint8 x26 x30) fun x31 =>
obnd (aLoad Try.prog T_uint8 h x31) fun x32 =>
obnd (aConv Try.prog T_uint8 T_uint64 x32) fun x33 =>
obnd (aBin Try.prog Go.BinOp.mul T_int (Go.Value.int Go.IntKind.i64 8) v6 (Go.Operand.const (Go.Value.int Go.IntKind.i64 8)) (Go.Operand.tmp 48)) fun x34 =>
obnd (aBin Try.prog Go.BinOp.shl T_uint64 x33 x34 (Go.Operand.tmp 47) (Go.Operand.tmp 49)) fun x35 =>
obnd (aBin Try.prog Go.BinOp.or T_uint64 v5 x35 (Go.Operand.tmp 34) (Go.Operand.tmp 50)) fun x36 =>
obnd (aBin Try.prog Go.BinOp.add T_int v6 (Go.Value.int Go.IntKind.i64 1) (Go.Operand.tmp 32) (Go.Operand.const (Go.Value.int Go.IntKind.i64 1))) fun x37 =>
L_trammelref12_reader_number_8 call h v0 v3 x36 x37) (
J_trammelref12_reader_number_11 call h v0 v3 v5)
theorem L_trammelref12_reader_number_8_wp {call : CallF} {h : Heap} {v0 v3 v5 v6 : Value} {Q : Ret → Heap → Prop} (hr : WP (L_trammelref12_reader_number_8_b call h v0 v3 v5 v6) Q) : WP (L_trammelref12_reader_number_8 call h v0 v3 v5 v6) Q :=
  wp_step (fun x hx => iterW_round (runF_tail c_trammelref12_reader_number_bbbbabkl) ((Eq.trans (by kernel_rfl) hx : runF Try.prog call keep_trammelref12_reader_number c_trammelref12_reader_number_bbbbabkl ⟨v0 :: undefA :: undefA :: v3 :: undefA :: v5 :: v6 :: undefA :: undefA :: undefA :: undefA :: undefA :: undefA :: undefA :: undefA :: undefA :: undefA :: undefA :: undefA :: undefA :: undefA :: undefA :: undefA :: undefA :: undefA :: undefA :: undefA :: undefA :: undefA :: undefA :: undefA :: undefA :: undefA :: undefA :: undefA :: undefA :: undefA :: undefA :: undefA :: undefA :: undefA :: undefA :: undefA :: undefA :: undefA :: undefA :: undefA :: undefA :: undefA :: undefA :: undefA :: undefA :: undefA :: undefA :: undefA :: undefA :: undefA :: undefA :: undefA :: undefA :: undefA :: undefA :: undefA :: undefA :: undefA :: undefA :: undefA :: undefA :: undefA :: undefA :: undefA :: undefA :: undefA :: undefA :: undefA :: undefA :: undefA :: undefA :: undefA :: undefA :: undefA :: undefA :: undefA :: undefA :: undefA :: undefA :: undefA :: undefA :: undefA :: undefA :: undefA :: undefA :: undefA :: undefA :: [], h⟩ (fLoop Try.prog call keep_trammelref12_reader_number c_trammelref12_reader_number_bbbbabkl (kBlk 0 (fSeq Try.prog call keep_trammelref12_reader_number c_trammelref12_reader_number_bbbbb k_trammelref12_reader_number))) = some x))) hr
noncomputable def J_trammelref12_reader_number_11_b (call : CallF) (h : Heap) (v0 v3 v5 : Value) : R :=
obnd (aNilCheck v0) fun x38 =>
obnd (aFieldAddr Try.prog T_trammelref12_reader x38 1) fun x39 =>
obnd (aLoad Try.prog T_int h x39) fun x40 =>
obnd (aFieldAddr Try.prog T_trammelref12_part v3 0) fun x41 =>
obnd (aLoad Try.prog T_int h x41) fun x42 =>
obnd (aBin Try.prog Go.BinOp.add T_int x40 x42 (Go.Operand.tmp 56) (Go.Operand.tmp 58)) fun x43 =>
obnd (aNilCheck v0) fun x44 =>
obnd (aFieldAddr Try.prog T_trammelref12_reader x44 1) fun x45 =>
obnd (aStore Try.prog T_int x45 x43 h) fun h46 =>
obnd (aFieldAddr Try.prog T_trammelref12_part v3 3) fun x47 =>
obnd (aLoad Try.prog T_bool h46 x47) fun x48 =>
guardV3 x48 (
obnd (aFieldAddr Try.prog T_trammelref12_part v3 0) fun x49 =>
obnd (aLoad Try.prog T_int h46 x49) fun x50 =>
obnd (aBin Try.prog Go.BinOp.lss T_int x50 (Go.Value.int Go.IntKind.i64 8) (Go.Operand.tmp 66) (Go.Operand.const (Go.Value.int Go.IntKind.i64 8))) fun x51 =>
guardV3 x51 (
obnd (aFieldAddr Try.prog T_trammelref12_part v3 0) fun x52 =>
obnd (aLoad Try.prog T_int h46 x52) fun x53 =>
obnd (aBin Try.prog Go.BinOp.mul T_int (Go.Value.int Go.IntKind.i64 8) x53 (Go.Operand.const (Go.Value.int Go.IntKind.i64 8)) (Go.Operand.tmp 72)) fun x54 =>
obnd (aBin Try.prog Go.BinOp.sub T_int x54 (Go.Value.int Go.IntKind.i64 1) (Go.Operand.tmp 73) (Go.Operand.const (Go.Value.int Go.IntKind.i64 1))) fun x55 =>
obnd (aBin Try.prog Go.BinOp.shr T_uint64 v5 x55 (Go.Operand.tmp 70) (Go.Operand.tmp 74)) fun x56 =>
obnd (aBin Try.prog Go.BinOp.eql T_uint64 x56 (Go.Value.int Go.IntKind.u64 1) (Go.Operand.tmp 75) (Go.Operand.const (Go.Value.int Go.IntKind.u64 1))) fun x57 =>
J_trammelref12_reader_number_1000014 call h46 v0 v3 v5 x57) (
J_trammelref12_reader_number_1000014 call h46 v0 v3 v5 (Go.Value.bool false)) (
none)) (
J_trammelref12_reader_number_1000014 call h46 v0 v3 v5 (Go.Value.bool false)) (
none)
theorem J_trammelref12_reader_number_11_wp {call : CallF} {h : Heap} {v0 v3 v5 : Value} {Q : Ret → Heap → Prop} (hr : WP (J_trammelref12_reader_number_11_b call h v0 v3 v5) Q) : WP (J_trammelref12_reader_number_11 call h v0 v3 v5) Q := wp_eq (by kernel_rfl) hr
noncomputable def J_trammelref12_reader_number_1000014_b (call : CallF) (h : Heap) (v0 v3 v5 v77 : Value) : R :=
condF v77 (
obnd (aFieldAddr Try.prog T_trammelref12_part v3 0) fun x58 =>
obnd (aLoad Try.prog T_int h x58) fun x59 =>
obnd (aBin Try.prog Go.BinOp.mul T_int (Go.Value.int Go.IntKind.i64 8) x59 (Go.Operand.const (Go.Value.int Go.IntKind.i64 8)) (Go.Operand.tmp 80)) fun x60 =>
obnd (aBin Try.prog Go.BinOp.shl T_uint64 (Go.Value.int Go.IntKind.u64 1) x60 (Go.Operand.const (Go.Value.int Go.IntKind.u64 1)) (Go.Operand.tmp 81)) fun x61 =>
obnd (aBin Try.prog Go.BinOp.sub T_uint64 v5 x61 (Go.Operand.tmp 78) (Go.Operand.tmp 82)) fun x62 =>
J_trammelref12_reader_number_14 call h v0 v3 x62) (
J_trammelref12_reader_number_14 call h v0 v3 v5)
theorem J_trammelref12_reader_number_1000014_wp {call : CallF} {h : Heap} {v0 v3 v5 v77 : Value} {Q : Ret → Heap → Prop} (hr : WP (J_trammelref12_reader_number_1000014_b call h v0 v3 v5 v77) Q) : WP (J_trammelref12_reader_number_1000014 call h v0 v3 v5 v77) Q := wp_eq (by kernel_rfl) hr
noncomputable def J_trammelref12_reader_number_14_b (call : CallF) (h : Heap) (v0 v3 v5 : Value) : R :=
obnd (aLoad Try.prog T_trammelref12_part h v3) fun x63 =>
obnd (aConv Try.prog T_uint64 T_int64 v5) fun x64 =>
retK (call fn_trammelref12_within [x63, x64] h) (fun x65 h66 =>
obnd (aUn Try.prog Go.UnOp.not x65) fun x69 =>
condF x69 (
obnd (aNilCheck v0) fun x70 =>
obnd (aFieldAddr Try.prog T_trammelref12_reader x70 2) fun x71 =>
obnd (aStore Try.prog T_api_Errno x71 (Go.Value.int Go.IntKind.i64 120) h66) fun h72 =>
some (Ret.ret (Go.Value.int Go.IntKind.i64 0), h72)) (
obnd (aConv Try.prog T_uint64 T_int64 v5) fun x73 =>
some (Ret.ret x73, h66))) (fun x67 h68 => some (Ret.pan x67, h68))
theorem J_trammelref12_reader_number_14_wp {call : CallF} {h : Heap} {v0 v3 v5 : Value} {Q : Ret → Heap → Prop} (hr : WP (J_trammelref12_reader_number_14_b call h v0 v3 v5) Q) : WP (J_trammelref12_reader_number_14 call h v0 v3 v5) Q := wp_eq (by kernel_rfl) hr
noncomputable def B_trammelref12_reader_number (call : CallF) (h : Heap) (v0 v1 : Value) : R :=
anew (mkBox T_trammelref12_part v1) h fun p1 h2 =>
obnd (aNilCheck v0) fun x3 =>
obnd (aFieldAddr Try.prog T_trammelref12_reader x3 2) fun x4 =>
obnd (aLoad Try.prog T_api_Errno h2 x4) fun x5 =>
obnd (aBin Try.prog Go.BinOp.neq T_api_Errno x5 (Go.Value.int Go.IntKind.i64 0) (Go.Operand.tmp 10) (Go.Operand.const (Go.Value.int Go.IntKind.i64 0))) fun x6 =>
condF x6 (
some (Ret.ret (Go.Value.int Go.IntKind.i64 0), h2)) (
obnd (aFieldAddr Try.prog T_trammelref12_part p1 0) fun x7 =>
obnd (aLoad Try.prog T_int h2 x7) fun x8 =>
obnd (aNilCheck v0) fun x9 =>
obnd (aFieldAddr Try.prog T_trammelref12_reader x9 0) fun x10 =>
obnd (aLoad Try.prog T_Suint8 h2 x10) fun x11 =>
obnd (aLen Try.prog T_Suint8 x11) fun x12 =>
obnd (aNilCheck v0) fun x13 =>
obnd (aFieldAddr Try.prog T_trammelref12_reader x13 1) fun x14 =>
obnd (aLoad Try.prog T_int h2 x14) fun x15 =>
obnd (aBin Try.prog Go.BinOp.sub T_int x12 x15 (Go.Operand.tmp 18) (Go.Operand.tmp 22)) fun x16 =>
obnd (aBin Try.prog Go.BinOp.gtr T_int x8 x16 (Go.Operand.tmp 13) (Go.Operand.tmp 23)) fun x17 =>
condF x17 (
obnd (aNilCheck v0) fun x18 =>
obnd (aFieldAddr Try.prog T_trammelref12_reader x18 2) fun x19 =>
obnd (aStore Try.prog T_api_Errno x19 (Go.Value.int Go.IntKind.i64 10) h2) fun h20 =>
some (Ret.ret (Go.Value.int Go.IntKind.i64 0), h20)) (
L_trammelref12_reader_number_8 call h2 v0 p1 (Go.Value.int Go.IntKind.u64 0) (Go.Value.int Go.IntKind.i64 0)))
theorem R_trammelref12_reader_number {call : CallF} {h : Heap} {v0 v1 : Value} {Q : Ret → Heap → Prop} (hr : WP (B_trammelref12_reader_number call h v0 v1) Q) : WP (runF Try.prog call keep_trammelref12_reader_number c_trammelref12_reader_number ⟨[v0, v1] ++ List.replicate (Try.f58.ntmps - 2) undefA, h⟩ k_trammelref12_reader_number) Q := wp_eq (by kernel_rfl) hr
theorem F_trammelref12_reader_number {h : Heap} {v0 v1 : Value} {Q : Ret → Heap → Prop} (hr : WP (B_trammelref12_reader_number (callW E) h v0 v1) Q) : WP (callW E fn_trammelref12_reader_number [v0, v1] h) Q := wp_callW (fn := Try.f58) (c := c_trammelref12_reader_number) (kp := keep_trammelref12_reader_number) (by kernel_rfl) (by kernel_rfl) (by kernel_rfl) (by kernel_rfl) (by kernel_rfl) (R_trammelref12_reader_number hr)
/-! ### 59 (*trammel/trammelref12.reader).arms -/
noncomputable def c_trammelref12_reader_arms : Code := bodyOf Try.f59
noncomputable def k_trammelref12_reader_arms : Kt := endK Try.prog Try.f59
noncomputable def c_trammelref12_reader_arms_b : Code := sB c_trammelref12_reader_arms
noncomputable def c_trammelref12_reader_arms_bb : Code := sB c_trammelref12_reader_arms_b
noncomputable def c_trammelref12_reader_arms_bbb : Code := sB c_trammelref12_reader_arms_bb
noncomputable def c_trammelref12_reader_arms_bbbb : Code := sB c_trammelref12_reader_arms_bbb
noncomputable def c_trammelref12_reader_arms_bbbbb : Code := sB c_trammelref12_reader_arms_bbbb
noncomputable def c_trammelref12_reader_arms_bbbba : Code := sA c_trammelref12_reader_arms_bbbb
noncomputable def c_trammelref12_reader_arms_bbbbab : Code := sB c_trammelref12_reader_arms_bbbba
noncomputable def c_trammelref12_reader_arms_bbbbbb : Code := sB c_trammelref12_reader_arms_bbbbb
noncomputable def c_trammelref12_reader_arms_bbbbbbb : Code := sB c_trammelref12_reader_arms_bbbbbb
noncomputable def c_trammelref12_reader_arms_bbbbbba : Code := sA c_trammelref12_reader_arms_bbbbbb
noncomputable def c_trammelref12_reader_arms_bbbbbbab : Code := sB c_trammelref12_reader_arms_bbbbbba
noncomputable def c_trammelref12_reader_arms_bbbbbbabk : Code := sK c_trammelref12_reader_arms_bbbbbbab
noncomputable def c_trammelref12_reader_arms_bbbbbbabkl : Code := sL c_trammelref12_reader_arms_bbbbbbabk
noncomputable def J_trammelref12_reader_arms_1000006 (call : CallF) (h : Heap) (v0 v5 v6 v7 v24 : Value) : R := fSeq Try.prog call keep_trammelref12_reader_arms c_trammelref12_reader_arms_bbbbab (fSeq Try.prog call keep_trammelref12_reader_arms c_trammelref12_reader_arms_bbbbb k_trammelref12_reader_arms) Ex.normal ⟨v0 :: undefA :: undefA :: undefA :: undefA :: v5 :: v6 :: v7 :: undefA :: undefA :: undefA :: undefA :: undefA :: undefA :: undefA :: undefA :: undefA :: undefA :: undefA :: undefA :: undefA :: undefA :: undefA :: undefA :: v24 :: undefA :: undefA :: undefA :: undefA :: undefA :: undefA :: undefA :: undefA :: undefA :: undefA :: undefA :: undefA :: undefA :: undefA :: undefA :: undefA :: undefA :: undefA :: undefA :: undefA :: undefA :: undefA :: undefA :: undefA :: undefA :: undefA :: undefA :: undefA :: undefA :: undefA :: undefA :: undefA :: undefA :: undefA :: [], h⟩
noncomputable def J_trammelref12_reader_arms_7 (call : CallF) (h : Heap) (v0 v5 v7 : Value) : R := fSeq Try.prog call keep_trammelref12_reader_arms c_trammelref12_reader_arms_bbbbb k_trammelref12_reader_arms Ex.normal ⟨v0 :: undefA :: undefA :: undefA :: undefA :: v5 :: undefA :: v7 :: undefA :: undefA :: undefA :: undefA :: undefA :: undefA :: undefA :: undefA :: undefA :: undefA :: undefA :: undefA :: undefA :: undefA :: undefA :: undefA :: undefA :: undefA :: undefA :: undefA :: undefA :: undefA :: undefA :: undefA :: undefA :: undefA :: undefA :: undefA :: undefA :: undefA :: undefA :: undefA :: undefA :: undefA :: undefA :: undefA :: undefA :: undefA :: undefA :: undefA :: undefA :: undefA :: undefA :: undefA :: undefA :: undefA :: undefA :: undefA :: undefA :: undefA :: undefA :: [], h⟩
noncomputable def L_trammelref12_reader_arms_9 (call : CallF) (h : Heap) (v0 v5 v7 v8 v9 : Value) : R := iterW (runF Try.prog call keep_trammelref12_reader_arms c_trammelref12_reader_arms_bbbbbbabkl) (maskS (keep_trammelref12_reader_arms 9)) ⟨v0 :: undefA :: undefA :: undefA :: undefA :: v5 :: undefA :: v7 :: v8 :: v9 :: undefA :: undefA :: undefA :: undefA :: undefA :: undefA :: undefA :: undefA :: undefA :: undefA :: undefA :: undefA :: undefA :: undefA :: undefA :: undefA :: undefA :: undefA :: undefA :: undefA :: undefA :: undefA :: undefA :: undefA :: undefA :: undefA :: undefA :: undefA :: undefA :: undefA :: undefA :: undefA :: undefA :: undefA :: undefA :: undefA :: undefA :: undefA :: undefA :: undefA :: undefA :: undefA :: undefA :: undefA :: undefA :: undefA :: undefA :: undefA :: undefA :: [], h⟩ (kBlk 0 (fSeq Try.prog call keep_trammelref12_reader_arms c_trammelref12_reader_arms_bbbbbbb k_trammelref12_reader_arms))
noncomputable def J_trammelref12_reader_arms_14 (call : CallF) (h : Heap) (v8 : Value) : R := fSeq Try.prog call keep_trammelref12_reader_arms c_trammelref12_reader_arms_bbbbbbb k_trammelref12_reader_arms Ex.normal ⟨undefA :: undefA :: undefA :: undefA :: undefA :: undefA :: undefA :: undefA :: v8 :: undefA :: undefA :: undefA :: undefA :: undefA :: undefA :: undefA :: undefA :: undefA :: undefA :: undefA :: undefA :: undefA :: undefA :: undefA :: undefA :: undefA :: undefA :: undefA :: undefA :: undefA :: undefA :: undefA :: undefA :: undefA :: undefA :: undefA :: undefA :: undefA :: undefA :: undefA :: undefA :: undefA :: undefA :: undefA :: undefA :: undefA :: undefA :: undefA :: undefA :: undefA :: undefA :: undefA :: undefA :: undefA :: undefA :: undefA :: undefA :: undefA :: undefA :: [], h⟩
noncomputable def J_trammelref12_reader_arms_1000006_b (call : CallF) (h : Heap) (v0 v5 v6 v7 v24 : Value) : R :=
condF v24 (
obnd (aBin Try.prog Go.BinOp.sub T_int v6 (Go.Value.int Go.IntKind.i64 1) (Go.Operand.tmp 25) (Go.Operand.const (Go.Value.int Go.IntKind.i64 1))) fun x20 =>
obnd (aBin Try.prog Go.BinOp.shl T_int64 (Go.Value.int Go.IntKind.i64 (-1)) x20 (Go.Operand.const (Go.Value.int Go.IntKind.i64 (-1))) (Go.Operand.tmp 26)) fun x21 =>
obnd (aFieldAddr Try.prog T_trammelref12_part v7 1) fun x22 =>
obnd (aStore Try.prog T_int64 x22 x21 h) fun h23 =>
obnd (aBin Try.prog Go.BinOp.sub T_int v6 (Go.Value.int Go.IntKind.i64 1) (Go.Operand.tmp 29) (Go.Operand.const (Go.Value.int Go.IntKind.i64 1))) fun x24 =>
obnd (aBin Try.prog Go.BinOp.shl T_int64 (Go.Value.int Go.IntKind.i64 1) x24 (Go.Operand.const (Go.Value.int Go.IntKind.i64 1)) (Go.Operand.tmp 30)) fun x25 =>
obnd (aBin Try.prog Go.BinOp.sub T_int64 x25 (Go.Value.int Go.IntKind.i64 1) (Go.Operand.tmp 31) (Go.Operand.const (Go.Value.int Go.IntKind.i64 1))) fun x26 =>
obnd (aFieldAddr Try.prog T_trammelref12_part v7 2) fun x27 =>
obnd (aStore Try.prog T_int64 x27 x26 h23) fun h28 =>
J_trammelref12_reader_arms_7 call h28 v0 v5 v7) (
J_trammelref12_reader_arms_7 call h v0 v5 v7)
theorem J_trammelref12_reader_arms_1000006_wp {call : CallF} {h : Heap} {v0 v5 v6 v7 v24 : Value} {Q : Ret → Heap → Prop} (hr : WP (J_trammelref12_reader_arms_1000006_b call h v0 v5 v6 v7 v24) Q) : WP (J_trammelref12_reader_arms_1000006 call h v0 v5 v6 v7 v24) Q := wp_eq (by kernel_rfl) hr
noncomputable def J_trammelref12_reader_arms_7_b (call : CallF) (h : Heap) (v0 v5 v7 : Value) : R :=
L_trammelref12_reader_arms_9 call h v0 v5 v7 (Go.Value.slice none 0 0) (Go.Value.int Go.IntKind.i64 0)
theorem J_trammelref12_reader_arms_7_wp {call : CallF} {h : Heap} {v0 v5 v7 : Value} {Q : Ret → Heap → Prop} (hr : WP (J_trammelref12_reader_arms_7_b call h v0 v5 v7) Q) : WP (J_trammelref12_reader_arms_7 call h v0 v5 v7) Q := wp_eq (by kernel_rfl) hr
noncomputable def L_trammelref12_reader_arms_9_b (call : CallF) (h : Heap) (v0 v5 v7 v8 v9 : Value) : R :=
obnd (aBin Try.prog Go.BinOp.lss T_int64 v9 v5 (Go.Operand.tmp 34) (Go.Operand.tmp 35)) fun x29 =>
guardV3 x29 (
obnd (aNilCheck v0) fun x30 =>
obnd (aFieldAddr Try.prog T_trammelref12_reader x30 2) fun x31 =>
obnd (aLoad Try.prog T_api_Errno h x31) fun x32 =>
obnd (aBin Try.prog Go.BinOp.eql T_api_Errno x32 (Go.Value.int Go.IntKind.i64 0) (Go.Operand.tmp 41) (Go.Operand.const (Go.Value.int Go.IntKind.i64 0))) fun x33 =>
condF x33 (
obnd (aLoad Try.prog T_trammelref12_part h v7) fun x34 =>
retK (call fn_trammelref12_reader_number [v0, x34] h) (fun x35 h36 =>
retK (call fn_trammelref12_leap [] h36) (fun x39 h40 =>
retK (call fn_trammelref12_reader_number [v0, x39] h40) (fun x43 h44 =>
obnd (aBuild Try.prog T_api_Arm [(0, x35), (1, x43)]) fun x47 =>
anew (mkLit Try.prog T_Sapi_Arm 1 [(0, x47)]) h44 fun p48 h49 =>
obnd (aAppend Try.prog T_Sapi_Arm T_Sapi_Arm v8 p48 h49) fun r51 =>
obnd (aBin Try.prog Go.BinOp.add T_int64 v9 (Go.Value.int Go.IntKind.i64 1) (Go.Operand.tmp 44) (Go.Operand.const (Go.Value.int Go.IntKind.i64 1))) fun x52 =>
L_trammelref12_reader_arms_9 call r51.2 v0 v5 v7 r51.1 x52) (fun x45 h46 => some (Ret.pan x45, h46))) (fun x41 h42 => some (Ret.pan x41, h42))) (fun x37 h38 => some (Ret.pan x37, h38))) (
J_trammelref12_reader_arms_14 call h v8)) (
J_trammelref12_reader_arms_14 call h v8) (
none)
theorem L_trammelref12_reader_arms_9_wp {call : CallF} {h : Heap} {v0 v5 v7 v8 v9 : Value} {Q : Ret → Heap → Prop} (hr : WP (L_trammelref12_reader_arms_9_b call h v0 v5 v7 v8 v9) Q) : WP (L_trammelref12_reader_arms_9 call h v0 v5 v7 v8 v9) Q :=
  wp_step (fun x hx => iterW_round (runF_tail c_trammelref12_reader_arms_bbbbbbabkl) ((Eq.trans (by kernel_rfl) hx : runF Try.prog call keep_trammelref12_reader_arms c_trammelref12_reader_arms_bbbbbbabkl ⟨v0 :: undefA :: undefA :: undefA :: undefA :: v5 :: undefA :: v7 :: v8 :: v9 :: undefA :: undefA :: undefA :: undefA :: undefA :: undefA :: undefA :: undefA :: undefA :: undefA :: undefA :: undefA :: undefA :: undefA :: undefA :: undefA :: undefA :: undefA :: undefA :: undefA :: undefA :: undefA :: undefA :: undefA :: undefA :: undefA :: undefA :: undefA :: undefA :: undefA :: undefA :: undefA :: undefA :: undefA :: undefA :: undefA :: undefA :: undefA :: undefA :: undefA :: undefA :: undefA :: undefA :: undefA :: undefA :: undefA :: undefA :: undefA :: undefA :: [], h⟩ (fLoop Try.prog call keep_trammelref12_reader_arms c_trammelref12_reader_arms_bbbbbbabkl (kBlk 0 (fSeq Try.prog call keep_trammelref12_reader_arms c_trammelref12_reader_arms_bbbbbbb k_trammelref12_reader_arms))) = some x))) hr
noncomputable def J_trammelref12_reader_arms_14_b (call : CallF) (h : Heap) (v8 : Value) : R :=
some (Ret.ret v8, h)
theorem J_trammelref12_reader_arms_14_wp {call : CallF} {h : Heap} {v8 : Value} {Q : Ret → Heap → Prop} (hr : WP (J_trammelref12_reader_arms_14_b call h v8) Q) : WP (J_trammelref12_reader_arms_14 call h v8) Q := wp_eq (by kernel_rfl) hr
noncomputable def B_trammelref12_reader_arms (call : CallF) (h : Heap) (v0 v1 : Value) : R :=
retK (call fn_trammelref12_place [] h) (fun x1 h2 =>
retK (call fn_trammelref12_reader_number [v0, x1] h2) (fun x5 h6 =>
obnd (aConv Try.prog T_int64 T_uint8 v1) fun x9 =>
retK (call fn_trammelref02_Bits [x9] h6) (fun x10 h11 =>
obnd (aBuild Try.prog T_trammelref12_part [(0, (Go.Value.int Go.IntKind.i64 8)), (1, (Go.Value.int Go.IntKind.i64 (-9223372036854775808))), (2, (Go.Value.int Go.IntKind.i64 9223372036854775807)), (3, (Go.Value.bool true))]) fun x14 =>
anew (mkAlloc Try.prog T_trammelref12_part) h11 fun p15 h16 =>
obnd (aStore Try.prog T_trammelref12_part p15 x14 h16) fun h17 =>
obnd (aBin Try.prog Go.BinOp.gtr T_int x10 (Go.Value.int Go.IntKind.i64 0) (Go.Operand.tmp 19) (Go.Operand.const (Go.Value.int Go.IntKind.i64 0))) fun x18 =>
guardV3 x18 (
obnd (aBin Try.prog Go.BinOp.lss T_int x10 (Go.Value.int Go.IntKind.i64 64) (Go.Operand.tmp 22) (Go.Operand.const (Go.Value.int Go.IntKind.i64 64))) fun x19 =>
J_trammelref12_reader_arms_1000006 call h17 v0 x5 x10 p15 x19) (
J_trammelref12_reader_arms_1000006 call h17 v0 x5 x10 p15 (Go.Value.bool false)) (
none)) (fun x12 h13 => some (Ret.pan x12, h13))) (fun x7 h8 => some (Ret.pan x7, h8))) (fun x3 h4 => some (Ret.pan x3, h4))
theorem R_trammelref12_reader_arms {call : CallF} {h : Heap} {v0 v1 : Value} {Q : Ret → Heap → Prop} (hr : WP (B_trammelref12_reader_arms call h v0 v1) Q) : WP (runF Try.prog call keep_trammelref12_reader_arms c_trammelref12_reader_arms ⟨[v0, v1] ++ List.replicate (Try.f59.ntmps - 2) undefA, h⟩ k_trammelref12_reader_arms) Q := wp_eq (by kernel_rfl) hr
theorem F_trammelref12_reader_arms {h : Heap} {v0 v1 : Value} {Q : Ret → Heap → Prop} (hr : WP (B_trammelref12_reader_arms (callW E) h v0 v1) Q) : WP (callW E fn_trammelref12_reader_arms [v0, v1] h) Q := wp_callW (fn := Try.f59) (c := c_trammelref12_reader_arms) (kp := keep_trammelref12_reader_arms) (by kernel_rfl) (by kernel_rfl) (by kernel_rfl) (by kernel_rfl) (by kernel_rfl) (R_trammelref12_reader_arms hr)
/-! ### 60 trammel/trammelref12.leap -/
noncomputable def c_trammelref12_leap : Code := bodyOf Try.f60
noncomputable def k_trammelref12_leap : Kt := endK Try.prog Try.f60
noncomputable def B_trammelref12_leap (call : CallF) (h : Heap) : R :=
anew (mkAlloc Try.prog T_trammelref12_part) h fun p1 h2 =>
obnd (aBuild Try.prog T_trammelref12_part [(0, (Go.Value.int Go.IntKind.i64 4)), (2, (Go.Value.int Go.IntKind.i64 4294967295))]) fun x3 =>
obnd (aStore Try.prog T_trammelref12_part p1 x3 h2) fun h4 =>
k_trammelref12_leap .ret ⟨[p1, x3], h4⟩
theorem R_trammelref12_leap {call : CallF} {h : Heap} {Q : Ret → Heap → Prop} (hr : WP (B_trammelref12_leap call h ) Q) : WP (runF Try.prog call keep_trammelref12_leap c_trammelref12_leap ⟨[] ++ List.replicate (Try.f60.ntmps - 0) undefA, h⟩ k_trammelref12_leap) Q := wp_eq (by kernel_rfl) hr
theorem kr_trammelref12_leap {tm : List Value} {h : Heap} {a0 r0 : Value} {Q : Ret → Heap → Prop} (e0 : tm[0]? = some a0) (l0 : aLoad Try.prog T_trammelref12_part h a0 = some r0) (hq : Q (.ret r0) h) : WP (k_trammelref12_leap .ret ⟨tm, h⟩) Q :=
  ⟨_, _, by
    have e : Try.f60.results.toList = [.cell 0 T_trammelref12_part] := by kernel_rfl
    simp only [k_trammelref12_leap, endK, e, resV, e0, l0, Option.bind_some, Option.map_some, retV], hq⟩
theorem F_trammelref12_leap {h : Heap} {Q : Ret → Heap → Prop} (hr : WP (B_trammelref12_leap (callW E) h ) Q) : WP (callW E fn_trammelref12_leap [] h) Q := wp_callW (fn := Try.f60) (c := c_trammelref12_leap) (kp := keep_trammelref12_leap) (by kernel_rfl) (by kernel_rfl) (by kernel_rfl) (by kernel_rfl) (by kernel_rfl) (R_trammelref12_leap hr)
end Go.Proofs.Ytmdffenlehcekaa
