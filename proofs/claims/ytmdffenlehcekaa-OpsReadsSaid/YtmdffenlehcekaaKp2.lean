/- Printed by a program of this repo: what the functions come to. -/
import Derived.Test.YtmdffenlehcekaaKe
set_option linter.unusedVariables false
set_option linter.unusedSimpArgs false
set_option maxRecDepth 100000
namespace Go.Proofs.Ytmdffenlehcekaa
open Go Go.Am
/-! ### 61 trammel/ops.layout -/
noncomputable def c_ops_layout : Code := bodyOf Try.f61
noncomputable def k_ops_layout : Kt := endK Try.prog Try.f61
noncomputable def c_ops_layout_b : Code := sB c_ops_layout
noncomputable def c_ops_layout_bb : Code := sB c_ops_layout_b
noncomputable def c_ops_layout_bbb : Code := sB c_ops_layout_bb
noncomputable def c_ops_layout_bbbb : Code := sB c_ops_layout_bbb
noncomputable def c_ops_layout_bbba : Code := sA c_ops_layout_bbb
noncomputable def c_ops_layout_bbbab : Code := sB c_ops_layout_bbba
noncomputable def c_ops_layout_bbbabk : Code := sK c_ops_layout_bbbab
noncomputable def c_ops_layout_bbbabkb : Code := sB c_ops_layout_bbbabk
noncomputable def c_ops_layout_bbbabkbe : Code := cE c_ops_layout_bbbabkb
noncomputable def c_ops_layout_bbbabkbeb : Code := sB c_ops_layout_bbbabkbe
noncomputable def c_ops_layout_bbbabkbebe : Code := cE c_ops_layout_bbbabkbeb
noncomputable def c_ops_layout_bbbabkbebeb : Code := sB c_ops_layout_bbbabkbebe
noncomputable def c_ops_layout_bbbabkbebebe : Code := cE c_ops_layout_bbbabkbebeb
noncomputable def c_ops_layout_bbbabkbebebeb : Code := sB c_ops_layout_bbbabkbebebe
noncomputable def c_ops_layout_bbbabkbebebebe : Code := cE c_ops_layout_bbbabkbebebeb
noncomputable def c_ops_layout_bbbabkbebebebeb : Code := sB c_ops_layout_bbbabkbebebebe
noncomputable def c_ops_layout_bbbabkbebebebebe : Code := cE c_ops_layout_bbbabkbebebebeb
noncomputable def c_ops_layout_bbbabkbebebebebeb : Code := sB c_ops_layout_bbbabkbebebebebe
noncomputable def c_ops_layout_bbbabkbebebebebebe : Code := cE c_ops_layout_bbbabkbebebebebeb
noncomputable def c_ops_layout_bbbabkbebebebebebeb : Code := sB c_ops_layout_bbbabkbebebebebebe
noncomputable def c_ops_layout_bbbabkbebebebebebebe : Code := cE c_ops_layout_bbbabkbebebebebebeb
noncomputable def c_ops_layout_bbbabkbebebebebebebeb : Code := sB c_ops_layout_bbbabkbebebebebebebe
noncomputable def c_ops_layout_bbbbb : Code := sB c_ops_layout_bbbb
noncomputable def c_ops_layout_bbbba : Code := sA c_ops_layout_bbbb
noncomputable def c_ops_layout_bbbbab : Code := sB c_ops_layout_bbbba
noncomputable def J_ops_layout_1000023 (call : CallF) (h : Heap) (v0 v4 v5 v6 v13 v29 : Value) : R := fSeq Try.prog call keep_ops_layout c_ops_layout_bbbabkbebebeb (kBlk 0 (fSeq Try.prog call keep_ops_layout c_ops_layout_bbbb k_ops_layout)) Ex.normal ⟨v0 :: undefA :: undefA :: undefA :: v4 :: v5 :: v6 :: undefA :: undefA :: undefA :: undefA :: undefA :: undefA :: v13 :: undefA :: undefA :: undefA :: undefA :: undefA :: undefA :: undefA :: undefA :: undefA :: undefA :: undefA :: undefA :: undefA :: undefA :: undefA :: v29 :: undefA :: undefA :: undefA :: undefA :: undefA :: undefA :: undefA :: undefA :: undefA :: undefA :: undefA :: undefA :: undefA :: undefA :: undefA :: undefA :: undefA :: undefA :: undefA :: undefA :: undefA :: undefA :: undefA :: undefA :: undefA :: undefA :: undefA :: undefA :: undefA :: undefA :: undefA :: undefA :: undefA :: undefA :: undefA :: undefA :: undefA :: undefA :: undefA :: undefA :: undefA :: undefA :: undefA :: undefA :: undefA :: undefA :: undefA :: undefA :: undefA :: undefA :: undefA :: undefA :: undefA :: undefA :: undefA :: undefA :: undefA :: undefA :: undefA :: undefA :: [], h⟩
noncomputable def J_ops_layout_1000026 (call : CallF) (h : Heap) (v0 v4 v5 v6 v13 v44 : Value) : R := fSeq Try.prog call keep_ops_layout c_ops_layout_bbbabkbebebebeb (kBlk 0 (fSeq Try.prog call keep_ops_layout c_ops_layout_bbbb k_ops_layout)) Ex.normal ⟨v0 :: undefA :: undefA :: undefA :: v4 :: v5 :: v6 :: undefA :: undefA :: undefA :: undefA :: undefA :: undefA :: v13 :: undefA :: undefA :: undefA :: undefA :: undefA :: undefA :: undefA :: undefA :: undefA :: undefA :: undefA :: undefA :: undefA :: undefA :: undefA :: undefA :: undefA :: undefA :: undefA :: undefA :: undefA :: undefA :: undefA :: undefA :: undefA :: undefA :: undefA :: undefA :: undefA :: undefA :: v44 :: undefA :: undefA :: undefA :: undefA :: undefA :: undefA :: undefA :: undefA :: undefA :: undefA :: undefA :: undefA :: undefA :: undefA :: undefA :: undefA :: undefA :: undefA :: undefA :: undefA :: undefA :: undefA :: undefA :: undefA :: undefA :: undefA :: undefA :: undefA :: undefA :: undefA :: undefA :: undefA :: undefA :: undefA :: undefA :: undefA :: undefA :: undefA :: undefA :: undefA :: undefA :: undefA :: undefA :: undefA :: undefA :: [], h⟩
noncomputable def J_ops_layout_1000029 (call : CallF) (h : Heap) (v0 v5 v6 v13 v50 : Value) : R := fSeq Try.prog call keep_ops_layout c_ops_layout_bbbabkbebebebebeb (kBlk 0 (fSeq Try.prog call keep_ops_layout c_ops_layout_bbbb k_ops_layout)) Ex.normal ⟨v0 :: undefA :: undefA :: undefA :: undefA :: v5 :: v6 :: undefA :: undefA :: undefA :: undefA :: undefA :: undefA :: v13 :: undefA :: undefA :: undefA :: undefA :: undefA :: undefA :: undefA :: undefA :: undefA :: undefA :: undefA :: undefA :: undefA :: undefA :: undefA :: undefA :: undefA :: undefA :: undefA :: undefA :: undefA :: undefA :: undefA :: undefA :: undefA :: undefA :: undefA :: undefA :: undefA :: undefA :: undefA :: undefA :: undefA :: undefA :: undefA :: undefA :: v50 :: undefA :: undefA :: undefA :: undefA :: undefA :: undefA :: undefA :: undefA :: undefA :: undefA :: undefA :: undefA :: undefA :: undefA :: undefA :: undefA :: undefA :: undefA :: undefA :: undefA :: undefA :: undefA :: undefA :: undefA :: undefA :: undefA :: undefA :: undefA :: undefA :: undefA :: undefA :: undefA :: undefA :: undefA :: undefA :: undefA :: undefA :: undefA :: undefA :: [], h⟩
noncomputable def J_ops_layout_1000035 (call : CallF) (h : Heap) (v0 v5 v6 v13 v61 : Value) : R := fSeq Try.prog call keep_ops_layout c_ops_layout_bbbabkbebebebebebebeb (kBlk 0 (fSeq Try.prog call keep_ops_layout c_ops_layout_bbbb k_ops_layout)) Ex.normal ⟨v0 :: undefA :: undefA :: undefA :: undefA :: v5 :: v6 :: undefA :: undefA :: undefA :: undefA :: undefA :: undefA :: v13 :: undefA :: undefA :: undefA :: undefA :: undefA :: undefA :: undefA :: undefA :: undefA :: undefA :: undefA :: undefA :: undefA :: undefA :: undefA :: undefA :: undefA :: undefA :: undefA :: undefA :: undefA :: undefA :: undefA :: undefA :: undefA :: undefA :: undefA :: undefA :: undefA :: undefA :: undefA :: undefA :: undefA :: undefA :: undefA :: undefA :: undefA :: undefA :: undefA :: undefA :: undefA :: undefA :: undefA :: undefA :: undefA :: undefA :: undefA :: v61 :: undefA :: undefA :: undefA :: undefA :: undefA :: undefA :: undefA :: undefA :: undefA :: undefA :: undefA :: undefA :: undefA :: undefA :: undefA :: undefA :: undefA :: undefA :: undefA :: undefA :: undefA :: undefA :: undefA :: undefA :: undefA :: undefA :: undefA :: undefA :: [], h⟩
noncomputable def J_ops_layout_1000041 (call : CallF) (h : Heap) (v0 v6 v81 : Value) : R := fSeq Try.prog call keep_ops_layout c_ops_layout_bbbbab (fSeq Try.prog call keep_ops_layout c_ops_layout_bbbbb k_ops_layout) Ex.normal ⟨v0 :: undefA :: undefA :: undefA :: undefA :: undefA :: v6 :: undefA :: undefA :: undefA :: undefA :: undefA :: undefA :: undefA :: undefA :: undefA :: undefA :: undefA :: undefA :: undefA :: undefA :: undefA :: undefA :: undefA :: undefA :: undefA :: undefA :: undefA :: undefA :: undefA :: undefA :: undefA :: undefA :: undefA :: undefA :: undefA :: undefA :: undefA :: undefA :: undefA :: undefA :: undefA :: undefA :: undefA :: undefA :: undefA :: undefA :: undefA :: undefA :: undefA :: undefA :: undefA :: undefA :: undefA :: undefA :: undefA :: undefA :: undefA :: undefA :: undefA :: undefA :: undefA :: undefA :: undefA :: undefA :: undefA :: undefA :: undefA :: undefA :: undefA :: undefA :: undefA :: undefA :: undefA :: undefA :: undefA :: undefA :: undefA :: undefA :: undefA :: undefA :: v81 :: undefA :: undefA :: undefA :: undefA :: undefA :: undefA :: undefA :: undefA :: [], h⟩
noncomputable def J_ops_layout_1000023_b (call : CallF) (h : Heap) (v0 v4 v5 v6 v13 v29 : Value) : R :=
condF v29 (
obnd (aLoad Try.prog T_ops_field h v4) fun x61 =>
anew (mkLit Try.prog T_Sops_field 1 [(0, x61)]) h fun p62 h63 =>
some (Ret.ret (Value.tuple ⟨[p62, (Go.Value.bool true)]⟩), h63)) (
obnd (aBin Try.prog Go.BinOp.eql T_uint8 v13 (Go.Value.int Go.IntKind.u8 37) (Go.Operand.tmp 13) (Go.Operand.const (Go.Value.int Go.IntKind.u8 37))) fun x64 =>
condF x64 (
J_ops_layout_1000026 call h v0 v4 v5 v6 v13 x64) (
obnd (aBin Try.prog Go.BinOp.eql T_uint8 v13 (Go.Value.int Go.IntKind.u8 38) (Go.Operand.tmp 13) (Go.Operand.const (Go.Value.int Go.IntKind.u8 38))) fun x65 =>
J_ops_layout_1000026 call h v0 v4 v5 v6 v13 x65))
theorem J_ops_layout_1000023_wp {call : CallF} {h : Heap} {v0 v4 v5 v6 v13 v29 : Value} {Q : Ret → Heap → Prop} (hr : WP (J_ops_layout_1000023_b call h v0 v4 v5 v6 v13 v29) Q) : WP (J_ops_layout_1000023 call h v0 v4 v5 v6 v13 v29) Q := wp_eq (by kernel_rfl) hr
noncomputable def J_ops_layout_1000026_b (call : CallF) (h : Heap) (v0 v4 v5 v6 v13 v44 : Value) : R :=
condF v44 (
obnd (aLoad Try.prog T_ops_field h v4) fun x66 =>
obnd (aLoad Try.prog T_ops_field h v4) fun x67 =>
anew (mkLit Try.prog T_Sops_field 2 [(0, x66), (1, x67)]) h fun p68 h69 =>
some (Ret.ret (Value.tuple ⟨[p68, (Go.Value.bool true)]⟩), h69)) (
obnd (aBin Try.prog Go.BinOp.eql T_uint8 v13 (Go.Value.int Go.IntKind.u8 23) (Go.Operand.tmp 13) (Go.Operand.const (Go.Value.int Go.IntKind.u8 23))) fun x70 =>
condF x70 (
J_ops_layout_1000029 call h v0 v5 v6 v13 x70) (
obnd (aBin Try.prog Go.BinOp.eql T_uint8 v13 (Go.Value.int Go.IntKind.u8 24) (Go.Operand.tmp 13) (Go.Operand.const (Go.Value.int Go.IntKind.u8 24))) fun x71 =>
J_ops_layout_1000029 call h v0 v5 v6 v13 x71))
theorem J_ops_layout_1000026_wp {call : CallF} {h : Heap} {v0 v4 v5 v6 v13 v44 : Value} {Q : Ret → Heap → Prop} (hr : WP (J_ops_layout_1000026_b call h v0 v4 v5 v6 v13 v44) Q) : WP (J_ops_layout_1000026 call h v0 v4 v5 v6 v13 v44) Q := wp_eq (by kernel_rfl) hr
noncomputable def J_ops_layout_1000029_b (call : CallF) (h : Heap) (v0 v5 v6 v13 v50 : Value) : R :=
condF v50 (
retK (call fn_ops_between [(Go.Value.int Go.IntKind.i64 1), (Go.Value.int Go.IntKind.i64 5)] h) (fun x72 h73 =>
obnd (aBuild Try.prog T_ops_field [(0, (Go.Value.int Go.IntKind.i64 1)), (1, x72)]) fun x76 =>
anew (mkLit Try.prog T_Sops_field 1 [(0, x76)]) h73 fun p77 h78 =>
some (Ret.ret (Value.tuple ⟨[p77, (Go.Value.bool true)]⟩), h78)) (fun x74 h75 => some (Ret.pan x74, h75))) (
obnd (aBin Try.prog Go.BinOp.eql T_uint8 v13 (Go.Value.int Go.IntKind.u8 29) (Go.Operand.tmp 13) (Go.Operand.const (Go.Value.int Go.IntKind.u8 29))) fun x79 =>
condF x79 (
obnd (aLoad Try.prog T_ops_field h v6) fun x80 =>
obnd (aLoad Try.prog T_ops_field h v6) fun x81 =>
anew (mkLit Try.prog T_Sops_field 2 [(0, x80), (1, x81)]) h fun p82 h83 =>
some (Ret.ret (Value.tuple ⟨[p82, (Go.Value.bool true)]⟩), h83)) (
obnd (aBin Try.prog Go.BinOp.eql T_uint8 v13 (Go.Value.int Go.IntKind.u8 46) (Go.Operand.tmp 13) (Go.Operand.const (Go.Value.int Go.IntKind.u8 46))) fun x84 =>
condF x84 (
J_ops_layout_1000035 call h v0 v5 v6 v13 x84) (
obnd (aBin Try.prog Go.BinOp.eql T_uint8 v13 (Go.Value.int Go.IntKind.u8 47) (Go.Operand.tmp 13) (Go.Operand.const (Go.Value.int Go.IntKind.u8 47))) fun x85 =>
condF x85 (
J_ops_layout_1000035 call h v0 v5 v6 v13 x85) (
obnd (aBin Try.prog Go.BinOp.eql T_uint8 v13 (Go.Value.int Go.IntKind.u8 48) (Go.Operand.tmp 13) (Go.Operand.const (Go.Value.int Go.IntKind.u8 48))) fun x86 =>
J_ops_layout_1000035 call h v0 v5 v6 v13 x86))))
theorem J_ops_layout_1000029_wp {call : CallF} {h : Heap} {v0 v5 v6 v13 v50 : Value} {Q : Ret → Heap → Prop} (hr : WP (J_ops_layout_1000029_b call h v0 v5 v6 v13 v50) Q) : WP (J_ops_layout_1000029 call h v0 v5 v6 v13 v50) Q := wp_eq (by kernel_rfl) hr
noncomputable def J_ops_layout_1000035_b (call : CallF) (h : Heap) (v0 v5 v6 v13 v61 : Value) : R :=
condF v61 (
obnd (aLoad Try.prog T_ops_field h v5) fun x87 =>
anew (mkLit Try.prog T_Sops_field 1 [(0, x87)]) h fun p88 h89 =>
some (Ret.ret (Value.tuple ⟨[p88, (Go.Value.bool true)]⟩), h89)) (
obnd (aBin Try.prog Go.BinOp.eql T_uint8 v13 (Go.Value.int Go.IntKind.u8 52) (Go.Operand.tmp 13) (Go.Operand.const (Go.Value.int Go.IntKind.u8 52))) fun x90 =>
condF x90 (
retK (call fn_ops_between [(Go.Value.int Go.IntKind.i64 0), (Go.Value.int Go.IntKind.i64 255)] h) (fun x91 h92 =>
obnd (aBuild Try.prog T_ops_field [(0, (Go.Value.int Go.IntKind.i64 1)), (1, x91)]) fun x95 =>
anew (mkLit Try.prog T_Sops_field 1 [(0, x95)]) h92 fun p96 h97 =>
some (Ret.ret (Value.tuple ⟨[p96, (Go.Value.bool true)]⟩), h97)) (fun x93 h94 => some (Ret.pan x93, h94))) (
obnd (aBin Try.prog Go.BinOp.eql T_uint8 v13 (Go.Value.int Go.IntKind.u8 49) (Go.Operand.tmp 13) (Go.Operand.const (Go.Value.int Go.IntKind.u8 49))) fun x98 =>
condF x98 (
obnd (aLoad Try.prog T_ops_field h v6) fun x99 =>
anew (mkLit Try.prog T_Sops_field 1 [(0, x99)]) h fun p100 h101 =>
some (Ret.ret (Value.tuple ⟨[p100, (Go.Value.bool true)]⟩), h101)) (
obnd (aBin Try.prog Go.BinOp.geq T_uint8 v0 (Go.Value.int Go.IntKind.u8 11) (Go.Operand.tmp 76) (Go.Operand.const (Go.Value.int Go.IntKind.u8 11))) fun x102 =>
guardV3 x102 (
obnd (aBin Try.prog Go.BinOp.leq T_uint8 v0 (Go.Value.int Go.IntKind.u8 28) (Go.Operand.tmp 79) (Go.Operand.const (Go.Value.int Go.IntKind.u8 28))) fun x103 =>
J_ops_layout_1000041 call h v0 v6 x103) (
J_ops_layout_1000041 call h v0 v6 (Go.Value.bool false)) (
none))))
theorem J_ops_layout_1000035_wp {call : CallF} {h : Heap} {v0 v5 v6 v13 v61 : Value} {Q : Ret → Heap → Prop} (hr : WP (J_ops_layout_1000035_b call h v0 v5 v6 v13 v61) Q) : WP (J_ops_layout_1000035 call h v0 v5 v6 v13 v61) Q := wp_eq (by kernel_rfl) hr
noncomputable def J_ops_layout_1000041_b (call : CallF) (h : Heap) (v0 v6 v81 : Value) : R :=
condF v81 (
obnd (aLoad Try.prog T_ops_field h v6) fun x104 =>
anew (mkLit Try.prog T_Sops_field 1 [(0, x104)]) h fun p105 h106 =>
some (Ret.ret (Value.tuple ⟨[p105, (Go.Value.bool true)]⟩), h106)) (
obnd (aBin Try.prog Go.BinOp.geq T_uint8 v0 (Go.Value.int Go.IntKind.u8 1) (Go.Operand.tmp 84) (Go.Operand.const (Go.Value.int Go.IntKind.u8 1))) fun x107 =>
guardV3 x107 (
obnd (aBin Try.prog Go.BinOp.leq T_uint8 v0 (Go.Value.int Go.IntKind.u8 52) (Go.Operand.tmp 87) (Go.Operand.const (Go.Value.int Go.IntKind.u8 52))) fun x108 =>
some (Ret.ret (Value.tuple ⟨[(Go.Value.slice none 0 0), x108]⟩), h)) (
some (Ret.ret (Value.tuple ⟨[(Go.Value.slice none 0 0), (Go.Value.bool false)]⟩), h)) (
none))
theorem J_ops_layout_1000041_wp {call : CallF} {h : Heap} {v0 v6 v81 : Value} {Q : Ret → Heap → Prop} (hr : WP (J_ops_layout_1000041_b call h v0 v6 v81) Q) : WP (J_ops_layout_1000041 call h v0 v6 v81) Q := wp_eq (by kernel_rfl) hr
noncomputable def B_ops_layout (call : CallF) (h : Heap) (v0 : Value) : R :=
retK (call fn_ops_between [(Go.Value.int Go.IntKind.i64 0), (Go.Value.int Go.IntKind.i64 65535)] h) (fun x1 h2 =>
obnd (aBuild Try.prog T_ops_field [(0, (Go.Value.int Go.IntKind.i64 2)), (1, x1)]) fun x5 =>
retK (call fn_ops_between [(Go.Value.int Go.IntKind.i64 0), (Go.Value.int Go.IntKind.i64 4294967295)] h2) (fun x6 h7 =>
obnd (aBuild Try.prog T_ops_field [(0, (Go.Value.int Go.IntKind.i64 4)), (1, x6)]) fun x10 =>
anew (mkAlloc Try.prog T_ops_field) h7 fun p11 h12 =>
anew (mkAlloc Try.prog T_ops_field) h12 fun p13 h14 =>
obnd (aStore Try.prog T_ops_field p11 x5 h14) fun h15 =>
obnd (aStore Try.prog T_ops_field p13 x10 h15) fun h16 =>
retK (call fn_ops_between [(Go.Value.int Go.IntKind.i64 1), (Go.Value.int Go.IntKind.i64 3)] h16) (fun x17 h18 =>
obnd (aBuild Try.prog T_ops_field [(0, (Go.Value.int Go.IntKind.i64 1)), (1, x17)]) fun x21 =>
anew (mkAlloc Try.prog T_ops_field) h18 fun p22 h23 =>
obnd (aStore Try.prog T_ops_field p22 x21 h23) fun h24 =>
obnd (aBin Try.prog Go.BinOp.eql T_uint8 v0 (Go.Value.int Go.IntKind.u8 1) (Go.Operand.tmp 13) (Go.Operand.const (Go.Value.int Go.IntKind.u8 1))) fun x25 =>
condF x25 (
retK (call fn_ops_fits [(Go.Value.int Go.IntKind.u8 1)] h24) (fun x26 h27 =>
obnd (aBuild Try.prog T_ops_field [(0, (Go.Value.int Go.IntKind.i64 1)), (1, x26)]) fun x30 =>
anew (mkLit Try.prog T_Sops_field 1 [(0, x30)]) h27 fun p31 h32 =>
some (Ret.ret (Value.tuple ⟨[p31, (Go.Value.bool true)]⟩), h32)) (fun x28 h29 => some (Ret.pan x28, h29))) (
obnd (aBin Try.prog Go.BinOp.eql T_uint8 v0 (Go.Value.int Go.IntKind.u8 2) (Go.Operand.tmp 13) (Go.Operand.const (Go.Value.int Go.IntKind.u8 2))) fun x33 =>
condF x33 (
retK (call fn_ops_fits [(Go.Value.int Go.IntKind.u8 2)] h24) (fun x34 h35 =>
obnd (aBuild Try.prog T_ops_field [(0, (Go.Value.int Go.IntKind.i64 4)), (1, x34)]) fun x38 =>
anew (mkLit Try.prog T_Sops_field 1 [(0, x38)]) h35 fun p39 h40 =>
some (Ret.ret (Value.tuple ⟨[p39, (Go.Value.bool true)]⟩), h40)) (fun x36 h37 => some (Ret.pan x36, h37))) (
obnd (aBin Try.prog Go.BinOp.eql T_uint8 v0 (Go.Value.int Go.IntKind.u8 3) (Go.Operand.tmp 13) (Go.Operand.const (Go.Value.int Go.IntKind.u8 3))) fun x41 =>
condF x41 (
retK (call fn_ops_fits [(Go.Value.int Go.IntKind.u8 3)] h24) (fun x42 h43 =>
obnd (aBuild Try.prog T_ops_field [(0, (Go.Value.int Go.IntKind.i64 8)), (1, x42)]) fun x46 =>
anew (mkLit Try.prog T_Sops_field 1 [(0, x46)]) h43 fun p47 h48 =>
some (Ret.ret (Value.tuple ⟨[p47, (Go.Value.bool true)]⟩), h48)) (fun x44 h45 => some (Ret.pan x44, h45))) (
obnd (aBin Try.prog Go.BinOp.eql T_uint8 v0 (Go.Value.int Go.IntKind.u8 6) (Go.Operand.tmp 13) (Go.Operand.const (Go.Value.int Go.IntKind.u8 6))) fun x49 =>
condF x49 (
J_ops_layout_1000023 call h24 v0 p11 p13 p22 v0 x49) (
obnd (aBin Try.prog Go.BinOp.eql T_uint8 v0 (Go.Value.int Go.IntKind.u8 7) (Go.Operand.tmp 13) (Go.Operand.const (Go.Value.int Go.IntKind.u8 7))) fun x50 =>
condF x50 (
J_ops_layout_1000023 call h24 v0 p11 p13 p22 v0 x50) (
obnd (aBin Try.prog Go.BinOp.eql T_uint8 v0 (Go.Value.int Go.IntKind.u8 8) (Go.Operand.tmp 13) (Go.Operand.const (Go.Value.int Go.IntKind.u8 8))) fun x51 =>
condF x51 (
J_ops_layout_1000023 call h24 v0 p11 p13 p22 v0 x51) (
obnd (aBin Try.prog Go.BinOp.eql T_uint8 v0 (Go.Value.int Go.IntKind.u8 50) (Go.Operand.tmp 13) (Go.Operand.const (Go.Value.int Go.IntKind.u8 50))) fun x52 =>
condF x52 (
J_ops_layout_1000023 call h24 v0 p11 p13 p22 v0 x52) (
obnd (aBin Try.prog Go.BinOp.eql T_uint8 v0 (Go.Value.int Go.IntKind.u8 36) (Go.Operand.tmp 13) (Go.Operand.const (Go.Value.int Go.IntKind.u8 36))) fun x53 =>
condF x53 (
J_ops_layout_1000023 call h24 v0 p11 p13 p22 v0 x53) (
obnd (aBin Try.prog Go.BinOp.eql T_uint8 v0 (Go.Value.int Go.IntKind.u8 39) (Go.Operand.tmp 13) (Go.Operand.const (Go.Value.int Go.IntKind.u8 39))) fun x54 =>
condF x54 (
J_ops_layout_1000023 call h24 v0 p11 p13 p22 v0 x54) (
obnd (aBin Try.prog Go.BinOp.eql T_uint8 v0 (Go.Value.int Go.IntKind.u8 40) (Go.Operand.tmp 13) (Go.Operand.const (Go.Value.int Go.IntKind.u8 40))) fun x55 =>
condF x55 (
J_ops_layout_1000023 call h24 v0 p11 p13 p22 v0 x55) (
obnd (aBin Try.prog Go.BinOp.eql T_uint8 v0 (Go.Value.int Go.IntKind.u8 41) (Go.Operand.tmp 13) (Go.Operand.const (Go.Value.int Go.IntKind.u8 41))) fun x56 =>
condF x56 (
J_ops_layout_1000023 call h24 v0 p11 p13 p22 v0 x56) (
obnd (aBin Try.prog Go.BinOp.eql T_uint8 v0 (Go.Value.int Go.IntKind.u8 42) (Go.Operand.tmp 13) (Go.Operand.const (Go.Value.int Go.IntKind.u8 42))) fun x57 =>
condF x57 (
J_ops_layout_1000023 call h24 v0 p11 p13 p22 v0 x57) (
obnd (aBin Try.prog Go.BinOp.eql T_uint8 v0 (Go.Value.int Go.IntKind.u8 43) (Go.Operand.tmp 13) (Go.Operand.const (Go.Value.int Go.IntKind.u8 43))) fun x58 =>
condF x58 (
J_ops_layout_1000023 call h24 v0 p11 p13 p22 v0 x58) (
obnd (aBin Try.prog Go.BinOp.eql T_uint8 v0 (Go.Value.int Go.IntKind.u8 44) (Go.Operand.tmp 13) (Go.Operand.const (Go.Value.int Go.IntKind.u8 44))) fun x59 =>
condF x59 (
J_ops_layout_1000023 call h24 v0 p11 p13 p22 v0 x59) (
obnd (aBin Try.prog Go.BinOp.eql T_uint8 v0 (Go.Value.int Go.IntKind.u8 45) (Go.Operand.tmp 13) (Go.Operand.const (Go.Value.int Go.IntKind.u8 45))) fun x60 =>
J_ops_layout_1000023 call h24 v0 p11 p13 p22 v0 x60))))))))))))))) (fun x19 h20 => some (Ret.pan x19, h20))) (fun x8 h9 => some (Ret.pan x8, h9))) (fun x3 h4 => some (Ret.pan x3, h4))
theorem R_ops_layout {call : CallF} {h : Heap} {v0 : Value} {Q : Ret → Heap → Prop} (hr : WP (B_ops_layout call h v0) Q) : WP (runF Try.prog call keep_ops_layout c_ops_layout ⟨[v0] ++ List.replicate (Try.f61.ntmps - 1) undefA, h⟩ k_ops_layout) Q := wp_eq (by kernel_rfl) hr
theorem F_ops_layout {h : Heap} {v0 : Value} {Q : Ret → Heap → Prop} (hr : WP (B_ops_layout (callW E) h v0) Q) : WP (callW E fn_ops_layout [v0] h) Q := wp_callW (fn := Try.f61) (c := c_ops_layout) (kp := keep_ops_layout) (by kernel_rfl) (by kernel_rfl) (by kernel_rfl) (by kernel_rfl) (by kernel_rfl) (R_ops_layout hr)
/-! ### 62 (*trammel/ops.reader).read -/
noncomputable def c_ops_reader_read : Code := bodyOf Try.f62
noncomputable def k_ops_reader_read : Kt := endK Try.prog Try.f62
noncomputable def c_ops_reader_read_b : Code := sB c_ops_reader_read
noncomputable def c_ops_reader_read_bb : Code := sB c_ops_reader_read_b
noncomputable def c_ops_reader_read_bbb : Code := sB c_ops_reader_read_bb
noncomputable def c_ops_reader_read_bbbb : Code := sB c_ops_reader_read_bbb
noncomputable def c_ops_reader_read_bbbbb : Code := sB c_ops_reader_read_bbbb
noncomputable def c_ops_reader_read_bbbbbb : Code := sB c_ops_reader_read_bbbbb
noncomputable def c_ops_reader_read_bbbbba : Code := sA c_ops_reader_read_bbbbb
noncomputable def c_ops_reader_read_bbbbbab : Code := sB c_ops_reader_read_bbbbba
noncomputable def J_ops_reader_read_1000010 (call : CallF) (h : Heap) (v0 v3 v6 v8 v45 : Value) : R := fSeq Try.prog call keep_ops_reader_read c_ops_reader_read_bbbbbab (fSeq Try.prog call keep_ops_reader_read c_ops_reader_read_bbbbbb k_ops_reader_read) Ex.normal ⟨v0 :: undefA :: undefA :: v3 :: undefA :: undefA :: v6 :: undefA :: v8 :: undefA :: undefA :: undefA :: undefA :: undefA :: undefA :: undefA :: undefA :: undefA :: undefA :: undefA :: undefA :: undefA :: undefA :: undefA :: undefA :: undefA :: undefA :: undefA :: undefA :: undefA :: undefA :: undefA :: undefA :: undefA :: undefA :: undefA :: undefA :: undefA :: undefA :: undefA :: undefA :: undefA :: undefA :: undefA :: undefA :: v45 :: undefA :: undefA :: undefA :: undefA :: undefA :: undefA :: undefA :: undefA :: undefA :: undefA :: undefA :: undefA :: undefA :: undefA :: undefA :: undefA :: undefA :: undefA :: undefA :: [], h⟩
noncomputable def J_ops_reader_read_10 (call : CallF) (h : Heap) (v0 v3 v6 v8 : Value) : R := fSeq Try.prog call keep_ops_reader_read c_ops_reader_read_bbbbbb k_ops_reader_read Ex.normal ⟨v0 :: undefA :: undefA :: v3 :: undefA :: undefA :: v6 :: undefA :: v8 :: undefA :: undefA :: undefA :: undefA :: undefA :: undefA :: undefA :: undefA :: undefA :: undefA :: undefA :: undefA :: undefA :: undefA :: undefA :: undefA :: undefA :: undefA :: undefA :: undefA :: undefA :: undefA :: undefA :: undefA :: undefA :: undefA :: undefA :: undefA :: undefA :: undefA :: undefA :: undefA :: undefA :: undefA :: undefA :: undefA :: undefA :: undefA :: undefA :: undefA :: undefA :: undefA :: undefA :: undefA :: undefA :: undefA :: undefA :: undefA :: undefA :: undefA :: undefA :: undefA :: undefA :: undefA :: undefA :: undefA :: [], h⟩
noncomputable def J_ops_reader_read_1000010_b (call : CallF) (h : Heap) (v0 v3 v6 v8 v45 : Value) : R :=
condF v45 (
obnd (aFieldAddr Try.prog T_ops_field v3 0) fun x38 =>
obnd (aLoad Try.prog T_int h x38) fun x39 =>
obnd (aBin Try.prog Go.BinOp.mul T_int (Go.Value.int Go.IntKind.i64 8) x39 (Go.Operand.const (Go.Value.int Go.IntKind.i64 8)) (Go.Operand.tmp 48)) fun x40 =>
obnd (aBin Try.prog Go.BinOp.shl T_int64 (Go.Value.int Go.IntKind.i64 1) x40 (Go.Operand.const (Go.Value.int Go.IntKind.i64 1)) (Go.Operand.tmp 49)) fun x41 =>
obnd (aBin Try.prog Go.BinOp.sub T_int64 v8 x41 (Go.Operand.tmp 46) (Go.Operand.tmp 50)) fun x42 =>
J_ops_reader_read_10 call h v0 v3 v6 x42) (
J_ops_reader_read_10 call h v0 v3 v6 v8)
theorem J_ops_reader_read_1000010_wp {call : CallF} {h : Heap} {v0 v3 v6 v8 v45 : Value} {Q : Ret → Heap → Prop} (hr : WP (J_ops_reader_read_1000010_b call h v0 v3 v6 v8 v45) Q) : WP (J_ops_reader_read_1000010 call h v0 v3 v6 v8 v45) Q := wp_eq (by kernel_rfl) hr
noncomputable def J_ops_reader_read_10_b (call : CallF) (h : Heap) (v0 v3 v6 v8 : Value) : R :=
obnd (aFieldAddr Try.prog T_ops_field v3 1) fun x43 =>
obnd (aLoad Try.prog 102 h x43) fun x44 =>
obnd (opCv x44 [v8]) fun q56 => retK (call q56.1 q56.2 h) (fun x45 h46 =>
obnd (aUn Try.prog Go.UnOp.not x45) fun x49 =>
condF x49 (
obnd (aNilCheck v0) fun x50 =>
obnd (aFieldAddr Try.prog T_ops_reader x50 2) fun x51 =>
obnd (aStore Try.prog T_api_Errno x51 (Go.Value.int Go.IntKind.i64 120) h46) fun h52 =>
some (Ret.ret (Go.Value.int Go.IntKind.i64 0), h52)) (
obnd (aNilCheck v0) fun x53 =>
obnd (aFieldAddr Try.prog T_ops_reader x53 1) fun x54 =>
obnd (aStore Try.prog T_int x54 v6 h46) fun h55 =>
some (Ret.ret v8, h55))) (fun x47 h48 => some (Ret.pan x47, h48))
theorem J_ops_reader_read_10_wp {call : CallF} {h : Heap} {v0 v3 v6 v8 : Value} {Q : Ret → Heap → Prop} (hr : WP (J_ops_reader_read_10_b call h v0 v3 v6 v8) Q) : WP (J_ops_reader_read_10 call h v0 v3 v6 v8) Q := wp_eq (by kernel_rfl) hr
noncomputable def B_ops_reader_read (call : CallF) (h : Heap) (v0 v1 : Value) : R :=
anew (mkBox T_ops_field v1) h fun p1 h2 =>
obnd (aNilCheck v0) fun x3 =>
obnd (aFieldAddr Try.prog T_ops_reader x3 2) fun x4 =>
obnd (aLoad Try.prog T_api_Errno h2 x4) fun x5 =>
obnd (aBin Try.prog Go.BinOp.neq T_api_Errno x5 (Go.Value.int Go.IntKind.i64 0) (Go.Operand.tmp 12) (Go.Operand.const (Go.Value.int Go.IntKind.i64 0))) fun x6 =>
condF x6 (
some (Ret.ret (Go.Value.int Go.IntKind.i64 0), h2)) (
obnd (aNilCheck v0) fun x7 =>
obnd (aFieldAddr Try.prog T_ops_reader x7 0) fun x8 =>
obnd (aLoad Try.prog T_Suint8 h2 x8) fun x9 =>
obnd (aNilCheck v0) fun x10 =>
obnd (aFieldAddr Try.prog T_ops_reader x10 1) fun x11 =>
obnd (aLoad Try.prog T_int h2 x11) fun x12 =>
obnd (aFieldAddr Try.prog T_ops_field p1 0) fun x13 =>
obnd (aLoad Try.prog T_int h2 x13) fun x14 =>
retK (call fn_wire_Wide [x9, x12, x14] h2) (fun x15 h16 =>
obnd (aExtract x15 0) fun x19 =>
obnd (aExtract x15 1) fun x20 =>
obnd (aExtract x15 2) fun x21 =>
obnd (aBin Try.prog Go.BinOp.neq T_api_Errno x21 (Go.Value.int Go.IntKind.i64 0) (Go.Operand.tmp 29) (Go.Operand.const (Go.Value.int Go.IntKind.i64 0))) fun x22 =>
condF x22 (
obnd (aNilCheck v0) fun x23 =>
obnd (aFieldAddr Try.prog T_ops_reader x23 2) fun x24 =>
obnd (aStore Try.prog T_api_Errno x24 (Go.Value.int Go.IntKind.i64 10) h16) fun h25 =>
some (Ret.ret (Go.Value.int Go.IntKind.i64 0), h25)) (
obnd (aConv Try.prog T_uint64 T_int64 x19) fun x26 =>
obnd (aFieldAddr Try.prog T_ops_field p1 1) fun x27 =>
obnd (aLoad Try.prog 102 h16 x27) fun x28 =>
obnd (opCv x28 [x26]) fun q37 => retK (call q37.1 q37.2 h16) (fun x29 h30 =>
obnd (aUn Try.prog Go.UnOp.not x29) fun x33 =>
guardV3 x33 (
obnd (aFieldAddr Try.prog T_ops_field p1 0) fun x34 =>
obnd (aLoad Try.prog T_int h30 x34) fun x35 =>
obnd (aBin Try.prog Go.BinOp.lss T_int x35 (Go.Value.int Go.IntKind.i64 8) (Go.Operand.tmp 43) (Go.Operand.const (Go.Value.int Go.IntKind.i64 8))) fun x36 =>
J_ops_reader_read_1000010 call h30 v0 p1 x20 x26 x36) (
J_ops_reader_read_1000010 call h30 v0 p1 x20 x26 (Go.Value.bool false)) (
none)) (fun x31 h32 => some (Ret.pan x31, h32)))) (fun x17 h18 => some (Ret.pan x17, h18)))
theorem R_ops_reader_read {call : CallF} {h : Heap} {v0 v1 : Value} {Q : Ret → Heap → Prop} (hr : WP (B_ops_reader_read call h v0 v1) Q) : WP (runF Try.prog call keep_ops_reader_read c_ops_reader_read ⟨[v0, v1] ++ List.replicate (Try.f62.ntmps - 2) undefA, h⟩ k_ops_reader_read) Q := wp_eq (by kernel_rfl) hr
theorem F_ops_reader_read {h : Heap} {v0 v1 : Value} {Q : Ret → Heap → Prop} (hr : WP (B_ops_reader_read (callW E) h v0 v1) Q) : WP (callW E fn_ops_reader_read [v0, v1] h) Q := wp_callW (fn := Try.f62) (c := c_ops_reader_read) (kp := keep_ops_reader_read) (by kernel_rfl) (by kernel_rfl) (by kernel_rfl) (by kernel_rfl) (by kernel_rfl) (R_ops_reader_read hr)
/-! ### 63 trammel/ops.between -/
noncomputable def c_ops_between : Code := bodyOf Try.f63
noncomputable def k_ops_between : Kt := endK Try.prog Try.f63
noncomputable def B_ops_between (call : CallF) (h : Heap) (v0 v1 : Value) : R :=
anew (mkBox T_int64 v0) h fun p1 h2 =>
anew (mkBox T_int64 v1) h2 fun p3 h4 =>
some (Ret.ret (Value.func (Go.Fn.func fn_ops_between_1) ⟨[]⟩ ⟨[p1, p3]⟩), h4)
theorem R_ops_between {call : CallF} {h : Heap} {v0 v1 : Value} {Q : Ret → Heap → Prop} (hr : WP (B_ops_between call h v0 v1) Q) : WP (runF Try.prog call keep_ops_between c_ops_between ⟨[v0, v1] ++ List.replicate (Try.f63.ntmps - 2) undefA, h⟩ k_ops_between) Q := wp_eq (by kernel_rfl) hr
theorem F_ops_between {h : Heap} {v0 v1 : Value} {Q : Ret → Heap → Prop} (hr : WP (B_ops_between (callW E) h v0 v1) Q) : WP (callW E fn_ops_between [v0, v1] h) Q := wp_callW (fn := Try.f63) (c := c_ops_between) (kp := keep_ops_between) (by kernel_rfl) (by kernel_rfl) (by kernel_rfl) (by kernel_rfl) (by kernel_rfl) (R_ops_between hr)
/-! ### 64 trammel/ops.fits -/
noncomputable def c_ops_fits : Code := bodyOf Try.f64
noncomputable def k_ops_fits : Kt := endK Try.prog Try.f64
noncomputable def B_ops_fits (call : CallF) (h : Heap) (v0 : Value) : R :=
anew (mkBox T_uint8 v0) h fun p1 h2 =>
some (Ret.ret (Value.func (Go.Fn.func fn_ops_fits_1) ⟨[]⟩ ⟨[p1]⟩), h2)
theorem R_ops_fits {call : CallF} {h : Heap} {v0 : Value} {Q : Ret → Heap → Prop} (hr : WP (B_ops_fits call h v0) Q) : WP (runF Try.prog call keep_ops_fits c_ops_fits ⟨[v0] ++ List.replicate (Try.f64.ntmps - 1) undefA, h⟩ k_ops_fits) Q := wp_eq (by kernel_rfl) hr
theorem F_ops_fits {h : Heap} {v0 : Value} {Q : Ret → Heap → Prop} (hr : WP (B_ops_fits (callW E) h v0) Q) : WP (callW E fn_ops_fits [v0] h) Q := wp_callW (fn := Try.f64) (c := c_ops_fits) (kp := keep_ops_fits) (by kernel_rfl) (by kernel_rfl) (by kernel_rfl) (by kernel_rfl) (by kernel_rfl) (R_ops_fits hr)
/-! ### 75 trammel/ops.put -/
noncomputable def c_ops_put : Code := bodyOf Try.f75
noncomputable def k_ops_put : Kt := endK Try.prog Try.f75
noncomputable def B_ops_put (call : CallF) (h : Heap) (v0 v1 : Value) : R :=
obnd (aAppend Try.prog T_Suint8 T_Suint8 v0 v1 h) fun r2 =>
some (Ret.ret r2.1, r2.2)
theorem R_ops_put {call : CallF} {h : Heap} {v0 v1 : Value} {Q : Ret → Heap → Prop} (hr : WP (B_ops_put call h v0 v1) Q) : WP (runF Try.prog call keep_ops_put c_ops_put ⟨[v0, v1] ++ List.replicate (Try.f75.ntmps - 2) undefA, h⟩ k_ops_put) Q := wp_eq (by kernel_rfl) hr
theorem F_ops_put {h : Heap} {v0 v1 : Value} {Q : Ret → Heap → Prop} (hr : WP (B_ops_put (callW E) h v0 v1) Q) : WP (callW E fn_ops_put [v0, v1] h) Q := wp_callW (fn := Try.f75) (c := c_ops_put) (kp := keep_ops_put) (by kernel_rfl) (by kernel_rfl) (by kernel_rfl) (by kernel_rfl) (by kernel_rfl) (R_ops_put hr)
/-! ### 76 trammel/ops.number -/
noncomputable def c_ops_number : Code := bodyOf Try.f76
noncomputable def k_ops_number : Kt := endK Try.prog Try.f76
noncomputable def B_ops_number (call : CallF) (h : Heap) (v0 v1 v2 : Value) : R :=
anew (mkBox T_ops_field v1) h fun p1 h2 =>
obnd (aConv Try.prog T_int64 T_uint64 v2) fun x3 =>
obnd (aFieldAddr Try.prog T_ops_field p1 0) fun x4 =>
obnd (aLoad Try.prog T_int h2 x4) fun x5 =>
retK (call fn_wire_Fixed [x3, x5] h2) (fun x6 h7 =>
retK (call fn_ops_put [v0, x6] h7) (fun x10 h11 =>
obnd (aFieldAddr Try.prog T_ops_field p1 1) fun x14 =>
chkRd [] [h7, h2] h11 (obnd (aLoad Try.prog 102 h11 x14) fun x15 =>
obnd (opCv x15 [v2]) fun q20 => retK (call q20.1 q20.2 h11) (fun x16 h17 =>
some (Ret.ret (Value.tuple ⟨[x10, x16]⟩), h17)) (fun x18 h19 => some (Ret.pan x18, h19))) (blkOf x14)) (fun x12 h13 => obnd (aFieldAddr Try.prog T_ops_field p1 1) fun x21 =>
chkRd [] [h7, h2] h13 (obnd (aLoad Try.prog 102 h13 x21) fun x22 =>
some (Ret.pan x12, h13)) (blkOf x21))) (fun x8 h9 => obnd (aFieldAddr Try.prog T_ops_field p1 1) fun x23 =>
chkRd [] [h2] h9 (obnd (aLoad Try.prog 102 h9 x23) fun x24 =>
some (Ret.pan x8, h9)) (blkOf x23))
theorem R_ops_number {call : CallF} {h : Heap} {v0 v1 v2 : Value} {Q : Ret → Heap → Prop} (hr : WP (B_ops_number call h v0 v1 v2) Q) : WP (runF Try.prog call keep_ops_number c_ops_number ⟨[v0, v1, v2] ++ List.replicate (Try.f76.ntmps - 3) undefA, h⟩ k_ops_number) Q := wp_eq (by kernel_rfl) hr
theorem F_ops_number {h : Heap} {v0 v1 v2 : Value} {Q : Ret → Heap → Prop} (hr : WP (B_ops_number (callW E) h v0 v1 v2) Q) : WP (callW E fn_ops_number [v0, v1, v2] h) Q := wp_callW (fn := Try.f76) (c := c_ops_number) (kp := keep_ops_number) (by kernel_rfl) (by kernel_rfl) (by kernel_rfl) (by kernel_rfl) (by kernel_rfl) (R_ops_number hr)
/-! ### 77 trammel/ops.arms -/
noncomputable def c_ops_arms : Code := bodyOf Try.f77
noncomputable def k_ops_arms : Kt := endK Try.prog Try.f77
noncomputable def c_ops_arms_b : Code := sB c_ops_arms
noncomputable def c_ops_arms_bb : Code := sB c_ops_arms_b
noncomputable def c_ops_arms_bbb : Code := sB c_ops_arms_bb
noncomputable def c_ops_arms_bbbb : Code := sB c_ops_arms_bbb
noncomputable def c_ops_arms_bbbbb : Code := sB c_ops_arms_bbbb
noncomputable def c_ops_arms_bbbbbb : Code := sB c_ops_arms_bbbbb
noncomputable def c_ops_arms_bbbbbbb : Code := sB c_ops_arms_bbbbbb
noncomputable def c_ops_arms_bbbbbba : Code := sA c_ops_arms_bbbbbb
noncomputable def c_ops_arms_bbbbbbab : Code := sB c_ops_arms_bbbbbba
noncomputable def c_ops_arms_bbbbbbabk : Code := sK c_ops_arms_bbbbbbab
noncomputable def c_ops_arms_bbbbbbabkl : Code := sL c_ops_arms_bbbbbbabk
noncomputable def L_ops_arms_8 (call : CallF) (h : Heap) (v0 v3 v6 v7 v8 v33 v34 v35 : Value) : R := iterW (runF Try.prog call keep_ops_arms c_ops_arms_bbbbbbabkl) (maskS (keep_ops_arms 8)) ⟨v0 :: undefA :: undefA :: v3 :: undefA :: undefA :: v6 :: v7 :: v8 :: undefA :: undefA :: undefA :: undefA :: undefA :: undefA :: undefA :: undefA :: undefA :: undefA :: undefA :: undefA :: undefA :: undefA :: undefA :: undefA :: undefA :: undefA :: undefA :: undefA :: undefA :: undefA :: undefA :: undefA :: v33 :: v34 :: v35 :: undefA :: undefA :: undefA :: undefA :: undefA :: undefA :: undefA :: undefA :: undefA :: undefA :: undefA :: undefA :: undefA :: undefA :: undefA :: undefA :: undefA :: undefA :: undefA :: undefA :: undefA :: undefA :: undefA :: undefA :: undefA :: undefA :: undefA :: undefA :: undefA :: undefA :: undefA :: undefA :: undefA :: undefA :: undefA :: undefA :: undefA :: undefA :: undefA :: undefA :: [], h⟩ (kBlk 0 (fSeq Try.prog call keep_ops_arms c_ops_arms_bbbbbbb k_ops_arms))
noncomputable def J_ops_arms_15 (call : CallF) (h : Heap) (v0 v3 v6 v8 : Value) : R := fSeq Try.prog call keep_ops_arms c_ops_arms_bbbbbbb k_ops_arms Ex.normal ⟨v0 :: undefA :: undefA :: v3 :: undefA :: undefA :: v6 :: undefA :: v8 :: undefA :: undefA :: undefA :: undefA :: undefA :: undefA :: undefA :: undefA :: undefA :: undefA :: undefA :: undefA :: undefA :: undefA :: undefA :: undefA :: undefA :: undefA :: undefA :: undefA :: undefA :: undefA :: undefA :: undefA :: undefA :: undefA :: undefA :: undefA :: undefA :: undefA :: undefA :: undefA :: undefA :: undefA :: undefA :: undefA :: undefA :: undefA :: undefA :: undefA :: undefA :: undefA :: undefA :: undefA :: undefA :: undefA :: undefA :: undefA :: undefA :: undefA :: undefA :: undefA :: undefA :: undefA :: undefA :: undefA :: undefA :: undefA :: undefA :: undefA :: undefA :: undefA :: undefA :: undefA :: undefA :: undefA :: undefA :: [], h⟩
noncomputable def L_ops_arms_8_b (call : CallF) (h : Heap) (v0 v3 v6 v7 v8 v33 v34 v35 : Value) : R :=
obnd (aBin Try.prog Go.BinOp.lss T_int v35 v34 (Go.Operand.tmp 35) (Go.Operand.tmp 34)) fun x41 =>
condF x41 (
obnd (aIndexAddr Try.prog T_Sapi_Arm v33 v35) fun x42 =>
obnd (aLoad Try.prog T_api_Arm h x42) fun x43 =>
anew (mkAlloc Try.prog T_api_Arm) h fun p44 h45 =>
obnd (aStore Try.prog T_api_Arm p44 x43 h45) fun h46 =>
obnd (aLoad Try.prog T_ops_field h46 v7) fun x47 =>
obnd (aFieldAddr Try.prog T_api_Arm p44 0) fun x48 =>
obnd (aLoad Try.prog T_int64 h46 x48) fun x49 =>
retK (call fn_ops_number [v0, x47, x49] h46) (fun x50 h51 =>
obnd (aExtract x50 0) fun x54 =>
obnd (aExtract x50 1) fun x55 =>
obnd (aLoad Try.prog T_ops_field h51 v6) fun x56 =>
obnd (aFieldAddr Try.prog T_api_Arm p44 1) fun x57 =>
obnd (aLoad Try.prog T_int h51 x57) fun x58 =>
retK (call fn_ops_number [x54, x56, x58] h51) (fun x59 h60 =>
obnd (aExtract x59 0) fun x63 =>
obnd (aExtract x59 1) fun x64 =>
guardV3 v8 (
guardV3 x55 (
obnd (aBin Try.prog Go.BinOp.add T_int v35 (Go.Value.int Go.IntKind.i64 1) (Go.Operand.tmp 35) (Go.Operand.const (Go.Value.int Go.IntKind.i64 1))) fun x65 =>
L_ops_arms_8 call h60 x63 v3 v6 v7 x64 v33 v34 x65) (
obnd (aBin Try.prog Go.BinOp.add T_int v35 (Go.Value.int Go.IntKind.i64 1) (Go.Operand.tmp 35) (Go.Operand.const (Go.Value.int Go.IntKind.i64 1))) fun x66 =>
L_ops_arms_8 call h60 x63 v3 v6 v7 (Go.Value.bool false) v33 v34 x66) (
none)) (
obnd (aBin Try.prog Go.BinOp.add T_int v35 (Go.Value.int Go.IntKind.i64 1) (Go.Operand.tmp 35) (Go.Operand.const (Go.Value.int Go.IntKind.i64 1))) fun x67 =>
L_ops_arms_8 call h60 x63 v3 v6 v7 (Go.Value.bool false) v33 v34 x67) (
none)) (fun x61 h62 => some (Ret.pan x61, h62))) (fun x52 h53 => some (Ret.pan x52, h53))) (
J_ops_arms_15 call h v0 v3 v6 v8)
theorem L_ops_arms_8_wp {call : CallF} {h : Heap} {v0 v3 v6 v7 v8 v33 v34 v35 : Value} {Q : Ret → Heap → Prop} (hr : WP (L_ops_arms_8_b call h v0 v3 v6 v7 v8 v33 v34 v35) Q) : WP (L_ops_arms_8 call h v0 v3 v6 v7 v8 v33 v34 v35) Q :=
  wp_step (fun x hx => iterW_round (runF_tail c_ops_arms_bbbbbbabkl) ((Eq.trans (by kernel_rfl) hx : runF Try.prog call keep_ops_arms c_ops_arms_bbbbbbabkl ⟨v0 :: undefA :: undefA :: v3 :: undefA :: undefA :: v6 :: v7 :: v8 :: undefA :: undefA :: undefA :: undefA :: undefA :: undefA :: undefA :: undefA :: undefA :: undefA :: undefA :: undefA :: undefA :: undefA :: undefA :: undefA :: undefA :: undefA :: undefA :: undefA :: undefA :: undefA :: undefA :: undefA :: v33 :: v34 :: v35 :: undefA :: undefA :: undefA :: undefA :: undefA :: undefA :: undefA :: undefA :: undefA :: undefA :: undefA :: undefA :: undefA :: undefA :: undefA :: undefA :: undefA :: undefA :: undefA :: undefA :: undefA :: undefA :: undefA :: undefA :: undefA :: undefA :: undefA :: undefA :: undefA :: undefA :: undefA :: undefA :: undefA :: undefA :: undefA :: undefA :: undefA :: undefA :: undefA :: undefA :: [], h⟩ (fLoop Try.prog call keep_ops_arms c_ops_arms_bbbbbbabkl (kBlk 0 (fSeq Try.prog call keep_ops_arms c_ops_arms_bbbbbbb k_ops_arms))) = some x))) hr
noncomputable def J_ops_arms_15_b (call : CallF) (h : Heap) (v0 v3 v6 v8 : Value) : R :=
obnd (aLoad Try.prog T_ops_field h v6) fun x68 =>
obnd (aFieldAddr Try.prog T_api_Instr v3 2) fun x69 =>
obnd (aLoad Try.prog T_int64 h x69) fun x70 =>
retK (call fn_ops_number [v0, x68, x70] h) (fun x71 h72 =>
obnd (aExtract x71 0) fun x75 =>
obnd (aExtract x71 1) fun x76 =>
guardV3 v8 (
some (Ret.ret (Value.tuple ⟨[x75, x76]⟩), h72)) (
some (Ret.ret (Value.tuple ⟨[x75, (Go.Value.bool false)]⟩), h72)) (
none)) (fun x73 h74 => some (Ret.pan x73, h74))
theorem J_ops_arms_15_wp {call : CallF} {h : Heap} {v0 v3 v6 v8 : Value} {Q : Ret → Heap → Prop} (hr : WP (J_ops_arms_15_b call h v0 v3 v6 v8) Q) : WP (J_ops_arms_15 call h v0 v3 v6 v8) Q := wp_eq (by kernel_rfl) hr
noncomputable def B_ops_arms (call : CallF) (h : Heap) (v0 v1 : Value) : R :=
anew (mkBox T_api_Instr v1) h fun p1 h2 =>
retK (call fn_ops_between [(Go.Value.int Go.IntKind.i64 0), (Go.Value.int Go.IntKind.i64 4294967295)] h2) (fun x3 h4 =>
obnd (aBuild Try.prog T_ops_field [(0, (Go.Value.int Go.IntKind.i64 4)), (1, x3)]) fun x7 =>
anew (mkAlloc Try.prog T_ops_field) h4 fun p8 h9 =>
obnd (aStore Try.prog T_ops_field p8 x7 h9) fun h10 =>
obnd (aFieldAddr Try.prog T_api_Instr p1 1) fun x11 =>
obnd (aLoad Try.prog T_int64 h10 x11) fun x12 =>
obnd (aConv Try.prog T_int64 T_uint8 x12) fun x13 =>
retK (call fn_ops_fits [x13] h10) (fun x14 h15 =>
obnd (aBuild Try.prog T_ops_field [(0, (Go.Value.int Go.IntKind.i64 8)), (1, x14)]) fun x18 =>
anew (mkAlloc Try.prog T_ops_field) h15 fun p19 h20 =>
obnd (aStore Try.prog T_ops_field p19 x18 h20) fun h21 =>
obnd (aFieldAddr Try.prog T_api_Instr p1 3) fun x22 =>
obnd (aLoad Try.prog T_Sapi_Arm h21 x22) fun x23 =>
obnd (aLen Try.prog T_Sapi_Arm x23) fun x24 =>
obnd (aBin Try.prog Go.BinOp.gtr T_int x24 (Go.Value.int Go.IntKind.i64 65535) (Go.Operand.tmp 23) (Go.Operand.const (Go.Value.int Go.IntKind.i64 65535))) fun x25 =>
condF x25 (
some (Ret.ret (Value.tuple ⟨[(Go.Value.slice none 0 0), (Go.Value.bool false)]⟩), h21)) (
obnd (aFieldAddr Try.prog T_api_Instr p1 3) fun x26 =>
obnd (aLoad Try.prog T_Sapi_Arm h21 x26) fun x27 =>
obnd (aLen Try.prog T_Sapi_Arm x27) fun x28 =>
obnd (aConv Try.prog T_int T_uint64 x28) fun x29 =>
retK (call fn_wire_Fixed [x29, (Go.Value.int Go.IntKind.i64 2)] h21) (fun x30 h31 =>
retK (call fn_ops_put [v0, x30] h31) (fun x34 h35 =>
obnd (aFieldAddr Try.prog T_api_Instr p1 3) fun x38 =>
obnd (aLoad Try.prog T_Sapi_Arm h35 x38) fun x39 =>
obnd (aLen Try.prog T_Sapi_Arm x39) fun x40 =>
L_ops_arms_8 call h35 x34 p1 p8 p19 (Go.Value.bool true) x39 x40 (Go.Value.int Go.IntKind.i64 0)) (fun x36 h37 => some (Ret.pan x36, h37))) (fun x32 h33 => some (Ret.pan x32, h33)))) (fun x16 h17 => some (Ret.pan x16, h17))) (fun x5 h6 => some (Ret.pan x5, h6))
theorem R_ops_arms {call : CallF} {h : Heap} {v0 v1 : Value} {Q : Ret → Heap → Prop} (hr : WP (B_ops_arms call h v0 v1) Q) : WP (runF Try.prog call keep_ops_arms c_ops_arms ⟨[v0, v1] ++ List.replicate (Try.f77.ntmps - 2) undefA, h⟩ k_ops_arms) Q := wp_eq (by kernel_rfl) hr
theorem F_ops_arms {h : Heap} {v0 v1 : Value} {Q : Ret → Heap → Prop} (hr : WP (B_ops_arms (callW E) h v0 v1) Q) : WP (callW E fn_ops_arms [v0, v1] h) Q := wp_callW (fn := Try.f77) (c := c_ops_arms) (kp := keep_ops_arms) (by kernel_rfl) (by kernel_rfl) (by kernel_rfl) (by kernel_rfl) (by kernel_rfl) (R_ops_arms hr)
/-! ### 81 trammel/wire.Fixed -/
noncomputable def c_wire_Fixed : Code := bodyOf Try.f81
noncomputable def k_wire_Fixed : Kt := endK Try.prog Try.f81
noncomputable def c_wire_Fixed_b : Code := sB c_wire_Fixed
noncomputable def c_wire_Fixed_bb : Code := sB c_wire_Fixed_b
noncomputable def c_wire_Fixed_ba : Code := sA c_wire_Fixed_b
noncomputable def c_wire_Fixed_bab : Code := sB c_wire_Fixed_ba
noncomputable def c_wire_Fixed_bbb : Code := sB c_wire_Fixed_bb
noncomputable def c_wire_Fixed_bbbb : Code := sB c_wire_Fixed_bbb
noncomputable def c_wire_Fixed_bbba : Code := sA c_wire_Fixed_bbb
noncomputable def c_wire_Fixed_bbbab : Code := sB c_wire_Fixed_bbba
noncomputable def c_wire_Fixed_bbbabk : Code := sK c_wire_Fixed_bbbab
noncomputable def c_wire_Fixed_bbbabkl : Code := sL c_wire_Fixed_bbbabk
noncomputable def J_wire_Fixed_1000003 (call : CallF) (h : Heap) (v0 v1 v12 : Value) : R := fSeq Try.prog call keep_wire_Fixed c_wire_Fixed_bab (fSeq Try.prog call keep_wire_Fixed c_wire_Fixed_bb k_wire_Fixed) Ex.normal ⟨[v0, v1, undefA, undefA, undefA, undefA, undefA, undefA, undefA, undefA, undefA, undefA, v12, undefA, undefA, undefA, undefA, undefA, undefA, undefA, undefA, undefA, undefA, undefA, undefA, undefA, undefA, undefA, undefA], h⟩
noncomputable def L_wire_Fixed_5 (call : CallF) (h : Heap) (v0 v5 v15 v16 : Value) : R := iterW (runF Try.prog call keep_wire_Fixed c_wire_Fixed_bbbabkl) (maskS (keep_wire_Fixed 5)) ⟨[v0, undefA, undefA, undefA, undefA, v5, undefA, undefA, undefA, undefA, undefA, undefA, undefA, undefA, undefA, v15, v16, undefA, undefA, undefA, undefA, undefA, undefA, undefA, undefA, undefA, undefA, undefA, undefA], h⟩ (kBlk 0 (fSeq Try.prog call keep_wire_Fixed c_wire_Fixed_bbbb k_wire_Fixed))
noncomputable def J_wire_Fixed_9 (call : CallF) (h : Heap) (v5 : Value) : R := fSeq Try.prog call keep_wire_Fixed c_wire_Fixed_bbbb k_wire_Fixed Ex.normal ⟨[undefA, undefA, undefA, undefA, undefA, v5, undefA, undefA, undefA, undefA, undefA, undefA, undefA, undefA, undefA, undefA, undefA, undefA, undefA, undefA, undefA, undefA, undefA, undefA, undefA, undefA, undefA, undefA, undefA], h⟩
noncomputable def J_wire_Fixed_1000003_b (call : CallF) (h : Heap) (v0 v1 v12 : Value) : R :=
condF v12 (
some (Ret.ret (Go.Value.slice none 0 0), h)) (
anew (mkMake Try.prog T_Suint8 v1 v1) h fun p3 h4 =>
L_wire_Fixed_5 call h4 v0 p3 v1 (Go.Value.int Go.IntKind.i64 0))
theorem J_wire_Fixed_1000003_wp {call : CallF} {h : Heap} {v0 v1 v12 : Value} {Q : Ret → Heap → Prop} (hr : WP (J_wire_Fixed_1000003_b call h v0 v1 v12) Q) : WP (J_wire_Fixed_1000003 call h v0 v1 v12) Q := wp_eq (by kernel_rfl) hr
noncomputable def L_wire_Fixed_5_b (call : CallF) (h : Heap) (v0 v5 v15 v16 : Value) : R :=
obnd (aBin Try.prog Go.BinOp.lss T_int v16 v15 (Go.Operand.tmp 16) (Go.Operand.tmp 15)) fun x5 =>
condF x5 (
obnd (aBin Try.prog Go.BinOp.mul T_int (Go.Value.int Go.IntKind.i64 8) v16 (Go.Operand.const (Go.Value.int Go.IntKind.i64 8)) (Go.Operand.tmp 22)) fun x6 =>
obnd (aBin Try.prog Go.BinOp.shr T_uint64 v0 x6 (Go.Operand.tmp 21) (Go.Operand.tmp 23)) fun x7 =>
obnd (aConv Try.prog T_uint64 T_uint8 x7) fun x8 =>
obnd (aIndexAddr Try.prog T_Suint8 v5 v16) fun x9 =>
obnd (aStore Try.prog T_uint8 x9 x8 h) fun h10 =>
obnd (aBin Try.prog Go.BinOp.add T_int v16 (Go.Value.int Go.IntKind.i64 1) (Go.Operand.tmp 16) (Go.Operand.const (Go.Value.int Go.IntKind.i64 1))) fun x11 =>
L_wire_Fixed_5 call h10 v0 v5 v15 x11) (
J_wire_Fixed_9 call h v5)
theorem L_wire_Fixed_5_wp {call : CallF} {h : Heap} {v0 v5 v15 v16 : Value} {Q : Ret → Heap → Prop} (hr : WP (L_wire_Fixed_5_b call h v0 v5 v15 v16) Q) : WP (L_wire_Fixed_5 call h v0 v5 v15 v16) Q :=
  wp_step (fun x hx => iterW_round (runF_tail c_wire_Fixed_bbbabkl) ((Eq.trans (by kernel_rfl) hx : runF Try.prog call keep_wire_Fixed c_wire_Fixed_bbbabkl ⟨[v0, undefA, undefA, undefA, undefA, v5, undefA, undefA, undefA, undefA, undefA, undefA, undefA, undefA, undefA, v15, v16, undefA, undefA, undefA, undefA, undefA, undefA, undefA, undefA, undefA, undefA, undefA, undefA], h⟩ (fLoop Try.prog call keep_wire_Fixed c_wire_Fixed_bbbabkl (kBlk 0 (fSeq Try.prog call keep_wire_Fixed c_wire_Fixed_bbbb k_wire_Fixed))) = some x))) hr
noncomputable def J_wire_Fixed_9_b (call : CallF) (h : Heap) (v5 : Value) : R :=
some (Ret.ret v5, h)
theorem J_wire_Fixed_9_wp {call : CallF} {h : Heap} {v5 : Value} {Q : Ret → Heap → Prop} (hr : WP (J_wire_Fixed_9_b call h v5) Q) : WP (J_wire_Fixed_9 call h v5) Q := wp_eq (by kernel_rfl) hr
noncomputable def B_wire_Fixed (call : CallF) (h : Heap) (v0 v1 : Value) : R :=
obnd (aBin Try.prog Go.BinOp.lss T_int v1 (Go.Value.int Go.IntKind.i64 1) (Go.Operand.tmp 7) (Go.Operand.const (Go.Value.int Go.IntKind.i64 1))) fun x1 =>
guardV3 x1 (
J_wire_Fixed_1000003 call h v0 v1 (Go.Value.bool true)) (
obnd (aBin Try.prog Go.BinOp.gtr T_int v1 (Go.Value.int Go.IntKind.i64 8) (Go.Operand.tmp 10) (Go.Operand.const (Go.Value.int Go.IntKind.i64 8))) fun x2 =>
J_wire_Fixed_1000003 call h v0 v1 x2) (
none)
theorem R_wire_Fixed {call : CallF} {h : Heap} {v0 v1 : Value} {Q : Ret → Heap → Prop} (hr : WP (B_wire_Fixed call h v0 v1) Q) : WP (runF Try.prog call keep_wire_Fixed c_wire_Fixed ⟨[v0, v1] ++ List.replicate (Try.f81.ntmps - 2) undefA, h⟩ k_wire_Fixed) Q := wp_eq (by kernel_rfl) hr
theorem F_wire_Fixed {h : Heap} {v0 v1 : Value} {Q : Ret → Heap → Prop} (hr : WP (B_wire_Fixed (callW E) h v0 v1) Q) : WP (callW E fn_wire_Fixed [v0, v1] h) Q := wp_callW (fn := Try.f81) (c := c_wire_Fixed) (kp := keep_wire_Fixed) (by kernel_rfl) (by kernel_rfl) (by kernel_rfl) (by kernel_rfl) (by kernel_rfl) (R_wire_Fixed hr)
/-! ### 105 trammel/trammelref12.place -/
noncomputable def c_trammelref12_place : Code := bodyOf Try.f105
noncomputable def k_trammelref12_place : Kt := endK Try.prog Try.f105
noncomputable def B_trammelref12_place (call : CallF) (h : Heap) : R :=
anew (mkAlloc Try.prog T_trammelref12_part) h fun p1 h2 =>
obnd (aBuild Try.prog T_trammelref12_part [(0, (Go.Value.int Go.IntKind.i64 2)), (2, (Go.Value.int Go.IntKind.i64 65535))]) fun x3 =>
obnd (aStore Try.prog T_trammelref12_part p1 x3 h2) fun h4 =>
k_trammelref12_place .ret ⟨[p1, x3], h4⟩
theorem R_trammelref12_place {call : CallF} {h : Heap} {Q : Ret → Heap → Prop} (hr : WP (B_trammelref12_place call h ) Q) : WP (runF Try.prog call keep_trammelref12_place c_trammelref12_place ⟨[] ++ List.replicate (Try.f105.ntmps - 0) undefA, h⟩ k_trammelref12_place) Q := wp_eq (by kernel_rfl) hr
theorem kr_trammelref12_place {tm : List Value} {h : Heap} {a0 r0 : Value} {Q : Ret → Heap → Prop} (e0 : tm[0]? = some a0) (l0 : aLoad Try.prog T_trammelref12_part h a0 = some r0) (hq : Q (.ret r0) h) : WP (k_trammelref12_place .ret ⟨tm, h⟩) Q :=
  ⟨_, _, by
    have e : Try.f105.results.toList = [.cell 0 T_trammelref12_part] := by kernel_rfl
    simp only [k_trammelref12_place, endK, e, resV, e0, l0, Option.bind_some, Option.map_some, retV], hq⟩
theorem F_trammelref12_place {h : Heap} {Q : Ret → Heap → Prop} (hr : WP (B_trammelref12_place (callW E) h ) Q) : WP (callW E fn_trammelref12_place [] h) Q := wp_callW (fn := Try.f105) (c := c_trammelref12_place) (kp := keep_trammelref12_place) (by kernel_rfl) (by kernel_rfl) (by kernel_rfl) (by kernel_rfl) (by kernel_rfl) (R_trammelref12_place hr)
/-! ### 106 trammel/trammelref12.width -/
noncomputable def c_trammelref12_width : Code := bodyOf Try.f106
noncomputable def k_trammelref12_width : Kt := endK Try.prog Try.f106
noncomputable def B_trammelref12_width (call : CallF) (h : Heap) (v0 : Value) : R :=
anew (mkAlloc Try.prog T_trammelref12_part) h fun p1 h2 =>
obnd (aBuild Try.prog T_trammelref12_part [(0, (Go.Value.int Go.IntKind.i64 1)), (1, (Go.Value.int Go.IntKind.i64 1)), (2, v0)]) fun x3 =>
obnd (aStore Try.prog T_trammelref12_part p1 x3 h2) fun h4 =>
k_trammelref12_width .ret ⟨[v0, undefA, p1, v0, x3], h4⟩
theorem R_trammelref12_width {call : CallF} {h : Heap} {v0 : Value} {Q : Ret → Heap → Prop} (hr : WP (B_trammelref12_width call h v0) Q) : WP (runF Try.prog call keep_trammelref12_width c_trammelref12_width ⟨[v0] ++ List.replicate (Try.f106.ntmps - 1) undefA, h⟩ k_trammelref12_width) Q := wp_eq (by kernel_rfl) hr
theorem kr_trammelref12_width {tm : List Value} {h : Heap} {a2 r2 : Value} {Q : Ret → Heap → Prop} (e2 : tm[2]? = some a2) (l2 : aLoad Try.prog T_trammelref12_part h a2 = some r2) (hq : Q (.ret r2) h) : WP (k_trammelref12_width .ret ⟨tm, h⟩) Q :=
  ⟨_, _, by
    have e : Try.f106.results.toList = [.cell 2 T_trammelref12_part] := by kernel_rfl
    simp only [k_trammelref12_width, endK, e, resV, e2, l2, Option.bind_some, Option.map_some, retV], hq⟩
theorem F_trammelref12_width {h : Heap} {v0 : Value} {Q : Ret → Heap → Prop} (hr : WP (B_trammelref12_width (callW E) h v0) Q) : WP (callW E fn_trammelref12_width [v0] h) Q := wp_callW (fn := Try.f106) (c := c_trammelref12_width) (kp := keep_trammelref12_width) (by kernel_rfl) (by kernel_rfl) (by kernel_rfl) (by kernel_rfl) (by kernel_rfl) (R_trammelref12_width hr)
/-! ### 107 trammel/trammelref12.within -/
noncomputable def c_trammelref12_within : Code := bodyOf Try.f107
noncomputable def k_trammelref12_within : Kt := endK Try.prog Try.f107
noncomputable def B_trammelref12_within (call : CallF) (h : Heap) (v0 v1 : Value) : R :=
anew (mkBox T_trammelref12_part v0) h fun p1 h2 =>
obnd (aFieldAddr Try.prog T_trammelref12_part p1 1) fun x3 =>
obnd (aLoad Try.prog T_int64 h2 x3) fun x4 =>
obnd (aBin Try.prog Go.BinOp.geq T_int64 v1 x4 (Go.Operand.tmp 5) (Go.Operand.tmp 7)) fun x5 =>
guardV3 x5 (
obnd (aFieldAddr Try.prog T_trammelref12_part p1 2) fun x6 =>
obnd (aLoad Try.prog T_int64 h2 x6) fun x7 =>
obnd (aBin Try.prog Go.BinOp.leq T_int64 v1 x7 (Go.Operand.tmp 10) (Go.Operand.tmp 12)) fun x8 =>
some (Ret.ret x8, h2)) (
some (Ret.ret (Go.Value.bool false), h2)) (
none)
theorem R_trammelref12_within {call : CallF} {h : Heap} {v0 v1 : Value} {Q : Ret → Heap → Prop} (hr : WP (B_trammelref12_within call h v0 v1) Q) : WP (runF Try.prog call keep_trammelref12_within c_trammelref12_within ⟨[v0, v1] ++ List.replicate (Try.f107.ntmps - 2) undefA, h⟩ k_trammelref12_within) Q := wp_eq (by kernel_rfl) hr
theorem F_trammelref12_within {h : Heap} {v0 v1 : Value} {Q : Ret → Heap → Prop} (hr : WP (B_trammelref12_within (callW E) h v0 v1) Q) : WP (callW E fn_trammelref12_within [v0, v1] h) Q := wp_callW (fn := Try.f107) (c := c_trammelref12_within) (kp := keep_trammelref12_within) (by kernel_rfl) (by kernel_rfl) (by kernel_rfl) (by kernel_rfl) (by kernel_rfl) (R_trammelref12_within hr)
/-! ### 108 trammel/trammelref02.Bits -/
noncomputable def c_trammelref02_Bits : Code := bodyOf Try.f108
noncomputable def k_trammelref02_Bits : Kt := endK Try.prog Try.f108
noncomputable def B_trammelref02_Bits (call : CallF) (h : Heap) (v0 : Value) : R :=
obnd (aBin Try.prog Go.BinOp.eql T_uint8 v0 (Go.Value.int Go.IntKind.u8 1) (Go.Operand.tmp 3) (Go.Operand.const (Go.Value.int Go.IntKind.u8 1))) fun x1 =>
condF x1 (
some (Ret.ret (Go.Value.int Go.IntKind.i64 8), h)) (
obnd (aBin Try.prog Go.BinOp.eql T_uint8 v0 (Go.Value.int Go.IntKind.u8 2) (Go.Operand.tmp 3) (Go.Operand.const (Go.Value.int Go.IntKind.u8 2))) fun x2 =>
condF x2 (
some (Ret.ret (Go.Value.int Go.IntKind.i64 32), h)) (
obnd (aBin Try.prog Go.BinOp.eql T_uint8 v0 (Go.Value.int Go.IntKind.u8 3) (Go.Operand.tmp 3) (Go.Operand.const (Go.Value.int Go.IntKind.u8 3))) fun x3 =>
condF x3 (
some (Ret.ret (Go.Value.int Go.IntKind.i64 64), h)) (
some (Ret.ret (Go.Value.int Go.IntKind.i64 0), h))))
theorem R_trammelref02_Bits {call : CallF} {h : Heap} {v0 : Value} {Q : Ret → Heap → Prop} (hr : WP (B_trammelref02_Bits call h v0) Q) : WP (runF Try.prog call keep_trammelref02_Bits c_trammelref02_Bits ⟨[v0] ++ List.replicate (Try.f108.ntmps - 1) undefA, h⟩ k_trammelref02_Bits) Q := wp_eq (by kernel_rfl) hr
theorem F_trammelref02_Bits {h : Heap} {v0 : Value} {Q : Ret → Heap → Prop} (hr : WP (B_trammelref02_Bits (callW E) h v0) Q) : WP (callW E fn_trammelref02_Bits [v0] h) Q := wp_callW (fn := Try.f108) (c := c_trammelref02_Bits) (kp := keep_trammelref02_Bits) (by kernel_rfl) (by kernel_rfl) (by kernel_rfl) (by kernel_rfl) (by kernel_rfl) (R_trammelref02_Bits hr)
/-! ### 109 trammel/wire.Wide -/
noncomputable def c_wire_Wide : Code := bodyOf Try.f109
noncomputable def k_wire_Wide : Kt := endK Try.prog Try.f109
noncomputable def c_wire_Wide_b : Code := sB c_wire_Wide
noncomputable def c_wire_Wide_bb : Code := sB c_wire_Wide_b
noncomputable def c_wire_Wide_ba : Code := sA c_wire_Wide_b
noncomputable def c_wire_Wide_bak : Code := sK c_wire_Wide_ba
noncomputable def c_wire_Wide_bakb : Code := sB c_wire_Wide_bak
noncomputable def c_wire_Wide_bbb : Code := sB c_wire_Wide_bb
noncomputable def c_wire_Wide_bbbb : Code := sB c_wire_Wide_bbb
noncomputable def c_wire_Wide_bbba : Code := sA c_wire_Wide_bbb
noncomputable def c_wire_Wide_bbbab : Code := sB c_wire_Wide_bbba
noncomputable def c_wire_Wide_bbbabk : Code := sK c_wire_Wide_bbbab
noncomputable def c_wire_Wide_bbbabkl : Code := sL c_wire_Wide_bbbabk
noncomputable def J_wire_Wide_1000006 (call : CallF) (h : Heap) (v0 v1 v2 v11 : Value) : R := fSeq Try.prog call keep_wire_Wide c_wire_Wide_bakb (kBlk 0 (fSeq Try.prog call keep_wire_Wide c_wire_Wide_bb k_wire_Wide)) Ex.normal ⟨v0 :: v1 :: v2 :: undefA :: undefA :: undefA :: undefA :: undefA :: undefA :: undefA :: undefA :: v11 :: undefA :: undefA :: undefA :: undefA :: undefA :: undefA :: undefA :: undefA :: undefA :: undefA :: undefA :: undefA :: undefA :: undefA :: undefA :: undefA :: undefA :: undefA :: undefA :: undefA :: undefA :: undefA :: undefA :: undefA :: undefA :: undefA :: undefA :: undefA :: undefA :: undefA :: undefA :: undefA :: undefA :: undefA :: undefA :: undefA :: undefA :: undefA :: [], h⟩
noncomputable def L_wire_Wide_10 (call : CallF) (h : Heap) (v0 v1 v2 v9 v29 v30 : Value) : R := iterW (runF Try.prog call keep_wire_Wide c_wire_Wide_bbbabkl) (maskS (keep_wire_Wide 10)) ⟨v0 :: v1 :: v2 :: undefA :: undefA :: undefA :: undefA :: undefA :: undefA :: v9 :: undefA :: undefA :: undefA :: undefA :: undefA :: undefA :: undefA :: undefA :: undefA :: undefA :: undefA :: undefA :: undefA :: undefA :: undefA :: undefA :: undefA :: undefA :: undefA :: v29 :: v30 :: undefA :: undefA :: undefA :: undefA :: undefA :: undefA :: undefA :: undefA :: undefA :: undefA :: undefA :: undefA :: undefA :: undefA :: undefA :: undefA :: undefA :: undefA :: undefA :: [], h⟩ (kBlk 1 (fSeq Try.prog call keep_wire_Wide c_wire_Wide_bbbb k_wire_Wide))
noncomputable def J_wire_Wide_14 (call : CallF) (h : Heap) (v1 v2 v9 : Value) : R := fSeq Try.prog call keep_wire_Wide c_wire_Wide_bbbb k_wire_Wide Ex.normal ⟨undefA :: v1 :: v2 :: undefA :: undefA :: undefA :: undefA :: undefA :: undefA :: v9 :: undefA :: undefA :: undefA :: undefA :: undefA :: undefA :: undefA :: undefA :: undefA :: undefA :: undefA :: undefA :: undefA :: undefA :: undefA :: undefA :: undefA :: undefA :: undefA :: undefA :: undefA :: undefA :: undefA :: undefA :: undefA :: undefA :: undefA :: undefA :: undefA :: undefA :: undefA :: undefA :: undefA :: undefA :: undefA :: undefA :: undefA :: undefA :: undefA :: undefA :: [], h⟩
noncomputable def J_wire_Wide_1000006_b (call : CallF) (h : Heap) (v0 v1 v2 v11 : Value) : R :=
condF v11 (
some (Ret.ret (Value.tuple ⟨[(Go.Value.int Go.IntKind.u64 0), (Go.Value.int Go.IntKind.i64 0), (Go.Value.int Go.IntKind.i64 2)]⟩), h)) (
obnd (aLen Try.prog T_Suint8 v0) fun x6 =>
obnd (aBin Try.prog Go.BinOp.sub T_int x6 v1 (Go.Operand.tmp 25) (Go.Operand.tmp 26)) fun x7 =>
obnd (aBin Try.prog Go.BinOp.gtr T_int v2 x7 (Go.Operand.tmp 23) (Go.Operand.tmp 27)) fun x8 =>
condF x8 (
some (Ret.ret (Value.tuple ⟨[(Go.Value.int Go.IntKind.u64 0), (Go.Value.int Go.IntKind.i64 0), (Go.Value.int Go.IntKind.i64 10)]⟩), h)) (
L_wire_Wide_10 call h v0 v1 v2 (Go.Value.int Go.IntKind.u64 0) v2 (Go.Value.int Go.IntKind.i64 0)))
theorem J_wire_Wide_1000006_wp {call : CallF} {h : Heap} {v0 v1 v2 v11 : Value} {Q : Ret → Heap → Prop} (hr : WP (J_wire_Wide_1000006_b call h v0 v1 v2 v11) Q) : WP (J_wire_Wide_1000006 call h v0 v1 v2 v11) Q := wp_eq (by kernel_rfl) hr
noncomputable def L_wire_Wide_10_b (call : CallF) (h : Heap) (v0 v1 v2 v9 v29 v30 : Value) : R :=
obnd (aBin Try.prog Go.BinOp.lss T_int v30 v29 (Go.Operand.tmp 30) (Go.Operand.tmp 29)) fun x9 =>
condF x9 (
obnd (aBin Try.prog Go.BinOp.add T_int v1 v30 (Go.Operand.tmp 35) (Go.Operand.tmp 36)) fun x10 =>
obnd (aIndexAddr Try.prog T_Suint8 v0 x10) fun x11 =>
obnd (aLoad Try.prog T_uint8 h x11) fun x12 =>
obnd (aConv Try.prog T_uint8 T_uint64 x12) fun x13 =>
obnd (aBin Try.prog Go.BinOp.mul T_int (Go.Value.int Go.IntKind.i64 8) v30 (Go.Operand.const (Go.Value.int Go.IntKind.i64 8)) (Go.Operand.tmp 41)) fun x14 =>
obnd (aBin Try.prog Go.BinOp.shl T_uint64 x13 x14 (Go.Operand.tmp 40) (Go.Operand.tmp 42)) fun x15 =>
obnd (aBin Try.prog Go.BinOp.or T_uint64 v9 x15 (Go.Operand.tmp 33) (Go.Operand.tmp 43)) fun x16 =>
obnd (aBin Try.prog Go.BinOp.add T_int v30 (Go.Value.int Go.IntKind.i64 1) (Go.Operand.tmp 30) (Go.Operand.const (Go.Value.int Go.IntKind.i64 1))) fun x17 =>
L_wire_Wide_10 call h v0 v1 v2 x16 v29 x17) (
J_wire_Wide_14 call h v1 v2 v9)
theorem L_wire_Wide_10_wp {call : CallF} {h : Heap} {v0 v1 v2 v9 v29 v30 : Value} {Q : Ret → Heap → Prop} (hr : WP (L_wire_Wide_10_b call h v0 v1 v2 v9 v29 v30) Q) : WP (L_wire_Wide_10 call h v0 v1 v2 v9 v29 v30) Q :=
  wp_step (fun x hx => iterW_round (runF_tail c_wire_Wide_bbbabkl) ((Eq.trans (by kernel_rfl) hx : runF Try.prog call keep_wire_Wide c_wire_Wide_bbbabkl ⟨v0 :: v1 :: v2 :: undefA :: undefA :: undefA :: undefA :: undefA :: undefA :: v9 :: undefA :: undefA :: undefA :: undefA :: undefA :: undefA :: undefA :: undefA :: undefA :: undefA :: undefA :: undefA :: undefA :: undefA :: undefA :: undefA :: undefA :: undefA :: undefA :: v29 :: v30 :: undefA :: undefA :: undefA :: undefA :: undefA :: undefA :: undefA :: undefA :: undefA :: undefA :: undefA :: undefA :: undefA :: undefA :: undefA :: undefA :: undefA :: undefA :: undefA :: [], h⟩ (fLoop Try.prog call keep_wire_Wide c_wire_Wide_bbbabkl (kBlk 1 (fSeq Try.prog call keep_wire_Wide c_wire_Wide_bbbb k_wire_Wide))) = some x))) hr
noncomputable def J_wire_Wide_14_b (call : CallF) (h : Heap) (v1 v2 v9 : Value) : R :=
obnd (aBin Try.prog Go.BinOp.add T_int v1 v2 (Go.Operand.tmp 47) (Go.Operand.tmp 48)) fun x18 =>
some (Ret.ret (Value.tuple ⟨[v9, x18, (Go.Value.int Go.IntKind.i64 0)]⟩), h)
theorem J_wire_Wide_14_wp {call : CallF} {h : Heap} {v1 v2 v9 : Value} {Q : Ret → Heap → Prop} (hr : WP (J_wire_Wide_14_b call h v1 v2 v9) Q) : WP (J_wire_Wide_14 call h v1 v2 v9) Q := wp_eq (by kernel_rfl) hr
noncomputable def B_wire_Wide (call : CallF) (h : Heap) (v0 v1 v2 : Value) : R :=
obnd (aBin Try.prog Go.BinOp.lss T_int v2 (Go.Value.int Go.IntKind.i64 1) (Go.Operand.tmp 12) (Go.Operand.const (Go.Value.int Go.IntKind.i64 1))) fun x1 =>
condF x1 (
J_wire_Wide_1000006 call h v0 v1 v2 x1) (
obnd (aBin Try.prog Go.BinOp.gtr T_int v2 (Go.Value.int Go.IntKind.i64 8) (Go.Operand.tmp 14) (Go.Operand.const (Go.Value.int Go.IntKind.i64 8))) fun x2 =>
condF x2 (
J_wire_Wide_1000006 call h v0 v1 v2 x2) (
obnd (aBin Try.prog Go.BinOp.lss T_int v1 (Go.Value.int Go.IntKind.i64 0) (Go.Operand.tmp 16) (Go.Operand.const (Go.Value.int Go.IntKind.i64 0))) fun x3 =>
condF x3 (
J_wire_Wide_1000006 call h v0 v1 v2 x3) (
obnd (aLen Try.prog T_Suint8 v0) fun x4 =>
obnd (aBin Try.prog Go.BinOp.gtr T_int v1 x4 (Go.Operand.tmp 18) (Go.Operand.tmp 20)) fun x5 =>
J_wire_Wide_1000006 call h v0 v1 v2 x5)))
theorem R_wire_Wide {call : CallF} {h : Heap} {v0 v1 v2 : Value} {Q : Ret → Heap → Prop} (hr : WP (B_wire_Wide call h v0 v1 v2) Q) : WP (runF Try.prog call keep_wire_Wide c_wire_Wide ⟨[v0, v1, v2] ++ List.replicate (Try.f109.ntmps - 3) undefA, h⟩ k_wire_Wide) Q := wp_eq (by kernel_rfl) hr
theorem F_wire_Wide {h : Heap} {v0 v1 v2 : Value} {Q : Ret → Heap → Prop} (hr : WP (B_wire_Wide (callW E) h v0 v1 v2) Q) : WP (callW E fn_wire_Wide [v0, v1, v2] h) Q := wp_callW (fn := Try.f109) (c := c_wire_Wide) (kp := keep_wire_Wide) (by kernel_rfl) (by kernel_rfl) (by kernel_rfl) (by kernel_rfl) (by kernel_rfl) (R_wire_Wide hr)
/-! ### 110 trammel/ops.between$1 -/
noncomputable def c_ops_between_1 : Code := bodyOf Try.f110
noncomputable def k_ops_between_1 : Kt := endK Try.prog Try.f110
noncomputable def B_ops_between_1 (call : CallF) (h : Heap) (v0 v1 v2 : Value) : R :=
obnd (aLoad Try.prog T_int64 h v1) fun x1 =>
obnd (aBin Try.prog Go.BinOp.leq T_int64 x1 v0 (Go.Operand.tmp 5) (Go.Operand.tmp 6)) fun x2 =>
guardV3 x2 (
obnd (aLoad Try.prog T_int64 h v2) fun x3 =>
obnd (aBin Try.prog Go.BinOp.leq T_int64 v0 x3 (Go.Operand.tmp 9) (Go.Operand.tmp 10)) fun x4 =>
some (Ret.ret x4, h)) (
some (Ret.ret (Go.Value.bool false), h)) (
none)
theorem R_ops_between_1 {call : CallF} {h : Heap} {v0 v1 v2 : Value} {Q : Ret → Heap → Prop} (hr : WP (B_ops_between_1 call h v0 v1 v2) Q) : WP (runF Try.prog call keep_ops_between_1 c_ops_between_1 ⟨[v0, v1, v2] ++ List.replicate (Try.f110.ntmps - 3) undefA, h⟩ k_ops_between_1) Q := wp_eq (by kernel_rfl) hr
theorem F_ops_between_1 {h : Heap} {v0 v1 v2 : Value} {Q : Ret → Heap → Prop} (hr : WP (B_ops_between_1 (callW E) h v0 v1 v2) Q) : WP (callW E fn_ops_between_1 [v0, v1, v2] h) Q := wp_callW (fn := Try.f110) (c := c_ops_between_1) (kp := keep_ops_between_1) (by kernel_rfl) (by kernel_rfl) (by kernel_rfl) (by kernel_rfl) (by kernel_rfl) (R_ops_between_1 hr)
/-! ### 111 trammel/ops.fits$1 -/
noncomputable def c_ops_fits_1 : Code := bodyOf Try.f111
noncomputable def k_ops_fits_1 : Kt := endK Try.prog Try.f111
noncomputable def B_ops_fits_1 (call : CallF) (h : Heap) (v0 v1 : Value) : R :=
obnd (aLoad Try.prog T_uint8 h v1) fun x1 =>
retK (call fn_word_Fits [x1, v0] h) (fun x2 h3 =>
some (Ret.ret x2, h3)) (fun x4 h5 => some (Ret.pan x4, h5))
theorem R_ops_fits_1 {call : CallF} {h : Heap} {v0 v1 : Value} {Q : Ret → Heap → Prop} (hr : WP (B_ops_fits_1 call h v0 v1) Q) : WP (runF Try.prog call keep_ops_fits_1 c_ops_fits_1 ⟨[v0, v1] ++ List.replicate (Try.f111.ntmps - 2) undefA, h⟩ k_ops_fits_1) Q := wp_eq (by kernel_rfl) hr
theorem F_ops_fits_1 {h : Heap} {v0 v1 : Value} {Q : Ret → Heap → Prop} (hr : WP (B_ops_fits_1 (callW E) h v0 v1) Q) : WP (callW E fn_ops_fits_1 [v0, v1] h) Q := wp_callW (fn := Try.f111) (c := c_ops_fits_1) (kp := keep_ops_fits_1) (by kernel_rfl) (by kernel_rfl) (by kernel_rfl) (by kernel_rfl) (by kernel_rfl) (R_ops_fits_1 hr)
/-! ### 112 trammel/word.Fits -/
noncomputable def c_word_Fits : Code := bodyOf Try.f112
noncomputable def k_word_Fits : Kt := endK Try.prog Try.f112
noncomputable def B_word_Fits (call : CallF) (h : Heap) (v0 v1 : Value) : R :=
retK (call fn_word_Bits [v0] h) (fun x1 h2 =>
obnd (aBin Try.prog Go.BinOp.gtr T_int x1 (Go.Value.int Go.IntKind.i64 0) (Go.Operand.tmp 6) (Go.Operand.const (Go.Value.int Go.IntKind.i64 0))) fun x5 =>
guardV3 x5 (
retK (call fn_word_Wrap [v0, v1] h2) (fun x6 h7 =>
obnd (aBin Try.prog Go.BinOp.eql T_int64 x6 v1 (Go.Operand.tmp 11) (Go.Operand.tmp 12)) fun x10 =>
some (Ret.ret x10, h7)) (fun x8 h9 => some (Ret.pan x8, h9))) (
some (Ret.ret (Go.Value.bool false), h2)) (
none)) (fun x3 h4 => some (Ret.pan x3, h4))
theorem R_word_Fits {call : CallF} {h : Heap} {v0 v1 : Value} {Q : Ret → Heap → Prop} (hr : WP (B_word_Fits call h v0 v1) Q) : WP (runF Try.prog call keep_word_Fits c_word_Fits ⟨[v0, v1] ++ List.replicate (Try.f112.ntmps - 2) undefA, h⟩ k_word_Fits) Q := wp_eq (by kernel_rfl) hr
theorem F_word_Fits {h : Heap} {v0 v1 : Value} {Q : Ret → Heap → Prop} (hr : WP (B_word_Fits (callW E) h v0 v1) Q) : WP (callW E fn_word_Fits [v0, v1] h) Q := wp_callW (fn := Try.f112) (c := c_word_Fits) (kp := keep_word_Fits) (by kernel_rfl) (by kernel_rfl) (by kernel_rfl) (by kernel_rfl) (by kernel_rfl) (R_word_Fits hr)
/-! ### 142 trammel/word.Bits -/
noncomputable def c_word_Bits : Code := bodyOf Try.f142
noncomputable def k_word_Bits : Kt := endK Try.prog Try.f142
noncomputable def B_word_Bits (call : CallF) (h : Heap) (v0 : Value) : R :=
obnd (aBin Try.prog Go.BinOp.eql T_uint8 v0 (Go.Value.int Go.IntKind.u8 1) (Go.Operand.tmp 3) (Go.Operand.const (Go.Value.int Go.IntKind.u8 1))) fun x1 =>
condF x1 (
some (Ret.ret (Go.Value.int Go.IntKind.i64 8), h)) (
obnd (aBin Try.prog Go.BinOp.eql T_uint8 v0 (Go.Value.int Go.IntKind.u8 2) (Go.Operand.tmp 3) (Go.Operand.const (Go.Value.int Go.IntKind.u8 2))) fun x2 =>
condF x2 (
some (Ret.ret (Go.Value.int Go.IntKind.i64 32), h)) (
obnd (aBin Try.prog Go.BinOp.eql T_uint8 v0 (Go.Value.int Go.IntKind.u8 3) (Go.Operand.tmp 3) (Go.Operand.const (Go.Value.int Go.IntKind.u8 3))) fun x3 =>
condF x3 (
some (Ret.ret (Go.Value.int Go.IntKind.i64 64), h)) (
some (Ret.ret (Go.Value.int Go.IntKind.i64 0), h))))
theorem R_word_Bits {call : CallF} {h : Heap} {v0 : Value} {Q : Ret → Heap → Prop} (hr : WP (B_word_Bits call h v0) Q) : WP (runF Try.prog call keep_word_Bits c_word_Bits ⟨[v0] ++ List.replicate (Try.f142.ntmps - 1) undefA, h⟩ k_word_Bits) Q := wp_eq (by kernel_rfl) hr
theorem F_word_Bits {h : Heap} {v0 : Value} {Q : Ret → Heap → Prop} (hr : WP (B_word_Bits (callW E) h v0) Q) : WP (callW E fn_word_Bits [v0] h) Q := wp_callW (fn := Try.f142) (c := c_word_Bits) (kp := keep_word_Bits) (by kernel_rfl) (by kernel_rfl) (by kernel_rfl) (by kernel_rfl) (by kernel_rfl) (R_word_Bits hr)
/-! ### 143 trammel/word.Wrap -/
noncomputable def c_word_Wrap : Code := bodyOf Try.f143
noncomputable def k_word_Wrap : Kt := endK Try.prog Try.f143
noncomputable def B_word_Wrap (call : CallF) (h : Heap) (v0 v1 : Value) : R :=
obnd (aBin Try.prog Go.BinOp.eql T_uint8 v0 (Go.Value.int Go.IntKind.u8 1) (Go.Operand.tmp 5) (Go.Operand.const (Go.Value.int Go.IntKind.u8 1))) fun x1 =>
condF x1 (
obnd (aConv Try.prog T_int64 T_int8 v1) fun x2 =>
obnd (aConv Try.prog T_int8 T_int64 x2) fun x3 =>
some (Ret.ret x3, h)) (
obnd (aBin Try.prog Go.BinOp.eql T_uint8 v0 (Go.Value.int Go.IntKind.u8 2) (Go.Operand.tmp 5) (Go.Operand.const (Go.Value.int Go.IntKind.u8 2))) fun x4 =>
condF x4 (
obnd (aConv Try.prog T_int64 T_int32 v1) fun x5 =>
obnd (aConv Try.prog T_int32 T_int64 x5) fun x6 =>
some (Ret.ret x6, h)) (
obnd (aBin Try.prog Go.BinOp.eql T_uint8 v0 (Go.Value.int Go.IntKind.u8 3) (Go.Operand.tmp 5) (Go.Operand.const (Go.Value.int Go.IntKind.u8 3))) fun x7 =>
condF x7 (
some (Ret.ret v1, h)) (
some (Ret.ret (Go.Value.int Go.IntKind.i64 0), h))))
theorem R_word_Wrap {call : CallF} {h : Heap} {v0 v1 : Value} {Q : Ret → Heap → Prop} (hr : WP (B_word_Wrap call h v0 v1) Q) : WP (runF Try.prog call keep_word_Wrap c_word_Wrap ⟨[v0, v1] ++ List.replicate (Try.f143.ntmps - 2) undefA, h⟩ k_word_Wrap) Q := wp_eq (by kernel_rfl) hr
theorem F_word_Wrap {h : Heap} {v0 v1 : Value} {Q : Ret → Heap → Prop} (hr : WP (B_word_Wrap (callW E) h v0 v1) Q) : WP (callW E fn_word_Wrap [v0, v1] h) Q := wp_callW (fn := Try.f143) (c := c_word_Wrap) (kp := keep_word_Wrap) (by kernel_rfl) (by kernel_rfl) (by kernel_rfl) (by kernel_rfl) (by kernel_rfl) (R_word_Wrap hr)
end Go.Proofs.Ytmdffenlehcekaa
