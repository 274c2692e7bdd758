/- What the functions answer. -/
import Derived.Test.YtmdffenlehcekaaKc1
import Derived.WalkKit
import Derived.ProofKit
import Derived.OpenShut
import Derived.ShutString
import Derived.ChangeOld
import Derived.Below
set_option linter.unusedVariables false
set_option linter.unusedSimpArgs false
set_option maxRecDepth 100000
namespace Go.Proofs.Ytmdffenlehcekaa
open Go Go.Am

/-- The chapter's own check is true. -/
def Works12 : Prop := ∀ h, WP (callW E fn_trammellaw12_works [] h) (Rt fun v _ => v = .bool true)
theorem chunk3 {i : Nat} {cells : List Value} {o a b v : Value} (h : chunk 4 i cells = [o, a, b, v]) : cells[i * 4 + 3]? = some v := by
  unfold chunk at h
  have : ((cells.drop (i * 4)).take 4)[3]? = some v := by rw [h]; rfl
  rw [List.getElem?_take, if_pos (by omega), List.getElem?_drop] at this
  exact this
theorem shape_of {N0 bl bp : Nat} {h : Heap} {v : Value} {x : List (Int × Int)} {S : Nat → Prop} (hr : (rLw rArm).rep S h [v] x) (hS : ∀ b, S b → N0 ≤ b ∧ b ≠ bl ∧ b ≠ bp) : Shape N0 bl bp h v := by
  obtain ⟨a, c, cells, hv, hs, _⟩ := hr
  simp only [List.cons.injEq, and_true] at hv
  subst hv
  obtain ⟨h1, h2, h3, h4⟩ := hs
  refine ⟨a, x.length, c, rfl, h2, ?_⟩
  rcases h4 with h4 | ⟨b, o, e, cs, q1, q2, q3, q4⟩
  · exact .inl h4.1
  · have q5 := hS b q2
    by_cases h0 : x.length = 0
    · exact .inl h0
    · refine .inr ⟨b, o, e, cs, q1, q5.1, q5.2.1, q5.2.2, q3, ?_⟩
      have := congrArg List.length q4
      rw [h1, List.length_take, List.length_drop, show rArm.sz = 2 from rfl] at this
      omega
theorem AS.instrs {h0 h : Heap} {lv pv : Value} {l : List Ins} {ps : List Int} (d : AS h0 h lv pv l ps) : (rL rIns).rep (fun b => h0.length ≤ b) h [lv] l := by
  obtain ⟨cells, ho, he⟩ := d.l
  refine OwnL.rep (A := rIns) ho d.lb fun i x hx => ?_
  exact rIns.sub (rInsW_to (he i x hx)) fun b hb _ => hb.1
theorem AS.ints {h0 h : Heap} {lv pv : Value} {l : List Ins} {ps : List Int} (d : AS h0 h lv pv l ps) : Ints (fun b => h0.length ≤ b) h pv ps := by
  refine OwnL.rep (A := rI .i64) (by rw [show (rI .i64).sz = 1 from rfl]; exact d.p) d.pb fun i x hx => ?_
  have hc : (ps.map (Value.int .i64))[i]? = some (.int .i64 x) := by rw [List.getElem?_map, hx]; rfl
  refine ⟨chunk_one hc, d.inp x (List.mem_of_getElem? hx)⟩
theorem allF_len (code : List UInt8) : ∀ (n : Nat) (at_ : Int) (l : List Ins) (ps : List Int), ps.length = l.length → (allF code n at_ l ps).2.1.length = (allF code n at_ l ps).1.length
  | 0, _, _, _, h => h
  | n + 1, at_, l, ps, h => by
    unfold allF
    split
    · split
      · rfl
      · exact allF_len code n _ _ _ (by simp [h])
    · exact h
theorem allS_len (code : List UInt8) : (allS code).2.1.length = (allS code).1.length := allF_len code _ _ _ _ rfl
theorem OpsReads_ok (wk : Works12) {S : Nat → Prop} {h : Heap} {cv : Value} {code : List UInt8} {at_ : Int} (hc : rBy.rep S h [cv] code) (hat : inK .i64 at_) :
    WP (callW E fn_trammellaw12_OpsReads [cv, .int .i64 at_] h) (Rt fun v _ => v = .bool true) := by
  refine F_trammellaw12_OpsReads ?_
  unfold B_trammellaw12_OpsReads
  refine wp_obnd (rBy_len hc slc_T_Suint8) ?_
  refine wp_gtt (fun hg => ?_) fun hg => ?_
  · refine wp_retK (wk h) ?_
    rintro v h1 rfl
    exact wp_some rfl
  have hl : code.length ≤ 65536 := by omega
  refine wp_retK (LentCode_ok hc (by omega)) ?_
  rintro lc h1 ⟨le1, k1⟩
  have hc1 := rBy.keep0 hc k1
  refine wp_retK (D_ref_ok hc1 hat) ?_
  rintro v h2 ⟨cs, rfl, rx, k2⟩
  refine wp_obnd ext0 ?_
  refine wp_obnd ext1 ?_
  refine wp_obnd ext2 ?_
  refine wp_new al_T_api_Instr fun h3 k3 g3 l3 => ?_
  have hcs : cs.length = 4 := rInsW.len rx
  refine wp_stA g3 (by rw [hcs]; exact siz_T_api_Instr) (by rw [hcs]; rfl) fun h4 k4 g4 l4 => ?_
  have k24 : Keep [] h2 h4 := k3.trans_new k4 (by simp)
  have k14 : Keep [] h1 h4 := k2.trans k24
  have le4 := le1.go k14 (S' := fun b => h.length ≤ b) fun b hb _ => ⟨by simp, hb⟩
  refine wp_retK (Decode_ok le4.rep hat) ?_
  rintro v h5 ⟨ds, rfl, ry, k5⟩
  refine wp_obnd ext0 ?_
  refine wp_obnd ext1 ?_
  refine wp_obnd ext2 ?_
  refine wp_new al_T_api_Instr fun h6 k6 g6 l6 => ?_
  have hds : ds.length = 4 := rInsW.len ry
  refine wp_stA g6 (by rw [hds]; exact siz_T_api_Instr) (by rw [hds]; rfl) fun h7 k7 g7 l7 => ?_
  have k57 : Keep [] h5 h7 := k6.trans_new k7 (by simp)
  have k47 : Keep [] h4 h7 := k5.trans k57
  have hc7 := rBy.keep0 (rBy.keep0 hc1 k14) k47
  have le7 := le4.go k47 (S' := fun b => h.length ≤ b) fun b hb _ => ⟨by simp, hb⟩
  refine wp_retK (A_ref_ok hc7 hl) ?_
  rintro v h8 ⟨l1, p1, rfl, a8⟩
  refine wp_obnd ext0 ?_
  refine wp_obnd ext1 ?_
  refine wp_obnd ext2 ?_
  have k8 := a8.keep
  have le8 := le7.go k8 (S' := fun b => h.length ≤ b) fun b hb _ => ⟨by simp, hb⟩
  refine wp_retK (All_ok le8.rep hl) ?_
  rintro v h9 ⟨l2, p2, rfl, a9⟩
  refine wp_obnd ext0 ?_
  refine wp_obnd ext1 ?_
  refine wp_obnd ext2 ?_
  have k9 := a9.keep
  have k79 : Keep [] h7 h9 := k8.trans k9
  refine wp_obnd (ldA (k79.get g7 (by simp)) agg_T_api_Instr (by rw [hds]; exact siz_T_api_Instr)) ?_
  refine wp_obnd (ldA ((k47.trans k79).get g4 (by simp)) agg_T_api_Instr (by rw [hcs]; exact siz_T_api_Instr)) ?_
  have ry9 := rIns.keep0 (rInsW_to ry) (k57.trans k79)
  have rx9 := rIns.keep0 (rInsW_to rx) (k24.trans (k47.trans k79))
  refine wp_retK (SameInstr_ok ry9 rx9) ?_
  rintro v h10 ⟨rfl, k10⟩
  refine wp_obnd un_not ?_
  rw [decide_eq_true rfl]
  refine wp_guard (fun hx => absurd hx (by simp)) fun _ => ?_
  refine wp_obnd bin_neq ?_
  refine wp_guard (fun hx => absurd hx (by simp)) fun _ => ?_
  refine wp_obnd bin_neq ?_
  refine wp_guard (fun hx => absurd hx (by simp)) fun _ => ?_
  have i2 := (rL rIns).keep0 a9.instrs k10
  have i1 := (rL rIns).keep0 a8.instrs (k9.trans k10)
  refine wp_retK (SameInstrs_ok i2 i1) ?_
  rintro v h11 ⟨rfl, k11⟩
  refine wp_obnd un_not ?_
  rw [decide_eq_true rfl]
  refine wp_guard (fun hx => absurd hx (by simp)) fun _ => ?_
  have n2 := (rL (rI .i64)).keep0 a9.ints (k10.trans k11)
  have n1 := (rL (rI .i64)).keep0 a8.ints (k9.trans (k10.trans k11))
  refine wp_retK (SameInts_ok n2 n1) ?_
  rintro v h12 ⟨rfl, rfl⟩
  refine wp_obnd un_not ?_
  rw [decide_eq_true rfl]
  refine wp_guard (fun hx => absurd hx (by simp)) fun _ => ?_
  refine wp_obnd bin_neq ?_
  refine wp_guard (fun hx => absurd hx (by simp)) fun _ => ?_
  have k9b : Keep [] h9 h12 := k10.trans k11
  have le12 := le8.go (k9.trans k9b) (S' := fun b => h.length ≤ b ∧ b < h8.length) fun b hb hl => ⟨by simp, hb, hl⟩
  have hc12 := rBy.keep0 hc7 (k79.trans k9b)
  refine wp_retK (KeptCode_ok le12 hc12) ?_
  rintro v h13 ⟨rfl, rfl⟩
  refine wp_obnd un_not ?_
  apply J_trammellaw12_OpsReads_1000010_wp
  unfold J_trammellaw12_OpsReads_1000010_b
  simp only [Bool.not_true, condF_false]
  have last : ∀ h14, (∀ b, b < h8.length → h14[b]? = h13[b]?) → h14.length = h13.length → WP (J_trammellaw12_OpsReads_19 (callW E) h14 lc l1 p1) (Rt fun v _ => v = .bool true) := by
    intro h14 hlow hlen
    apply J_trammellaw12_OpsReads_19_wp
    unfold J_trammellaw12_OpsReads_19_b
    have le14 : LentB (fun b => h.length ≤ b ∧ b < h8.length) h14 lc code := by
      obtain ⟨q0, b, c, e, rest, q1, q2, q3, q4⟩ := le12
      exact ⟨q0, b, c, e, rest, q1, q2, q3, by rw [hlow b q3.2]; exact q4⟩
    have j1 : (rL rIns).rep (fun b => b < h8.length) h14 [l1] (allS code).1 := by
      refine (rL rIns).mono (S := fun b => b < h8.length) (h := h13) (fun b X hb hx => ⟨by rw [hlow b hb]; exact hx, hb⟩) ?_
      exact (rL rIns).go a8.instrs (k9.trans k9b) fun b _ hl => ⟨by simp, hl⟩
    have j2 : (rL (rI .i64)).rep (fun b => b < h8.length) h14 [p1] (allS code).2.1 := by
      refine (rL (rI .i64)).mono (S := fun b => b < h8.length) (h := h13) (fun b X hb hx => ⟨by rw [hlow b hb]; exact hx, hb⟩) ?_
      exact (rL (rI .i64)).go a8.ints (k9.trans k9b) fun b _ hl => ⟨by simp, hl⟩
    refine wp_retK (All_ok le14.rep hl) ?_
    rintro v h15 ⟨l3, p3, rfl, a15⟩
    refine wp_obnd ext0 ?_
    refine wp_obnd ext1 ?_
    refine wp_obnd ext2 ?_
    refine wp_retK (SameInstrs_ok a15.instrs ((rL rIns).keep0 j1 a15.keep)) ?_
    rintro v h16 ⟨rfl, k16⟩
    rw [decide_eq_true rfl]
    refine wp_guard (fun _ => ?_) fun hx => absurd hx (by simp)
    refine wp_retK (SameInts_ok ((rL (rI .i64)).keep0 a15.ints k16) ((rL (rI .i64)).keep0 j2 (a15.keep.trans k16))) ?_
    rintro v h17 ⟨rfl, rfl⟩
    rw [decide_eq_true rfl]
    refine wp_guard (fun _ => ?_) fun hx => absurd hx (by simp)
    refine wp_retK (wk _) ?_
    rintro v h18 rfl
    exact wp_some rfl
  obtain ⟨cells, hcl, hce⟩ := a9.l
  have hpl := a9.p
  have hlen : (allS code).2.1.length = (allS code).1.length := allS_len code
  rcases hcl with ⟨z1, z2, ⟨rfl, z3⟩ | ⟨bl, cl, spl, rfl, z3, z4, z5, z6⟩⟩
  · apply L_trammellaw12_OpsReads_11_wp
    unfold L_trammellaw12_OpsReads_11_b
    refine wp_obnd (len_slc slc_T_Sapi_Instr) ?_
    exact wp_ltt (fun hc => absurd hc (by simp)) fun _ => last _ (fun _ _ => rfl) rfl
  · by_cases hz : (allS code).1.length = 0
    · apply L_trammellaw12_OpsReads_11_wp
      unfold L_trammellaw12_OpsReads_11_b
      refine wp_obnd (len_slc slc_T_Sapi_Instr) ?_
      exact wp_ltt (fun hc => absurd hc (by omega)) fun _ => last _ (fun _ _ => rfl) rfl
    · rcases hpl with ⟨y1, y2, ⟨rfl, y3⟩ | ⟨bp, cp, spp, rfl, y3, y4, y5, y6⟩⟩
      · omega
      · rw [hlen]
        have hne : bl ≠ bp := by have := a9.ne bl (by simp [blks, blkOf]); simpa [blks, blkOf] using this
        have nl := a9.lb bl (by simp [blks, blkOf])
        have np := a9.pb bp (by simp [blks, blkOf])
        refine spoil11 (N0 := h8.length) (hA := h13) z2 (fun h14 => last h14) _ 0 h13 (cells ++ spl) rfl (Nat.zero_le _) ?_
        refine ⟨fun _ _ => rfl, rfl, ⟨_, k9b.get z3 (by simp)⟩, by simp; omega, fun j _ hj => ?_, ⟨_, _, k9b.get y3 (by simp), by simp; omega⟩, hne, nl, np⟩
        obtain ⟨x, hx⟩ := get_of_lt hj
        have hr := hce j x hx
        obtain ⟨va, e1, e2, _⟩ := rInsW_cells hr
        have e3 := chunk3 e1
        refine ⟨va, by rw [List.getElem?_append_left (List.getElem?_eq_some_iff.1 e3).1]; exact e3, ?_⟩
        refine shape_of ((rLw rArm).keep0 e2 k9b) fun b hb => ?_
        have q1 := hb.2.1; have q2 := hb.2.2
        simp [blks, blkOf] at q1 q2
        exact ⟨hb.1, q1, q2⟩
end Go.Proofs.Ytmdffenlehcekaa

set_option maxRecDepth 100000
namespace Go.Proofs.Ytmdffenlehcekaa
open Go Go.Am

def leB (u : Nat) : Nat → List UInt8
  | 0 => []
  | n + 1 => leB u n ++ [UInt8.ofNat (u / 2 ^ (8 * n))]
theorem leB_len (u : Nat) : ∀ n, (leB u n).length = n
  | 0 => rfl
  | n + 1 => by unfold leB; rw [List.length_append, leB_len u n]; rfl
theorem mk_1 : mkMake Try.prog T_Suint8 (.int .i64 ((1 : Nat) : Int)) (.int .i64 ((1 : Nat) : Int)) = some (newBlk T_uint8 (List.replicate 1 (.int .u8 0)), sliceTo 1 1) := by kernel_rfl
theorem mk_2 : mkMake Try.prog T_Suint8 (.int .i64 ((2 : Nat) : Int)) (.int .i64 ((2 : Nat) : Int)) = some (newBlk T_uint8 (List.replicate 2 (.int .u8 0)), sliceTo 2 2) := by kernel_rfl
theorem mk_3 : mkMake Try.prog T_Suint8 (.int .i64 ((3 : Nat) : Int)) (.int .i64 ((3 : Nat) : Int)) = some (newBlk T_uint8 (List.replicate 3 (.int .u8 0)), sliceTo 3 3) := by kernel_rfl
theorem mk_4 : mkMake Try.prog T_Suint8 (.int .i64 ((4 : Nat) : Int)) (.int .i64 ((4 : Nat) : Int)) = some (newBlk T_uint8 (List.replicate 4 (.int .u8 0)), sliceTo 4 4) := by kernel_rfl
theorem mk_5 : mkMake Try.prog T_Suint8 (.int .i64 ((5 : Nat) : Int)) (.int .i64 ((5 : Nat) : Int)) = some (newBlk T_uint8 (List.replicate 5 (.int .u8 0)), sliceTo 5 5) := by kernel_rfl
theorem mk_6 : mkMake Try.prog T_Suint8 (.int .i64 ((6 : Nat) : Int)) (.int .i64 ((6 : Nat) : Int)) = some (newBlk T_uint8 (List.replicate 6 (.int .u8 0)), sliceTo 6 6) := by kernel_rfl
theorem mk_7 : mkMake Try.prog T_Suint8 (.int .i64 ((7 : Nat) : Int)) (.int .i64 ((7 : Nat) : Int)) = some (newBlk T_uint8 (List.replicate 7 (.int .u8 0)), sliceTo 7 7) := by kernel_rfl
theorem mk_8 : mkMake Try.prog T_Suint8 (.int .i64 ((8 : Nat) : Int)) (.int .i64 ((8 : Nat) : Int)) = some (newBlk T_uint8 (List.replicate 8 (.int .u8 0)), sliceTo 8 8) := by kernel_rfl
theorem mk8 {n : Nat} (h1 : 1 ≤ n) (h2 : n ≤ 8) : mkMake Try.prog T_Suint8 (.int .i64 ((n : Nat) : Int)) (.int .i64 ((n : Nat) : Int)) = some (newBlk T_uint8 (List.replicate n (.int .u8 0)), sliceTo n n) := by
  have h : n = 1 ∨ n = 2 ∨ n = 3 ∨ n = 4 ∨ n = 5 ∨ n = 6 ∨ n = 7 ∨ n = 8 := by omega
  clear h1 h2
  rcases h with rfl | rfl | rfl | rfl | rfl | rfl | rfl | rfl
  · exact mk_1
  · exact mk_2
  · exact mk_3
  · exact mk_4
  · exact mk_5
  · exact mk_6
  · exact mk_7
  · exact mk_8
theorem set_mid {α : Type} {A : List α} {i m : Nat} {v z : α} (h : A.length = i) : (A ++ List.replicate (m + 1) z).set i v = (A ++ [v]) ++ List.replicate m z := by
  rw [List.set_append_right _ _ (by omega), h, Nat.sub_self, List.replicate_succ, List.set_cons_zero, List.append_assoc]
  rfl
theorem byte_wrap (x : Nat) : Value.int .u8 (IntKind.u8.wrap (x : Int)) = byteV (UInt8.ofNat x) := by
  rw [wu8]
  unfold byteV
  congr 1
theorem Fixed_ok {h : Heap} {u n : Nat} (h1 : 1 ≤ n) (h2 : n ≤ 8) : WP (callW E fn_wire_Fixed [.int .u64 (u : Int), .int .i64 (n : Int)] h) (Rt fun v h' => rBy.rep (fun b => h.length ≤ b) h' [v] (leB u n) ∧ Keep [] h h') := by
  refine F_wire_Fixed ?_
  unfold B_wire_Fixed
  refine wp_obnd bin_lss ?_
  refine wp_guard (fun hc => absurd (of_decide_eq_true hc) (by omega)) fun _ => ?_
  refine wp_obnd bin_gtr ?_
  apply J_wire_Fixed_1000003_wp
  unfold J_wire_Fixed_1000003_b
  refine wp_test (fun hc => absurd (of_decide_eq_true hc) (by omega)) fun _ => ?_
  refine wp_new (mk8 h1 h2) fun h3 k3 g3 l3 => ?_
  have loop : ∀ (m i : Nat) (h4 : Heap), n - i = m → i ≤ n → Keep [] h h4 → h4[h.length]? = some ⟨.cells T_uint8 ((leB u i).map byteV ++ List.replicate m (.int .u8 0)), true⟩ →
      WP (L_wire_Fixed_5 (callW E) h4 (.int .u64 (u : Int)) (sliceTo n n h.length) (.int .i64 (n : Int)) (.int .i64 (i : Int))) (Rt fun v h' => rBy.rep (fun b => h.length ≤ b) h' [v] (leB u n) ∧ Keep [] h h') := by
    intro m
    induction m with
    | zero =>
      intro i h4 hm hi hk hg
      obtain rfl : i = n := by omega
      apply L_wire_Fixed_5_wp
      unfold L_wire_Fixed_5_b
      refine wp_ltt (fun hc => absurd hc (by omega)) fun _ => ?_
      apply J_wire_Fixed_9_wp
      unfold J_wire_Fixed_9_b
      refine wp_some ⟨?_, hk⟩
      have hl := leB_len u i
      have := rBy_mk (S := fun b => h.length ≤ b) (h := h4) (a := some ⟨h.length, 0, none⟩) (bs := leB u i) (c := i) ⟨by simp, by omega, by rw [hl]; unfold kcap capFlag; rw [if_neg (by omega)]; exact Nat.le_refl _, .inr ⟨h.length, 0, T_uint8, _, true, rfl, Nat.le_refl _, hg, by rw [List.replicate_zero, List.append_nil, List.drop_zero, hl, List.take_of_length_le (by simp [hl])]⟩⟩
      rw [hl] at this
      exact this
    | succ m ih =>
      intro i h4 hm hi hk hg
      have hl := leB_len u i
      apply L_wire_Fixed_5_wp
      unfold L_wire_Fixed_5_b
      refine wp_ltt (fun _ => ?_) fun hc => absurd hc (by omega)
      refine wp_obnd bin_mul ?_
      have e2 : IntKind.i64.wrap (8 * (i : Int)) = ((8 * i : Nat) : Int) := by rw [← wrap_nat (n := 8 * i) (by omega)]; rfl
      rw [e2]
      refine wp_obnd (bin_shr (by omega)) ?_
      rw [Int.toNat_natCast, show min (8 * i) IntKind.u64.bits = 8 * i from Nat.min_eq_left (by show _ ≤ 64; omega), fdiv_nat]
      refine wp_obnd cv_T_uint64_T_uint8 ?_
      rw [byte_wrap]
      refine wp_obnd (idx_sl slc_T_Suint8 siz_T_uint8 ⟨by omega, by omega⟩) ?_
      refine wp_st1 hg siz_T_uint8 (by simp [hl]) rfl fun h5 k5 g5 l5 => ?_
      refine wp_obnd bin_add ?_
      rw [wrap_succ (show i < 9223372036854775807 by omega)]
      refine ih (i + 1) h5 (by omega) (by omega) (hk.trans_new k5 (by simp)) ?_
      rw [show 0 + (i : Int).toNat * 1 = i by omega, set_mid (by simp [hl])] at g5
      rw [show (leB u (i + 1)).map byteV = (leB u i).map byteV ++ [byteV (UInt8.ofNat (u / 2 ^ (8 * i)))] by
        show (leB u i ++ [_]).map byteV = _
        rw [List.map_append]
        rfl]
      exact g5
  exact loop n 0 h3 (by omega) (Nat.zero_le _) k3 g3
theorem put_ok {h : Heap} {S : Nat → Prop} {v0 x : Value} {n : Nat} {cells : List Value} {bs : List UInt8} (ho : OwnL h v0 T_uint8 1 n cells) (hb : rBy.rep S h [x] bs) (hl : n + bs.length ≤ 4294967296) :
    WP (callW E fn_ops_put [v0, x] h) (Rt fun v h' => OwnL h' v T_uint8 1 (n + bs.length) (cells ++ bs.map byteV) ∧ Keep (blks v0) h h' ∧ ∀ b, b ∈ blks v → b ∈ blks v0 ∨ h.length ≤ b) := by
  refine F_ops_put ?_
  unfold B_ops_put
  refine wp_app ho slc_T_Suint8 inf_T_uint8 nin_T_Suint8 zer_T_uint8 rfl rfl (by omega) (src_rBy hb) (by simp) (by omega) (by omega) (by omega) fun v1 h1 o1 k1 b1 => ?_
  exact wp_some ⟨o1, k1, b1⟩
/-- Bytes of a number. -/
def numB (p : Pt) (n : Int) : List UInt8 := leB (IntKind.u64.wrap n).toNat p.size.toNat
def OB (h : Heap) (w : Value) (bs : List UInt8) : Prop := OwnL h w T_uint8 1 bs.length (bs.map byteV)
theorem wp_number {h : Heap} {S : Nat → Prop} {v0 : Value} {bs : List UInt8} {cs : List Value} {p : Pt} {n : Int} {k g : Value → Heap → R} {Q : Ret → Heap → Prop} (ho : OB h v0 bs) (hp : rFld.rep S h cs p) (hS : ∀ x, S x → x ∉ blks v0) (hn : inK .i64 n) (hz : 1 ≤ p.size ∧ p.size ≤ 8) (hl : bs.length ≤ 2147483648)
    (hk : ∀ w h', OB h' w (bs ++ numB p n) → Keep (blks v0) h h' → (∀ b, b ∈ blks w → b ∈ blks v0 ∨ h.length ≤ b) → WP (k (.tuple ⟨[w, .bool (p.may n)]⟩) h') Q) :
    WP (retK (callW E fn_ops_number [v0, .agg ⟨cs⟩, .int .i64 n] h) k g) Q := by
  have main : WP (callW E fn_ops_number [v0, .agg ⟨cs⟩, .int .i64 n] h) (Rt fun v h' => ∃ w, v = .tuple ⟨[w, .bool (p.may n)]⟩ ∧ OB h' w (bs ++ numB p n) ∧ Keep (blks v0) h h' ∧ (∀ b, b ∈ blks w → b ∈ blks v0 ∨ h.length ≤ b)) := by
    refine F_ops_number ?_
    unfold B_ops_number
    obtain ⟨fv, rfl, hm, hsz⟩ := rFld_cells hp
    refine wp_new (X := newBlk T_ops_field [.int .i64 p.size, fv]) (f := ptrTo) rfl fun h1 k1 g1 l1 => ?_
    refine wp_obnd cv_T_int64_T_uint64 ?_
    refine wp_obnd fa_T_ops_field_0 ?_
    refine wp_obnd (ld1 g1 agg_T_int) ?_
    have hu : 0 ≤ IntKind.u64.wrap n := by simp [IntKind.wrap, IntKind.signed, IntKind.bits]; omega
    obtain ⟨u, hu2⟩ := Int.eq_ofNat_of_zero_le hu
    obtain ⟨z, hz2⟩ := Int.eq_ofNat_of_zero_le (show 0 ≤ p.size by omega)
    have e1 : numB p n = leB u z := by unfold numB; rw [hu2, hz2]; rfl
    rw [e1, hu2, hz2]
    refine wp_retK (Fixed_ok (by omega) (by omega)) ?_
    rintro x h2 ⟨r2, k2⟩
    have hzl := leB_len u z
    have hlt := ho.lt
    refine wp_retK (put_ok ((ho.go k1 (by simp)).go k2 (by simp)) r2 (by omega)) ?_
    rintro w h3 ⟨o3, k3, b3⟩
    refine wp_obnd fa_T_ops_field_1 ?_
    have nb : h.length ∉ blks v0 := fun hx => by have := hlt _ hx; omega
    have g3 := k3.get (k2.get g1 (by simp)) nb
    have l2 := k2.len
    refine wp_chkRd (b := h.length) rfl (by simp) (by
      intro y hy
      simp at hy
      rcases hy with rfl | rfl
      · exact (k3.at_ _ (by omega) nb).symm
      · rw [k3.at_ _ (by omega) nb, k2.at_ _ (by omega) (by simp)]) ?_
    refine wp_obnd (ld1 g3 (by kernel_rfl)) ?_
    have k13 : Keep (blks v0) h h3 := ((k1.trans k2).mono (by simp)).trans k3
    have hm3 : rMay.rep S h3 [fv] p.may := rMay.keep hm k13 hS
    refine wp_may hm3 hn ?_
    refine wp_some ⟨w, rfl, ?_, k13, fun b hb => ?_⟩
    · unfold OB
      rw [List.length_append, List.map_append]
      exact o3
    · rcases b3 b hb with hb | hb
      · exact .inl hb
      · exact .inr (by omega)
  refine wp_retK main ?_
  rintro v h' ⟨w, rfl, q1, q2, q3⟩
  exact hk w h' q1 q2 q3
end Go.Proofs.Ytmdffenlehcekaa

set_option maxRecDepth 100000
namespace Go.Proofs.Ytmdffenlehcekaa
open Go Go.Am

structure NS (h0 h : Heap) (bx N : Nat) (lv av w : Value) (ps : List Pt) (x : Ins) (bs : List UInt8) : Prop where
  keep : Keep [] h0 h
  o1 : h0.length ≤ bx
  o2 : bx < N
  o3 : N ≤ h.length
  ins : h[bx]? = some ⟨.cells T_api_Instr [.int .u8 x.op, .int .i64 x.a, .int .i64 x.b, av], true⟩
  flds : (rL rFld).rep (fun y => bx < y ∧ y < N) h [lv] ps
  own : OB h w bs
  wb : ∀ y, y ∈ blks w → N ≤ y
  arms : (rL rArm).rep (fun y => y < h0.length) h [av] x.arms
  len : bs.length ≤ 1000
/-- What comes behind a field. -/
def encR (x : Ins) (i : Nat) (p : Pt) (r : List UInt8 × Bool) : List UInt8 × Bool := (r.1 ++ numB p (if i = 1 then x.b else x.a), r.2 && p.may (if i = 1 then x.b else x.a))
def encHead (x : Ins) (r : List UInt8 × Bool) : List Pt → List UInt8 × Bool
  | [] => r
  | [p] => encR x 0 p r
  | p :: q :: _ => encR x 1 q (encR x 0 p r)
def encOk (x : Ins) (ps : List Pt) (ok : Bool) : Bool := if 0 < x.arms.length then false else if ps.length < 2 ∧ x.b ≠ 0 then false else if ps.length < 1 ∧ x.a ≠ 0 then false else ok
/-- What Encode answers for an instruction that is no switch. -/
def encS (x : Ins) : List UInt8 × Int :=
  let l := partsS x.op
  let r := encHead x ([UInt8.ofNat x.op.toNat], l.2) l.1
  if encOk x l.1 r.2 then (r.1, 0) else ([], 120)
def EncPost (h0 : Heap) (r : List UInt8 × Int) (v : Value) (h' : Heap) : Prop :=
  ∃ w, v = .tuple ⟨[w, .int .i64 r.2]⟩ ∧ OB h' w r.1 ∧ (∀ y, y ∈ blks w → h0.length ≤ y) ∧ Keep [] h0 h'
section
variable {h0 h : Heap} {bx N : Nat} {lv av w : Value} {ps : List Pt} {x : Ins} {bs : List UInt8}
theorem enc18 (d : NS h0 h bx N lv av w ps x bs) {ok : Bool} : WP (J_ops_Encode_18 (callW E) h (.bool ok) w) (Rt (EncPost h0 (if ok then (bs, 0) else ([], 120)))) := by
  apply J_ops_Encode_18_wp
  unfold J_ops_Encode_18_b
  refine wp_obnd un_not ?_
  have o1 := d.o1; have o2 := d.o2
  refine wp_test (fun hc => ?_) fun hc => ?_
  · have hc : ok = false := by simpa using hc
    subst hc
    exact wp_some ⟨_, rfl, OwnL.nil _ _ _, fun y hy => by simp [blks, blkOf] at hy, d.keep⟩
  · have hc : ok = true := by simpa using hc
    subst hc
    exact wp_some ⟨_, rfl, d.own, fun y hy => by have := d.wb y hy; omega, d.keep⟩
theorem enc12 (d : NS h0 h bx N lv av w ps x bs) {ok : Bool} (h49 : x.op ≠ 49) : WP (J_ops_Encode_12 (callW E) h (pt bx) lv (.bool ok) w) (Rt (EncPost h0 (if encOk x ps ok then (bs, 0) else ([], 120)))) := by
  apply J_ops_Encode_12_wp
  unfold J_ops_Encode_12_b
  refine wp_obnd fa_T_api_Instr_0 ?_
  refine wp_obnd (ld1 d.ins agg_T_uint8) ?_
  refine wp_obnd bin_eql ?_
  refine wp_guard (fun hc => absurd (beq_iff_eq.1 hc) h49) fun _ => ?_
  apply J_ops_Encode_1000014_wp
  unfold J_ops_Encode_1000014_b
  simp only [condF_false]
  refine wp_obnd fa_T_api_Instr_3 ?_
  refine wp_obnd (ld1 d.ins agg_T_Sapi_Arm) ?_
  refine wp_obnd (rL_len d.arms slc_T_Sapi_Arm) ?_
  refine wp_obnd bin_gtr ?_
  refine wp_test (fun hc => ?_) fun hc => ?_
  · rw [hc]
    simp only [condF_true]
    have hc := of_decide_eq_true hc
    rw [show encOk x ps ok = false by unfold encOk; rw [if_pos (by omega)]]
    exact enc18 d
  · have hc := of_decide_eq_false hc
    have hlen := rL_len d.flds (P := Try.prog) slc_T_Sops_field
    have fin2 : (ps.length < 2 → x.b = 0) → WP (J_ops_Encode_2000016 (callW E) h (pt bx) lv (.bool ok) w (.bool false)) (Rt (EncPost h0 (if encOk x ps ok then (bs, 0) else ([], 120)))) := by
      intro hb
      apply J_ops_Encode_2000016_wp
      unfold J_ops_Encode_2000016_b
      simp only [condF_false]
      refine wp_obnd hlen ?_
      refine wp_obnd bin_lss ?_
      refine wp_guard (fun hd => ?_) fun hd => ?_
      · have hd := of_decide_eq_true hd
        refine wp_obnd fa_T_api_Instr_1 ?_
        refine wp_obnd (ld1 d.ins agg_T_int64) ?_
        refine wp_obnd bin_neq ?_
        refine wp_test (fun he => ?_) fun he => ?_
        · have he : x.a ≠ 0 := by simpa using he
          rw [show encOk x ps ok = false by unfold encOk; rw [if_neg (by omega), if_neg (fun q => q.2 (hb q.1)), if_pos ⟨by omega, he⟩]]
          exact enc18 d
        · have he : x.a = 0 := by simpa using he
          rw [show encOk x ps ok = ok by unfold encOk; rw [if_neg (by omega), if_neg (fun q => q.2 (hb q.1)), if_neg (fun q => q.2 he)]]
          exact enc18 d
      · have hd := of_decide_eq_false hd
        rw [show encOk x ps ok = ok by unfold encOk; rw [if_neg (by omega), if_neg (fun q => q.2 (hb q.1)), if_neg (fun q => by omega)]]
        exact enc18 d
    refine wp_obnd hlen ?_
    refine wp_obnd bin_lss ?_
    refine wp_guard (fun hd => ?_) fun hd => ?_
    · have hd := of_decide_eq_true hd
      refine wp_obnd fa_T_api_Instr_2 ?_
      refine wp_obnd (ld1 d.ins agg_T_int64) ?_
      refine wp_obnd bin_neq ?_
      cases he : (x.b != 0) with
      | true =>
        have he : x.b ≠ 0 := by simpa using he
        apply J_ops_Encode_2000016_wp
        unfold J_ops_Encode_2000016_b
        simp only [condF_true]
        rw [show encOk x ps ok = false by unfold encOk; rw [if_neg (by omega), if_pos ⟨by omega, he⟩]]
        exact enc18 d
      | false =>
        have he : x.b = 0 := by simpa using he
        exact fin2 fun _ => he
    · have hd := of_decide_eq_false hd
      exact fin2 fun q => by omega
theorem enc4_round (d : NS h0 h bx N lv av w ps x bs) {i : Nat} {p : Pt} {ok : Bool} (hp : ps[i]? = some p) (hg : 1 ≤ p.size ∧ p.size ≤ 8) (hl : bs.length ≤ 900) (hin : inK .i64 x.a ∧ inK .i64 x.b) {Q : Ret → Heap → Prop}
    (hk : ∀ h' w', NS h0 h' bx N lv av w' ps x (encR x i p (bs, ok)).1 → WP (L_ops_Encode_4 (callW E) h' (pt bx) lv (.bool (encR x i p (bs, ok)).2) w' lv (.int .i64 ps.length) (.int .i64 ((i + 1 : Nat) : Int))) Q) :
    WP (L_ops_Encode_4 (callW E) h (pt bx) lv (.bool ok) w lv (.int .i64 ps.length) (.int .i64 i)) Q := by
  have hi := (List.getElem?_eq_some_iff.1 hp).1
  have o1 := d.o1; have o2 := d.o2; have o3 := d.o3
  have hlt := rL_lt d.flds
  apply L_ops_Encode_4_wp
  unfold L_ops_Encode_4_b
  refine wp_ltt (fun _ => ?_) fun hc => absurd hc (by omega)
  obtain ⟨q, cs, h1, h2, h3⟩ := rL_getG (P := Try.prog) (k := .i64) d.flds slc_T_Sops_field siz_T_ops_field agg_T_ops_field hp
  refine wp_obnd h1 ?_
  refine wp_obnd h2 ?_
  refine wp_new al_T_ops_field fun h4 k4 g4 l4 => ?_
  have hcs : cs.length = 2 := rFld.len h3
  refine wp_stA g4 (by rw [hcs]; exact siz_T_ops_field) (by rw [hcs]; rfl) fun h5 k5 g5 l5 => ?_
  have k45 : Keep [] h h5 := k4.trans_new k5 (by simp)
  have i5 := k45.get d.ins (by simp)
  refine wp_obnd fa_T_api_Instr_1 ?_
  refine wp_obnd (ld1 i5 agg_T_int64) ?_
  have go : ∀ n : Int, n = (if i = 1 then x.b else x.a) → WP (J_ops_Encode_9 (callW E) h5 (pt bx) lv (.bool ok) w (pt h.length) (.int .i64 n) lv (.int .i64 ps.length) (.int .i64 i)) Q := by
    intro n hn
    have hni : inK .i64 n := by
      rw [hn]
      split
      · exact hin.2
      · exact hin.1
    apply J_ops_Encode_9_wp
    unfold J_ops_Encode_9_b
    refine wp_obnd (ldA g5 agg_T_ops_field (by rw [hcs]; exact siz_T_ops_field)) ?_
    have ow5 : OB h5 w bs := d.own.go k45 (by simp)
    have nw : ∀ y, bx < y ∧ y < N → y ∉ blks w := fun y hy hm => by have := d.wb y hm; omega
    refine wp_number ow5 (rFld.keep0 h3 k45) nw hni hg (by omega) fun w' h6 o6 k6 b6 => ?_
    refine wp_obnd ext0 ?_
    refine wp_obnd ext1 ?_
    have l5' := k45.len
    have l6 := k6.len
    have hnb : (numB p n).length ≤ 8 := by unfold numB; rw [leB_len]; omega
    have d6 : NS h0 h6 bx N lv av w' ps x (bs ++ numB p n) :=
      { keep := (d.keep.trans k45).trans_new k6 fun y hy => .inr (by have := d.wb y hy; omega)
        o1 := o1, o2 := o2, o3 := by omega
        ins := k6.get i5 (fun hm => by have := d.wb _ hm; omega)
        flds := (rL rFld).keep ((rL rFld).keep0 d.flds k45) k6 nw
        own := o6
        wb := fun y hy => by
          rcases b6 y hy with hy | hy
          · exact d.wb y hy
          · omega
        arms := (rL rArm).keep ((rL rArm).keep0 d.arms k45) k6 fun y hy hm => by have := d.wb y hm; omega
        len := by rw [List.length_append]; omega }
    have e1 : (encR x i p (bs, ok)) = (bs ++ numB p n, ok && p.may n) := by unfold encR; rw [← hn]
    rw [e1] at hk
    cases ok with
    | true =>
      refine wp_guard (fun _ => ?_) fun hx => absurd hx (by simp)
      refine wp_obnd bin_add ?_
      rw [wrap_succ (show i < 9223372036854775807 by omega)]
      exact hk h6 w' d6
    | false =>
      refine wp_guard (fun hx => absurd hx (by simp)) fun _ => ?_
      refine wp_obnd bin_add ?_
      rw [wrap_succ (show i < 9223372036854775807 by omega)]
      exact hk h6 w' d6
  refine wp_eqt (fun hz => ?_) fun hz => ?_
  · refine wp_obnd fa_T_api_Instr_2 ?_
    refine wp_obnd (ld1 i5 agg_T_int64) ?_
    exact go x.b (by rw [if_pos (by omega)])
  · exact go x.a (by rw [if_neg (by omega)])
theorem enc4_end {ok : Bool} {Q : Ret → Heap → Prop} (hk : WP (J_ops_Encode_12 (callW E) h (pt bx) lv (.bool ok) w) Q) : WP (L_ops_Encode_4 (callW E) h (pt bx) lv (.bool ok) w lv (.int .i64 ps.length) (.int .i64 ps.length)) Q := by
  apply L_ops_Encode_4_wp
  unfold L_ops_Encode_4_b
  exact wp_ltt (fun hc => absurd hc (by omega)) fun _ => hk
end
theorem parts_size (op : Int) : ∀ p, p ∈ (partsS op).1 → 1 ≤ p.size ∧ p.size ≤ 8 := fun p hp => good_size (parts_good op p hp)
theorem Encode_ok {h : Heap} {cs : List Value} {x : Ins} {S : Nat → Prop} (hx : rIns.rep S h cs x) (h49 : x.op ≠ 49) : WP (callW E fn_ops_Encode [.agg ⟨cs⟩] h) (Rt (EncPost h (encS x))) := by
  refine F_ops_Encode ?_
  unfold B_ops_Encode
  obtain ⟨av, rfl, ha, i1, i2, i3⟩ := rIns_cells hx
  refine wp_new (X := newBlk T_api_Instr [.int .u8 x.op, .int .i64 x.a, .int .i64 x.b, av]) (f := ptrTo) rfl fun h1 k1 g1 l1 => ?_
  refine wp_obnd fa_T_api_Instr_0 ?_
  refine wp_obnd (ld1 g1 agg_T_uint8) ?_
  refine wp_retK layout_ok ?_
  rintro v h2 ⟨lv, rfl, rl, k2⟩
  refine wp_obnd ext0 ?_
  refine wp_obnd ext1 ?_
  have g2 := k2.get g1 (by simp)
  refine wp_obnd fa_T_api_Instr_0 ?_
  refine wp_obnd (ld1 g2 agg_T_uint8) ?_
  refine wp_new (X := newBlk T_uint8 [.int .u8 x.op]) (f := sliceTo 1 1) (by kernel_rfl) fun h3 k3 g3 l3 => ?_
  have hop : Value.int .u8 x.op = byteV (UInt8.ofNat x.op.toNat) := by
    rw [← byte_wrap]
    simp only [inK] at i1
    rw [wu8]
    congr 1
    omega
  have r3 : rBy.rep (fun b => h2.length ≤ b) h3 [sliceTo 1 1 h2.length] [UInt8.ofNat x.op.toNat] :=
    rBy_mk (bs := [UInt8.ofNat x.op.toNat]) (c := 1) ⟨by simp, by simp, by simp [kcap, capFlag], .inr ⟨h2.length, 0, T_uint8, _, true, rfl, Nat.le_refl _, g3, by rw [hop]; rfl⟩⟩
  refine wp_retK (put_ok (OwnL.nil h3 T_uint8 1) r3 (by simp)) ?_
  rintro w h4 ⟨o4, k4, b4⟩
  have k4' : Keep [] h3 h4 := k4.mono (by simp [blks, blkOf])
  have l2 := k2.len
  have l4 := k4'.len
  have ll := rL_lt rl
  refine wp_obnd (rL_len rl slc_T_Sops_field) ?_
  have d4 : NS h h4 h.length h2.length lv av w (partsS x.op).1 x [UInt8.ofNat x.op.toNat] :=
    { keep := ((k1.trans k2).trans k3).trans k4'
      o1 := Nat.le_refl _, o2 := by omega, o3 := by omega
      ins := k4'.get (k3.get g2 (by simp)) (by simp)
      flds := (rL rFld).go rl (k3.trans k4') fun y hy hl => ⟨by simp, by omega, hl⟩
      own := o4
      wb := fun y hy => by
        rcases b4 y hy with hy | hy
        · simp [blks, blkOf] at hy
        · omega
      arms := (rL rArm).go ha (((k1.trans k2).trans k3).trans k4') fun y _ hl => ⟨by simp, hl⟩
      len := by simp }
  have hsz := parts_size x.op
  have e0 : encS x = if encOk x (partsS x.op).1 (encHead x ([UInt8.ofNat x.op.toNat], (partsS x.op).2) (partsS x.op).1).2 then ((encHead x ([UInt8.ofNat x.op.toNat], (partsS x.op).2) (partsS x.op).1).1, 0) else ([], 120) := rfl
  rw [e0]
  generalize (partsS x.op).2 = ok at *
  have hfew : ∀ ps, ps = (partsS x.op).1 → NS h h4 h.length h2.length lv av w ps x [UInt8.ofNat x.op.toNat] → WP (L_ops_Encode_4 (callW E) h4 (pt h.length) lv (.bool ok) w lv (.int .i64 ps.length) (.int .i64 0)) (Rt (EncPost h (if encOk x ps (encHead x ([UInt8.ofNat x.op.toNat], ok) ps).2 then ((encHead x ([UInt8.ofNat x.op.toNat], ok) ps).1, 0) else ([], 120)))) := by
    intro ps hps d
    rcases parts_len x.op with hp | ⟨p, hp⟩ | ⟨p, q, hp⟩
    · rw [hp] at hps; subst hps
      exact enc4_end (ps := []) (enc12 d h49)
    · rw [hp] at hps; subst hps
      refine enc4_round d (i := 0) rfl (hsz p (by rw [hp]; simp)) (by simp) ⟨i2, i3⟩ fun h5 w5 d5 => ?_
      exact enc4_end (ps := [p]) (enc12 d5 h49)
    · rw [hp] at hps; subst hps
      have s1 := hsz p (by rw [hp]; simp)
      refine enc4_round d (i := 0) rfl s1 (by simp) ⟨i2, i3⟩ fun h5 w5 d5 => ?_
      refine enc4_round d5 (i := 1) rfl (hsz q (by rw [hp]; simp)) ?_ ⟨i2, i3⟩ fun h6 w6 d6 => ?_
      · simp only [encR, List.length_append, numB, leB_len]
        simp
        omega
      · exact enc4_end (ps := [p, q]) (enc12 d6 h49)
  exact hfew _ rfl d4
end Go.Proofs.Ytmdffenlehcekaa

set_option maxRecDepth 100000
namespace Go.Proofs.Ytmdffenlehcekaa
open Go Go.Am

theorem Size_ok {h : Heap} {cs : List Value} {x : Ins} {S : Nat → Prop} (hx : rIns.rep S h cs x) (h49 : x.op ≠ 49) : WP (callW E fn_ops_Size [.agg ⟨cs⟩] h) (Rt fun v h' => v = .int .i64 (encS x).1.length ∧ Keep [] h h') := by
  refine F_ops_Size ?_
  unfold B_ops_Size
  have hcs : cs.length = 4 := rIns.len hx
  obtain ⟨av, hcv, _⟩ := rIns_cells hx
  refine wp_new (X := newBlk T_api_Instr cs) (f := ptrTo) (by rw [hcv]; rfl) fun h1 k1 g1 l1 => ?_
  refine wp_obnd (ldA g1 agg_T_api_Instr (by rw [hcs]; exact siz_T_api_Instr)) ?_
  refine wp_retK (Encode_ok (rIns.keep0 hx k1) h49) ?_
  rintro v h2 ⟨w, rfl, o, _, k2⟩
  refine wp_obnd ext0 ?_
  refine wp_obnd ext1 ?_
  obtain ⟨a, c, rfl⟩ := o.form
  refine wp_obnd (len_slc slc_T_Suint8) ?_
  exact wp_some ⟨rfl, k1.trans k2⟩
theorem wp_build {P : Program} {t : TypeId} {ps : List (Nat × Value)} {n i : Nat} {v : Value} {k : Value → R} {Q : Ret → Heap → Prop} (h1 : ((aBuild P t ps).bind fun v => match v with | .agg ⟨l⟩ => some l.length | _ => none) = some n)
    (h2 : ((aBuild P t ps).bind fun v => match v with | .agg ⟨l⟩ => l[i]? | _ => none) = some v) (hk : ∀ l, l.length = n → l[i]? = some v → WP (k (.agg ⟨l⟩)) Q) : WP (obnd (aBuild P t ps) k) Q := by
  cases hb : aBuild P t ps with
  | none => rw [hb] at h1; simp at h1
  | some w =>
    rw [hb] at h1 h2
    cases w with
    | agg l =>
      obtain ⟨l⟩ := l
      exact wp_obnd rfl (hk l (by simpa using h1) (by simpa using h2))
    | _ => simp at h1
theorem al_53 : mkAlloc Try.prog T_53_string = some (newBlk T_53_string (List.replicate 53 (.string ByteArray.empty)), ptrTo) := by kernel_rfl
theorem siz_53 : sizeT Try.prog T_53_string = some 53 := by kernel_rfl
theorem Name38 {h : Heap} : WP (callW E fn_ops_Name [.int .u8 38] h) (Rt fun v h' => v = .string { data := #[115, 101, 116, 102, 105, 101, 108, 100] }) := by
  refine F_ops_Name ?_
  unfold B_ops_Name
  refine wp_build (n := 53) (i := 38) (v := .string { data := #[115, 101, 116, 102, 105, 101, 108, 100] }) (by kernel_rfl) (by kernel_rfl) fun l hl hv => ?_
  refine wp_new al_53 fun h1 k1 g1 l1 => ?_
  refine wp_stA g1 (by rw [hl]; exact siz_53) (by rw [hl, List.length_replicate]) fun h2 k2 g2 l2 => ?_
  refine wp_obnd cv_T_uint8_T_int ?_
  refine wp_obnd bin_lss ?_
  refine wp_test (fun _ => ?_) fun hc => absurd (of_decide_eq_false hc) (by decide)
  refine wp_obnd (a := .pointer (some ⟨h.length, 0 + 38, none⟩)) (by kernel_rfl) ?_
  refine wp_obnd (show aLoad Try.prog T_string h2 (.pointer (some ⟨h.length, 0 + 38, none⟩)) = some (.string { data := #[115, 101, 116, 102, 105, 101, 108, 100] }) by rw [ld1 g2 agg_T_string]; exact hv) ?_
  exact wp_some rfl
theorem dec_works : decodeS [2, 2, 1, 0, 0] 0 = (⟨2, 258, 0, []⟩, 5, 0) := by kernel_rfl
theorem enc_works : (encS ⟨2, 258, 0, []⟩).1.length = 5 := by kernel_rfl
theorem works12 : Works12 := by
  intro h
  refine F_trammellaw12_works ?_
  unfold B_trammellaw12_works
  refine wp_new (X := newBlk T_uint8 [.int .u8 2, .int .u8 2, .int .u8 1, .int .u8 0, .int .u8 0]) (f := sliceTo 5 5) (by kernel_rfl) fun h1 k1 g1 l1 => ?_
  have r1 : rBy.rep (fun b => h.length ≤ b) h1 [sliceTo 5 5 h.length] [2, 2, 1, 0, 0] :=
    rBy_mk (bs := [2, 2, 1, 0, 0]) (c := 5) ⟨by simp, by simp, by simp [kcap, capFlag], .inr ⟨h.length, 0, T_uint8, _, true, rfl, Nat.le_refl _, g1, rfl⟩⟩
  refine wp_retK (Decode_ok r1 (by simp [inK])) ?_
  rw [dec_works]
  rintro v h2 ⟨cs, rfl, rx, k2⟩
  refine wp_obnd ext0 ?_
  refine wp_obnd ext1 ?_
  refine wp_obnd ext2 ?_
  refine wp_new al_T_api_Instr fun h3 k3 g3 l3 => ?_
  have hcs : cs.length = 4 := rInsW.len rx
  obtain ⟨va, hcv, _⟩ := rInsW_cells rx
  refine wp_stA g3 (by rw [hcs]; exact siz_T_api_Instr) (by rw [hcs]; rfl) fun h4 k4 g4 l4 => ?_
  have r4 := rIns.keep0 (rInsW_to rx) (k3.trans_new k4 (by simp))
  have tt : ∀ {b : Bool} {A B C : R} {Q : Ret → Heap → Prop}, b = true → WP A Q → WP (guardV3 (.bool b) A B C) Q := fun hb hA => wp_guard (fun _ => hA) fun hx => absurd hx (by rw [hb]; simp)
  refine wp_obnd bin_eql ?_
  refine tt rfl ?_
  refine wp_obnd bin_eql ?_
  refine tt rfl ?_
  refine wp_obnd fa_T_api_Instr_0 ?_
  refine wp_obnd (show aLoad Try.prog T_uint8 h4 (.pointer (some ⟨h2.length, 0 + 0, none⟩)) = some (.int .u8 2) by rw [ld1 g4 agg_T_uint8, hcv]; rfl) ?_
  refine wp_obnd bin_eql ?_
  refine tt rfl ?_
  refine wp_obnd fa_T_api_Instr_1 ?_
  refine wp_obnd (show aLoad Try.prog T_int64 h4 (.pointer (some ⟨h2.length, 0 + 1, none⟩)) = some (.int .i64 258) by rw [ld1 g4 agg_T_int64, hcv]; rfl) ?_
  refine wp_obnd bin_eql ?_
  refine tt rfl ?_
  refine wp_obnd (ldA g4 agg_T_api_Instr (by rw [hcs]; exact siz_T_api_Instr)) ?_
  refine wp_retK (Size_ok r4 (by decide)) ?_
  rintro v h5 ⟨rfl, k5⟩
  rw [enc_works]
  refine wp_obnd bin_eql ?_
  refine tt rfl ?_
  refine wp_retK Name38 ?_
  rintro v h6 rfl
  refine wp_obnd str_eql ?_
  exact wp_some (by simp [Rt])
end Go.Proofs.Ytmdffenlehcekaa

namespace Go.Proofs.Ytmdffenlehcekaa
open Go Go.Am
section
variable {H : Type} {enc : TypeId × Value → H} {W : World}
theorem bytes_of_ints {S : Nat → Prop} {h : Heap} {cs : List Value} {a : List Int} (hr : (rL (rI .u8)).rep S h cs a) : ∃ b : List UInt8, rBy.rep S h cs b := by
  have hin : ∀ x, x ∈ a → 0 ≤ x ∧ x ≤ 255 := by
    obtain ⟨_, _, _, _, _, he⟩ := hr
    intro x hx
    obtain ⟨i, hi⟩ := List.getElem?_of_mem hx
    exact (he i x hi).2
  refine ⟨a.map fun n => UInt8.ofNat n.toNat, ?_⟩
  have e : ((a.map fun n => UInt8.ofNat n.toNat).map fun b => (b.toNat : Int)) = a := by
    rw [List.map_map]
    conv => rhs; rw [← List.map_id a]
    refine List.map_congr_left fun x hx => ?_
    have := hin x hx
    simp only [Function.comp, id]
    rw [UInt8.toNat_ofNat_of_lt' (by simp [UInt8.size]; omega)]
    omega
  show (rL (rI .u8)).rep S h cs (List.map (fun b => (b.toNat : Int)) (List.map (fun n => UInt8.ofNat n.toNat) a))
  rw [e]
  exact hr
theorem ent_int : Enter enc Try.prog W (rI .i64) T_int := enter_int un_T_int
theorem ent_code : Enter enc Try.prog W rBy T_Suint8 :=
  enter_M (enter_slice un_T_Suint8 (by kernel_rfl) (by simp [rI]) (of_decide_eq_true (by kernel_rfl)) (enter_int un_T_uint8)) fun _ _ _ _ hr => bytes_of_ints hr
end
end Go.Proofs.Ytmdffenlehcekaa
namespace Go.Proofs.Ytmdffenlehcekaa.opsReads
open Go Go.Am Go.ChangeShapes Go.WideShapes Go.ChangeAt Go.RowKit
open Go.ChangeMaps (open_string shut_string)
theorem own : ownKnob Try.prog.godebug = none := by kernel_rfl
theorem laidOut : laidOutB Try.prog = true := by kernel_rfl
abbrev Law : Prop := ∀ (S : Nat → Prop) (h : Heap) (cv : Value) (code : List UInt8) (at_ : Int), rBy.rep S h [cv] code → inK .i64 at_ → WP (callW E fn_trammellaw12_OpsReads [cv, .int .i64 at_] h) (Rt fun v _ => v = .bool true)
set_option maxRecDepth 100000 in
theorem lifted (law : Law) (os : Os) (started : os.Started) (H : Type) (enc : TypeId × Value → H) :
    ReturnsInHanded {} Try.checked os fn_trammellaw12_OpsReads .any (Rows.opsReadsSpec.pre6 enc Try.prog Try.f3 Rows.opsReadsRow.domain false) (Rows.opsReadsSpec.post enc Try.prog Try.f3 false true false false) := by
  refine returnsInHanded_of_change_sized (C := Try.checked) own started (by kernel_rfl) Try.func3
    (ChangeSpec.witness6 (enc := enc) (C := Try.checked) false ⟨#[], #[.slice none 0 0, .int .i64 0], []⟩ 8 (by kernel_rfl) (by kernel_rfl) (by kernel_rfl) (by kernel_rfl)) ?_
  intro W base args ds gs before hval0 hW hcnd hsz0 _
  have hsz : (DataW.weightsEach Try.prog (Try.f3.params.toList ++ Rows.opsReadsSpec.plain.varTypes Try.prog) (ds ++ gs)).all (· ≤ reachBytes) = true := hsz0
  have hval : ∀ (j : Nat) t v, Try.f3.params[j]? = some t → args[j]? = some v → Value.okWide Try.prog W .any base t v := hval0
  have hW' := hW
  obtain ⟨p, q, hA0, hV, rfl, hfz, hnd⟩ := hW
  have hA : DataW.TrodAll enc Try.prog W 0 (fun _ => true) true Try.f3.params.toList args.toList ds p := hA0
  rw [Try.params3] at hA hval hsz
  obtain ⟨v0, vs0, d0, ds0, p0, q0, hargs, rfl, rfl, h0, r0⟩ := trodAll_cons hA
  obtain ⟨v1, vs1, d1, ds1, p1, q1, rfl, rfl, rfl, h1, r1⟩ := trodAll_cons r0
  obtain ⟨rfl, rfl, rfl⟩ := trodAll_nil r1
  obtain rfl : args = #[v0, v1] := by cases args; simp_all
  obtain ⟨rfl, rfl⟩ := trodVars_none hV
  have lt0 : ∀ x ∈ p0, x.block < W.heap.size := by obtain ⟨m, hm⟩ := h0; exact DataW.trod_lt m _ _ _ hm
  obtain ⟨a0, len0, cap0, rfl⟩ := okWide_slice un_T_Suint8 (hval 0 T_Suint8 v0 rfl rfl)
  obtain ⟨a1, rfl, rfl, rfl, w1⟩ := open_int un_T_int (hval 1 T_int v1 rfl rfl) h1
  obtain ⟨f0, m0, u0, x0, i0, e0, vr0, rep0⟩ := arg_one (ent_code) In.nil h0 rfl (weights_le (j := 0) hsz rfl rfl)
  refine (law_true (f := f0) (h := [] ++ m0) (cs := [u0, .int .i64 a1]) env_ok i0 (.cons vr0 (.cons (.int _ _) .nil)) (law _ _ _ _ _ rep0 (inK_of_wf w1))).mono fun e W' ⟨he, bel⟩ => ?_
  subst he
  exact ⟨_, rfl, _, _, _, [], _, [], hW', trodAll_mk1 (shut_bool un_T_bool _), (trodAll_cons_mk (Below.trod laidOut (by kernel_rfl) (of_decide_eq_true (by kernel_rfl)) h0 bel lt0) (trodAll_cons_mk (shut_int un_T_int w1) trodAll_mk0)), rfl, bel.frame _, fun h => by cases h⟩
theorem over (law : Law) : Rows.opsReadsRow.holds Try.pinned (OpenSpec.ofChange Rows.opsReadsSpec) :=
  OpenClaim.holds_of_wide fn_trammellaw12_OpsReads Try.f3 rfl rfl rfl rfl rfl rfl rfl ⟨rfl, rfl, rfl, rfl, rfl⟩ rfl rfl rfl rfl rfl (by kernel_rfl) Try.func3 (by kernel_rfl)
    (of_decide_eq_true (by kernel_rfl)) (by unfold Func.isWrapper; first | (rw [if_pos (by decide +kernel)]; kernel_rfl) | (rw [if_neg (by decide +kernel)]; exact ⟨rfl, rfl⟩))
    (fun os started H enc _ => lifted law os started H enc)
end Go.Proofs.Ytmdffenlehcekaa.opsReads
