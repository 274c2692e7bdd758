/- What the functions answer. -/
import Derived.Test.YtmdffenlehcekaaRows
import Derived.Test.YtmdffenlehcekaaKo
import Derived.Test.YtmdffenlehcekaaKt
import Derived.Test.YtmdffenlehcekaaKp1
import Derived.Test.YtmdffenlehcekaaKp2
import Derived.WalkKit
import Derived.ProofKit
import Derived.OpenShut
import Derived.ShutString
import Derived.ChangeOld
import Derived.Below
set_option linter.unusedVariables false
set_option linter.unusedSimpArgs false
namespace Go.Proofs.Ytmdffenlehcekaa
open Go Go.Am

theorem wrap_nat {n : Nat} (h : n < 9223372036854775808) : IntKind.i64.wrap (n : Int) = n := by
  unfold IntKind.wrap
  simp [IntKind.bits, IntKind.signed]
  omega
theorem wrap_succ {n : Nat} (h : n < 9223372036854775807) : IntKind.i64.wrap ((n : Int) + 1) = ((n + 1 : Nat) : Int) := by
  rw [← wrap_nat (n := n + 1) (by omega)]; rfl

abbrev Ints (S : Nat → Prop) (h : Heap) (v : Value) (xs : List Int) : Prop := (rL (rI .i64)).rep S h [v] xs

theorem take_step {α : Type} {xs ys : List α} {i : Nat} {x y : α} (ht : xs.take i = ys.take i) (hx : xs[i]? = some x) (hy : ys[i]? = some y) (h : x = y) : xs.take (i + 1) = ys.take (i + 1) := by
  rw [List.take_add_one, List.take_add_one, ht, hx, hy, h]
theorem get_of_lt {α : Type} {xs : List α} {i : Nat} (h : i < xs.length) : ∃ x, xs[i]? = some x := ⟨_, List.getElem?_eq_getElem h⟩
theorem eq_of_take {α : Type} {xs ys : List α} (hl : xs.length = ys.length) (h : xs.take xs.length = ys.take xs.length) : xs = ys := by
  rw [List.take_length, hl, List.take_length] at h; exact h

theorem SameInts_loop {h : Heap} {S S' : Nat → Prop} {a b : Value} {xs ys : List Int} (ha : Ints S h a xs) (hb : Ints S' h b ys) (hl : xs.length = ys.length) :
    ∀ (m i : Nat), xs.length - i = m → i ≤ xs.length → xs.take i = ys.take i → WP (L_trammelkit_SameInts_4 (callW E) h a b (.int .i64 i)) (Rt fun v h' => v = .bool (decide (xs = ys)) ∧ h' = h) := by
  intro m
  have hlt := rL_lt ha
  have hn := rL_len ha (P := Try.prog) slc_T_Sint
  induction m with
  | zero =>
    intro i hm hi ht
    obtain rfl : i = xs.length := by omega
    apply L_trammelkit_SameInts_4_wp
    unfold L_trammelkit_SameInts_4_b
    simp only [obnd_some, condF_true, condF_false, guardV3_true, guardV3_false, guardV3_skip, retK_ret, bin_add, bin_sub, bin_mul, bin_lss, bin_leq, bin_gtr, bin_geq, bin_eql, bin_neq, un_not, un_neg, str_eql, str_neq, ext0, ext1, ext2, ext3, pick_true, pick_false, nilck, ptrTo, Nat.zero_add, List.getElem?_cons_zero, List.getElem?_cons_succ, List.set_cons_zero, List.set_cons_succ, decide_eq_true_eq, Bool.not_true, Bool.not_false, hn, Int.lt_irrefl, decide_false]
    apply J_trammelkit_SameInts_8_wp
    unfold J_trammelkit_SameInts_8_b
    exact wp_some ⟨by simp [eq_of_take hl ht], rfl⟩
  | succ m ih =>
    intro i hm hi ht
    apply L_trammelkit_SameInts_4_wp
    unfold L_trammelkit_SameInts_4_b
    have hil : i < xs.length := by omega
    obtain ⟨x, hx⟩ := get_of_lt hil
    obtain ⟨y, hy⟩ := get_of_lt (hl ▸ hil : i < ys.length)
    obtain ⟨p, hp, hp2, _⟩ := rLI_get (P := Try.prog) (k := .i64) ha slc_T_Sint siz_T_int agg_T_int hx
    obtain ⟨q, hq, hq2, _⟩ := rLI_get (P := Try.prog) (k := .i64) hb slc_T_Sint siz_T_int agg_T_int hy
    have hd : decide ((i : Int) < (xs.length : Int)) = true := by simp; omega
    simp only [obnd_some, condF_true, condF_false, guardV3_true, guardV3_false, guardV3_skip, retK_ret, bin_add, bin_sub, bin_mul, bin_lss, bin_leq, bin_gtr, bin_geq, bin_eql, bin_neq, un_not, un_neg, str_eql, str_neq, ext0, ext1, ext2, ext3, pick_true, pick_false, nilck, ptrTo, Nat.zero_add, List.getElem?_cons_zero, List.getElem?_cons_succ, List.set_cons_zero, List.set_cons_succ, decide_eq_true_eq, Bool.not_true, Bool.not_false, hn, hd, hp, hp2, hq, hq2]
    refine wp_test ?_ ?_
    · intro hne
      refine wp_some ⟨?_, rfl⟩
      have : xs ≠ ys := by
        rintro rfl
        rw [hx] at hy
        simp only [Option.some.injEq] at hy
        simp [hy] at hne
      simp [this]
    · intro he
      have he : x = y := by simpa using he
      simp only [obnd_some, condF_true, condF_false, guardV3_true, guardV3_false, guardV3_skip, retK_ret, bin_add, bin_sub, bin_mul, bin_lss, bin_leq, bin_gtr, bin_geq, bin_eql, bin_neq, un_not, un_neg, str_eql, str_neq, ext0, ext1, ext2, ext3, pick_true, pick_false, nilck, ptrTo, Nat.zero_add, List.getElem?_cons_zero, List.getElem?_cons_succ, List.set_cons_zero, List.set_cons_succ, decide_eq_true_eq, Bool.not_true, Bool.not_false, wrap_succ (show i < 9223372036854775807 by omega)]
      exact ih (i + 1) (by omega) (by omega) (take_step ht hx hy he)
theorem SameInts_ok {h : Heap} {S S' : Nat → Prop} {a b : Value} {xs ys : List Int} (ha : Ints S h a xs) (hb : Ints S' h b ys) :
    WP (callW E fn_trammelkit_SameInts [a, b] h) (Rt fun v h' => v = .bool (decide (xs = ys)) ∧ h' = h) := by
  refine F_trammelkit_SameInts ?_
  unfold B_trammelkit_SameInts
  simp only [obnd_some, condF_true, condF_false, guardV3_true, guardV3_false, guardV3_skip, retK_ret, bin_add, bin_sub, bin_mul, bin_lss, bin_leq, bin_gtr, bin_geq, bin_eql, bin_neq, un_not, un_neg, str_eql, str_neq, ext0, ext1, ext2, ext3, pick_true, pick_false, nilck, ptrTo, Nat.zero_add, List.getElem?_cons_zero, List.getElem?_cons_succ, List.set_cons_zero, List.set_cons_succ, decide_eq_true_eq, Bool.not_true, Bool.not_false, rL_len ha (P := Try.prog) slc_T_Sint, rL_len hb (P := Try.prog) slc_T_Sint]
  refine wp_test ?_ ?_
  · intro hne
    refine wp_some ⟨?_, rfl⟩
    have : xs ≠ ys := by rintro rfl; simp at hne
    simp [this]
  · intro he
    exact SameInts_loop ha hb (by simp at he; omega) _ 0 rfl (Nat.zero_le _) (by simp)

/-! ### instructions -/
structure Ins where
  op : Int
  a : Int
  b : Int
  arms : List (Int × Int)
  deriving DecidableEq
def rArm : Rp (Int × Int) := rP (rI .i64) (rI .i64)
def rIns : Rp Ins := rM (fun x => (x.op, x.a, x.b, x.arms)) (rP (rI .u8) (rP (rI .i64) (rP (rI .i64) (rL rArm))))
theorem rArm_cells {S : Nat → Prop} {h : Heap} {cs : List Value} {x : Int × Int} (hr : rArm.rep S h cs x) : cs = [.int .i64 x.1, .int .i64 x.2] ∧ inK .i64 x.1 ∧ inK .i64 x.2 := by
  obtain ⟨c1, c2, rfl, ⟨rfl, h1⟩, ⟨rfl, h2⟩⟩ := hr
  exact ⟨rfl, h1, h2⟩
theorem rIns_cells {S : Nat → Prop} {h : Heap} {cs : List Value} {x : Ins} (hr : rIns.rep S h cs x) : ∃ v, cs = [.int .u8 x.op, .int .i64 x.a, .int .i64 x.b, v] ∧ (rL rArm).rep S h [v] x.arms ∧ inK .u8 x.op ∧ inK .i64 x.a ∧ inK .i64 x.b := by
  obtain ⟨c1, c2, rfl, ⟨rfl, h1⟩, c3, c4, rfl, ⟨rfl, h2⟩, c5, c6, rfl, ⟨rfl, h3⟩, h4⟩ := hr
  obtain ⟨v, rfl⟩ := List.length_eq_one_iff.1 ((rL rArm).len h4)
  exact ⟨v, rfl, h4, h1, h2, h3⟩
def rInsW : Rp Ins := rM (fun x => (x.op, x.a, x.b, x.arms)) (rP (rI .u8) (rP (rI .i64) (rP (rI .i64) (rLw rArm))))
theorem rInsW_to {S : Nat → Prop} {h : Heap} {cs : List Value} {x : Ins} (hr : rInsW.rep S h cs x) : rIns.rep S h cs x := by
  obtain ⟨c1, c2, rfl, h1, c3, c4, rfl, h2, c5, c6, rfl, h3, h4⟩ := hr
  obtain ⟨v, rfl⟩ := List.length_eq_one_iff.1 ((rLw rArm).len h4)
  exact ⟨c1, _, rfl, h1, c3, _, rfl, h2, c5, _, rfl, h3, rLw.toL rfl (fun _ _ h => h) h4⟩
theorem rInsW_cells {S : Nat → Prop} {h : Heap} {cs : List Value} {x : Ins} (hr : rInsW.rep S h cs x) : ∃ v, cs = [.int .u8 x.op, .int .i64 x.a, .int .i64 x.b, v] ∧ (rLw rArm).rep S h [v] x.arms ∧ inK .u8 x.op ∧ inK .i64 x.a ∧ inK .i64 x.b := by
  obtain ⟨c1, c2, rfl, ⟨rfl, h1⟩, c3, c4, rfl, ⟨rfl, h2⟩, c5, c6, rfl, ⟨rfl, h3⟩, h4⟩ := hr
  obtain ⟨v, rfl⟩ := List.length_eq_one_iff.1 ((rLw rArm).len h4)
  exact ⟨v, rfl, h4, h1, h2, h3⟩
theorem rInsW_mk {S : Nat → Prop} {h : Heap} {v : Value} {x : Ins} (h1 : inK .u8 x.op) (h2 : inK .i64 x.a) (h3 : inK .i64 x.b) (h4 : (rLw rArm).rep S h [v] x.arms) : rInsW.rep S h [.int .u8 x.op, .int .i64 x.a, .int .i64 x.b, v] x :=
  ⟨[_], _, rfl, ⟨rfl, h1⟩, [_], _, rfl, ⟨rfl, h2⟩, [_], _, rfl, ⟨rfl, h3⟩, h4⟩
theorem rIns_mk {S : Nat → Prop} {h : Heap} {v : Value} {x : Ins} (h1 : inK .u8 x.op) (h2 : inK .i64 x.a) (h3 : inK .i64 x.b) (h4 : (rL rArm).rep S h [v] x.arms) : rIns.rep S h [.int .u8 x.op, .int .i64 x.a, .int .i64 x.b, v] x :=
  ⟨[_], _, rfl, ⟨rfl, h1⟩, [_], _, rfl, ⟨rfl, h2⟩, [_], _, rfl, ⟨rfl, h3⟩, h4⟩
theorem arm_neq {a b c d : Int} {x y : Operand} : aBin Try.prog .neq T_api_Arm (.agg ⟨[.int .i64 a, .int .i64 b]⟩) (.agg ⟨[.int .i64 c, .int .i64 d]⟩) x y = some (.bool (!(decide (a = c) && decide (b = d)))) := by
  refine agg_neq rfl rfl (by kernel_rfl) ?_
  unfold Op.equal Op.maxDepth
  rw [eq_struct un_T_api_Arm (by kernel_rfl)]
  have p0 : ∀ u v : Int, pureRun Try.prog (part T_int64 ⟨[.int .i64 u, .int .i64 v]⟩ 0) = some (.int .i64 u) := fun u v => by kernel_rfl
  have p1 : ∀ u v : Int, pureRun Try.prog (part T_int ⟨[.int .i64 u, .int .i64 v]⟩ 1) = some (.int .i64 v) := fun u v => by kernel_rfl
  simp only [eqPF, p0, p1, Option.bind_some, eq_int un_T_int64, eq_int un_T_int]
  cases decide (a = c) <;> cases decide (b = d) <;> rfl
theorem arms_loop {h : Heap} {S S' : Nat → Prop} {e : TypeId} {i j : Nat} {c1 c2 c3 d1 d2 d3 a b : Value} {xs ys : List (Int × Int)} (hi : h[i]? = some ⟨.cells e [c1, c2, c3, a], true⟩) (hj : h[j]? = some ⟨.cells e [d1, d2, d3, b], true⟩)
    (ha : (rL rArm).rep S h [a] xs) (hb : (rL rArm).rep S' h [b] ys) (hl : xs.length = ys.length) :
    ∀ (m n : Nat), xs.length - n = m → n ≤ xs.length → xs.take n = ys.take n → WP (L_trammelkit_SameInstr_4 (callW E) h (.pointer (some ⟨i, 0, none⟩)) (.pointer (some ⟨j, 0, none⟩)) (.int .i64 n)) (Rt fun v h' => v = .bool (decide (xs = ys)) ∧ h' = h) := by
  intro m
  have hlt := rL_lt ha
  have hn := rL_len ha (P := Try.prog) slc_T_Sapi_Arm
  induction m with
  | zero =>
    intro n hm hn2 ht
    obtain rfl : n = xs.length := by omega
    apply L_trammelkit_SameInstr_4_wp
    unfold L_trammelkit_SameInstr_4_b
    simp only [obnd_some, condF_true, condF_false, guardV3_true, guardV3_false, guardV3_skip, retK_ret, bin_add, bin_sub, bin_mul, bin_lss, bin_leq, bin_gtr, bin_geq, bin_eql, bin_neq, un_not, un_neg, str_eql, str_neq, ext0, ext1, ext2, ext3, pick_true, pick_false, nilck, ptrTo, Nat.zero_add, List.getElem?_cons_zero, List.getElem?_cons_succ, List.set_cons_zero, List.set_cons_succ, decide_eq_true_eq, Bool.not_true, Bool.not_false, fa_T_api_Instr_3, ld1 hi agg_T_Sapi_Arm, hn, Int.lt_irrefl, decide_false]
    apply J_trammelkit_SameInstr_8_wp
    unfold J_trammelkit_SameInstr_8_b
    exact wp_some ⟨by simp [eq_of_take hl ht], rfl⟩
  | succ m ih =>
    intro n hm hn2 ht
    apply L_trammelkit_SameInstr_4_wp
    unfold L_trammelkit_SameInstr_4_b
    have hil : n < xs.length := by omega
    obtain ⟨x, hx⟩ := get_of_lt hil
    obtain ⟨y, hy⟩ := get_of_lt (hl ▸ hil : n < ys.length)
    obtain ⟨p, cs, hp, hp2, hp3⟩ := rL_getG (P := Try.prog) (k := .i64) ha slc_T_Sapi_Arm siz_T_api_Arm agg_T_api_Arm hx
    obtain ⟨q, ds, hq, hq2, hq3⟩ := rL_getG (P := Try.prog) (k := .i64) hb slc_T_Sapi_Arm siz_T_api_Arm agg_T_api_Arm hy
    obtain ⟨rfl, _, _⟩ := rArm_cells hp3
    obtain ⟨rfl, _, _⟩ := rArm_cells hq3
    have hd : decide ((n : Int) < (xs.length : Int)) = true := by simp; omega
    simp only [obnd_some, condF_true, condF_false, guardV3_true, guardV3_false, guardV3_skip, retK_ret, bin_add, bin_sub, bin_mul, bin_lss, bin_leq, bin_gtr, bin_geq, bin_eql, bin_neq, un_not, un_neg, str_eql, str_neq, ext0, ext1, ext2, ext3, pick_true, pick_false, nilck, ptrTo, Nat.zero_add, List.getElem?_cons_zero, List.getElem?_cons_succ, List.set_cons_zero, List.set_cons_succ, decide_eq_true_eq, Bool.not_true, Bool.not_false, fa_T_api_Instr_3, ld1 hi agg_T_Sapi_Arm, ld1 hj agg_T_Sapi_Arm, hn, hd, hp, hp2, hq, hq2, arm_neq]
    refine wp_test ?_ ?_
    · intro hne
      refine wp_some ⟨?_, rfl⟩
      have : xs ≠ ys := by
        rintro rfl
        rw [hx] at hy
        simp only [Option.some.injEq] at hy
        simp [hy] at hne
      simp [this]
    · intro he
      have he : x = y := by
        simp at he
        exact Prod.ext he.1 he.2
      simp only [obnd_some, condF_true, condF_false, guardV3_true, guardV3_false, guardV3_skip, retK_ret, bin_add, bin_sub, bin_mul, bin_lss, bin_leq, bin_gtr, bin_geq, bin_eql, bin_neq, un_not, un_neg, str_eql, str_neq, ext0, ext1, ext2, ext3, pick_true, pick_false, nilck, ptrTo, Nat.zero_add, List.getElem?_cons_zero, List.getElem?_cons_succ, List.set_cons_zero, List.set_cons_succ, decide_eq_true_eq, Bool.not_true, Bool.not_false, wrap_succ (show n < 9223372036854775807 by omega)]
      exact ih (n + 1) (by omega) (by omega) (take_step ht hx hy he)
theorem SameInstr_ok {h : Heap} {S S' : Nat → Prop} {cs ds : List Value} {x y : Ins} (hx : rIns.rep S h cs x) (hy : rIns.rep S' h ds y) :
    WP (callW E fn_trammelkit_SameInstr [.agg ⟨cs⟩, .agg ⟨ds⟩] h) (Rt fun v h' => v = .bool (decide (x = y)) ∧ Keep [] h h') := by
  refine F_trammelkit_SameInstr ?_
  unfold B_trammelkit_SameInstr
  obtain ⟨va, rfl, ha, _⟩ := rIns_cells hx
  obtain ⟨vb, rfl, hb, _⟩ := rIns_cells hy
  refine wp_new (X := newBlk T_api_Instr _) rfl fun h1 k1 g1 l1 => ?_
  refine wp_new (X := newBlk T_api_Instr _) rfl fun h2 k2 g2 l2 => ?_
  have g1' := k2.get g1 (by simp)
  have ha' := (rL rArm).keep0 ((rL rArm).keep0 ha k1) k2
  have hb' := (rL rArm).keep0 ((rL rArm).keep0 hb k1) k2
  have kk := k1.trans k2
  have fin : ∀ c : Bool, (c = true → x ≠ y) → (c = false → x.op = y.op ∧ x.a = y.a ∧ x.b = y.b ∧ x.arms.length = y.arms.length) → WP (J_trammelkit_SameInstr_1000003 (callW E) h2 (.pointer (some ⟨h.length, 0, none⟩)) (.pointer (some ⟨h1.length, 0, none⟩)) (.bool c)) (Rt fun v h' => v = .bool (decide (x = y)) ∧ Keep [] h h') := by
    intro c h1 h2
    apply J_trammelkit_SameInstr_1000003_wp
    unfold J_trammelkit_SameInstr_1000003_b
    refine wp_test ?_ ?_
    · intro hc
      exact wp_some ⟨by simp [h1 hc], kk⟩
    · intro hc
      obtain ⟨e1, e2, e3, e4⟩ := h2 hc
      refine wp_rt (arms_loop g1' g2 ha' hb' e4 _ 0 rfl (Nat.zero_le _) (by simp)) ?_
      rintro v h' ⟨rfl, rfl⟩
      refine ⟨?_, kk⟩
      have : (x = y) ↔ (x.arms = y.arms) := ⟨fun e => e ▸ rfl, fun e => by cases x; cases y; simp_all⟩
      simp [this]
  simp only [obnd_some, condF_true, condF_false, guardV3_true, guardV3_false, guardV3_skip, retK_ret, bin_add, bin_sub, bin_mul, bin_lss, bin_leq, bin_gtr, bin_geq, bin_eql, bin_neq, un_not, un_neg, str_eql, str_neq, ext0, ext1, ext2, ext3, pick_true, pick_false, nilck, ptrTo, Nat.zero_add, List.getElem?_cons_zero, List.getElem?_cons_succ, List.set_cons_zero, List.set_cons_succ, decide_eq_true_eq, Bool.not_true, Bool.not_false, fa_T_api_Instr_0, fa_T_api_Instr_1, fa_T_api_Instr_2, fa_T_api_Instr_3, ld1 g1' agg_T_uint8, ld1 g2 agg_T_uint8, ld1 g1' agg_T_int64, ld1 g2 agg_T_int64, ld1 g1' agg_T_Sapi_Arm, ld1 g2 agg_T_Sapi_Arm, rL_len ha' (P := Try.prog) slc_T_Sapi_Arm, rL_len hb' (P := Try.prog) slc_T_Sapi_Arm]
  refine wp_guard (fun hc => fin true (fun _ e => ?_) (fun hc => by simp at hc)) fun hc1 => ?_
  · simp [e] at hc
  try simp only [obnd_some, condF_true, condF_false, guardV3_true, guardV3_false, guardV3_skip, retK_ret, bin_add, bin_sub, bin_mul, bin_lss, bin_leq, bin_gtr, bin_geq, bin_eql, bin_neq, un_not, un_neg, str_eql, str_neq, ext0, ext1, ext2, ext3, pick_true, pick_false, nilck, ptrTo, Nat.zero_add, List.getElem?_cons_zero, List.getElem?_cons_succ, List.set_cons_zero, List.set_cons_succ, decide_eq_true_eq, Bool.not_true, Bool.not_false]
  refine wp_guard (fun hc => fin true (fun _ e => ?_) (fun hc => by simp at hc)) fun hc2 => ?_
  · simp [e] at hc
  try simp only [obnd_some, condF_true, condF_false, guardV3_true, guardV3_false, guardV3_skip, retK_ret, bin_add, bin_sub, bin_mul, bin_lss, bin_leq, bin_gtr, bin_geq, bin_eql, bin_neq, un_not, un_neg, str_eql, str_neq, ext0, ext1, ext2, ext3, pick_true, pick_false, nilck, ptrTo, Nat.zero_add, List.getElem?_cons_zero, List.getElem?_cons_succ, List.set_cons_zero, List.set_cons_succ, decide_eq_true_eq, Bool.not_true, Bool.not_false]
  refine wp_guard (fun hc => fin true (fun _ e => ?_) (fun hc => by simp at hc)) fun hc3 => ?_
  · simp [e] at hc
  try simp only [obnd_some, condF_true, condF_false, guardV3_true, guardV3_false, guardV3_skip, retK_ret, bin_add, bin_sub, bin_mul, bin_lss, bin_leq, bin_gtr, bin_geq, bin_eql, bin_neq, un_not, un_neg, str_eql, str_neq, ext0, ext1, ext2, ext3, pick_true, pick_false, nilck, ptrTo, Nat.zero_add, List.getElem?_cons_zero, List.getElem?_cons_succ, List.set_cons_zero, List.set_cons_succ, decide_eq_true_eq, Bool.not_true, Bool.not_false]
  refine fin _ (fun hc e => ?_) fun hc => ?_
  · simp [e] at hc
  · simp at hc1 hc2 hc3 hc
    exact ⟨hc1, hc2, hc3, by omega⟩
end Go.Proofs.Ytmdffenlehcekaa

namespace Go.Proofs.Ytmdffenlehcekaa
open Go Go.Am

theorem SameInstrs_loop {S S' : Nat → Prop} {a b : Value} {xs ys : List Ins} {h0 : Heap} (hl : xs.length = ys.length) :
    ∀ (m n : Nat) (h : Heap), (rL rIns).rep S h [a] xs → (rL rIns).rep S' h [b] ys → Keep [] h0 h → xs.length - n = m → n ≤ xs.length → xs.take n = ys.take n →
      WP (L_trammelkit_SameInstrs_4 (callW E) h a b (.int .i64 n)) (Rt fun v h' => v = .bool (decide (xs = ys)) ∧ Keep [] h0 h') := by
  intro m
  induction m with
  | zero =>
    intro n h ha hb hk hm hn2 ht
    have hn := rL_len ha (P := Try.prog) slc_T_Sapi_Instr
    obtain rfl : n = xs.length := by omega
    apply L_trammelkit_SameInstrs_4_wp
    unfold L_trammelkit_SameInstrs_4_b
    simp only [obnd_some, condF_true, condF_false, guardV3_true, guardV3_false, guardV3_skip, retK_ret, bin_add, bin_sub, bin_mul, bin_lss, bin_leq, bin_gtr, bin_geq, bin_eql, bin_neq, un_not, un_neg, str_eql, str_neq, ext0, ext1, ext2, ext3, pick_true, pick_false, nilck, ptrTo, Nat.zero_add, List.getElem?_cons_zero, List.getElem?_cons_succ, List.set_cons_zero, List.set_cons_succ, decide_eq_true_eq, Bool.not_true, Bool.not_false, hn, Int.lt_irrefl, decide_false]
    apply J_trammelkit_SameInstrs_8_wp
    unfold J_trammelkit_SameInstrs_8_b
    exact wp_some ⟨by simp [eq_of_take hl ht], hk⟩
  | succ m ih =>
    intro n h ha hb hk hm hn2 ht
    have hlt := rL_lt ha
    have hn := rL_len ha (P := Try.prog) slc_T_Sapi_Instr
    apply L_trammelkit_SameInstrs_4_wp
    unfold L_trammelkit_SameInstrs_4_b
    have hil : n < xs.length := by omega
    obtain ⟨x, hx⟩ := get_of_lt hil
    obtain ⟨y, hy⟩ := get_of_lt (hl ▸ hil : n < ys.length)
    obtain ⟨p, cs, hp, hp2, hp3⟩ := rL_getG (P := Try.prog) (k := .i64) ha slc_T_Sapi_Instr siz_T_api_Instr agg_T_api_Instr hx
    obtain ⟨q, ds, hq, hq2, hq3⟩ := rL_getG (P := Try.prog) (k := .i64) hb slc_T_Sapi_Instr siz_T_api_Instr agg_T_api_Instr hy
    have hd : decide ((n : Int) < (xs.length : Int)) = true := by simp; omega
    simp only [obnd_some, condF_true, condF_false, guardV3_true, guardV3_false, guardV3_skip, retK_ret, bin_add, bin_sub, bin_mul, bin_lss, bin_leq, bin_gtr, bin_geq, bin_eql, bin_neq, un_not, un_neg, str_eql, str_neq, ext0, ext1, ext2, ext3, pick_true, pick_false, nilck, ptrTo, Nat.zero_add, List.getElem?_cons_zero, List.getElem?_cons_succ, List.set_cons_zero, List.set_cons_succ, decide_eq_true_eq, Bool.not_true, Bool.not_false, hn, hd, hp, hp2, hq, hq2]
    refine wp_retK (SameInstr_ok hp3 hq3) ?_
    rintro v h1 ⟨rfl, k1⟩
    simp only [obnd_some, condF_true, condF_false, guardV3_true, guardV3_false, guardV3_skip, retK_ret, bin_add, bin_sub, bin_mul, bin_lss, bin_leq, bin_gtr, bin_geq, bin_eql, bin_neq, un_not, un_neg, str_eql, str_neq, ext0, ext1, ext2, ext3, pick_true, pick_false, nilck, ptrTo, Nat.zero_add, List.getElem?_cons_zero, List.getElem?_cons_succ, List.set_cons_zero, List.set_cons_succ, decide_eq_true_eq, Bool.not_true, Bool.not_false]
    refine wp_test ?_ ?_
    · intro hne
      refine wp_some ⟨?_, hk.trans k1⟩
      have : xs ≠ ys := by
        rintro rfl
        rw [hx] at hy
        simp only [Option.some.injEq] at hy
        simp [hy] at hne
      simp [this]
    · intro he
      have he : x = y := by simpa using he
      simp only [obnd_some, condF_true, condF_false, guardV3_true, guardV3_false, guardV3_skip, retK_ret, bin_add, bin_sub, bin_mul, bin_lss, bin_leq, bin_gtr, bin_geq, bin_eql, bin_neq, un_not, un_neg, str_eql, str_neq, ext0, ext1, ext2, ext3, pick_true, pick_false, nilck, ptrTo, Nat.zero_add, List.getElem?_cons_zero, List.getElem?_cons_succ, List.set_cons_zero, List.set_cons_succ, decide_eq_true_eq, Bool.not_true, Bool.not_false, wrap_succ (show n < 9223372036854775807 by omega)]
      exact ih (n + 1) h1 ((rL rIns).keep0 ha k1) ((rL rIns).keep0 hb k1) (hk.trans k1) (by omega) (by omega) (take_step ht hx hy he)
theorem SameInstrs_ok {h : Heap} {S S' : Nat → Prop} {a b : Value} {xs ys : List Ins} (ha : (rL rIns).rep S h [a] xs) (hb : (rL rIns).rep S' h [b] ys) :
    WP (callW E fn_trammelkit_SameInstrs [a, b] h) (Rt fun v h' => v = .bool (decide (xs = ys)) ∧ Keep [] h h') := by
  refine F_trammelkit_SameInstrs ?_
  unfold B_trammelkit_SameInstrs
  simp only [obnd_some, condF_true, condF_false, guardV3_true, guardV3_false, guardV3_skip, retK_ret, bin_add, bin_sub, bin_mul, bin_lss, bin_leq, bin_gtr, bin_geq, bin_eql, bin_neq, un_not, un_neg, str_eql, str_neq, ext0, ext1, ext2, ext3, pick_true, pick_false, nilck, ptrTo, Nat.zero_add, List.getElem?_cons_zero, List.getElem?_cons_succ, List.set_cons_zero, List.set_cons_succ, decide_eq_true_eq, Bool.not_true, Bool.not_false, rL_len ha (P := Try.prog) slc_T_Sapi_Instr, rL_len hb (P := Try.prog) slc_T_Sapi_Instr]
  refine wp_test ?_ ?_
  · intro hne
    refine wp_some ⟨?_, Keep.refl _ _⟩
    have : xs ≠ ys := by rintro rfl; simp at hne
    simp [this]
  · intro he
    exact SameInstrs_loop (by simp at he; omega) _ 0 h ha hb (Keep.refl _ _) rfl (Nat.zero_le _) (by simp)

/-! ### codes that are lent -/
def LentB (S : Nat → Prop) (h : Heap) (v : Value) (bs : List UInt8) : Prop :=
  bs.length < 1152921504606846976 ∧ ∃ b c e rest, v = .slice (some ⟨b, 0, none⟩) bs.length c ∧ bs.length + 1 ≤ kcap c ∧ S b ∧ h[b]? = some ⟨.cells e (bs.map byteV ++ .int .u8 77 :: rest), true⟩
theorem LentB.rep {S : Nat → Prop} {h : Heap} {v : Value} {bs : List UInt8} (hl : LentB S h v bs) : rBy.rep S h [v] bs := by
  obtain ⟨h0, b, c, e, rest, rfl, hc, hs, hb⟩ := hl
  refine rBy_mk ⟨by simp, by omega, by omega, .inr ⟨b, 0, e, _, true, rfl, hs, hb, ?_⟩⟩
  rw [List.drop_zero, List.take_left' (by simp)]
theorem LentB.go {S S' : Nat → Prop} {h h' : Heap} {v : Value} {bs : List UInt8} {M : List Nat} (hl : LentB S h v bs) (hk : Keep M h h') (hm : ∀ b, S b → b < h.length → b ∉ M ∧ S' b) : LentB S' h' v bs := by
  obtain ⟨h0, b, c, e, rest, rfl, hc, hs, hb⟩ := hl
  have := hm b hs (get_lt hb)
  exact ⟨h0, b, c, e, rest, rfl, hc, this.2, hk.get hb this.1⟩
theorem LentCode_ok {h : Heap} {S : Nat → Prop} {a : Value} {bs : List UInt8} (ha : rBy.rep S h [a] bs) (hl : bs.length ≤ 35184372088832) :
    WP (callW E fn_trammelkit_LentCode [a] h) (Rt fun v h' => LentB (fun b => h.length ≤ b) h' v bs ∧ Keep [] h h') := by
  refine F_trammelkit_LentCode ?_
  unfold B_trammelkit_LentCode
  refine wp_app (OwnL.nil h T_uint8 1) slc_T_Suint8 inf_T_uint8 nin_T_Suint8 zer_T_uint8 rfl rfl (by omega) (src_rBy ha) (by simp) (by omega) (by omega) (by omega) fun v1 h1 o1 k1 b1 => ?_
  have k1' : Keep [] h h1 := k1.mono (by simp [blks, blkOf])
  refine wp_new (X := newBlk T_uint8 [.int .u8 77]) (f := sliceTo 1 1) (by kernel_rfl) fun h2 k2 g2 l2 => ?_
  dsimp only at k2 g2 l2
  have ha2 := rBy.keep0 (rBy.keep0 ha k1') k2
  refine wp_app (o1.go k2 (by simp)) slc_T_Suint8 inf_T_uint8 nin_T_Suint8 zer_T_uint8 rfl rfl (by omega) (src_lit (n := 1) g2 rfl) rfl (by omega) (by omega) (by omega) fun v3 h3 o3 k3 b3 => ?_
  have hlen := rBy_len ha (P := Try.prog) slc_T_Suint8
  obtain ⟨c1, c2, c3⟩ := o3
  have hbl : ∀ b, b ∈ blks v1 → h.length ≤ b := fun b hb => by
    rcases b1 b hb with hb | hb
    · simp [blks, blkOf] at hb
    · exact hb
  rcases c3 with ⟨rfl, hn⟩ | ⟨b, c, spare, rfl, hb, hc, hsp, hfl⟩
  · omega
  · simp only [obnd_some, condF_true, condF_false, guardV3_true, guardV3_false, guardV3_skip, retK_ret, bin_add, bin_sub, bin_mul, bin_lss, bin_leq, bin_gtr, bin_geq, bin_eql, bin_neq, un_not, un_neg, str_eql, str_neq, ext0, ext1, ext2, ext3, pick_true, pick_false, nilck, ptrTo, Nat.zero_add, List.getElem?_cons_zero, List.getElem?_cons_succ, List.set_cons_zero, List.set_cons_succ, decide_eq_true_eq, Bool.not_true, Bool.not_false, hlen, slc_to (P := Try.prog) (e := T_uint8) (sz := 1) slc_T_Suint8 siz_T_uint8 (show bs.length ≤ kcap c by omega) (.inr ⟨_, _, rfl⟩)]
    refine wp_some ⟨⟨by omega, b, c, _, spare, rfl, by omega, ?_, by simpa using hb⟩, ?_⟩
    · rcases b3 b (by simp [blks, blkOf]) with hb | hb
      · exact hbl _ hb
      · have := k1'.len; omega
    · exact (k1'.trans k2).trans_new k3 fun i hi => .inr (hbl i hi)
theorem bytes_beq (bs : List UInt8) : ((⟨⟨bs⟩⟩ : ByteArray).toList == (⟨⟨bs⟩⟩ : ByteArray).toList) = true := by simp
theorem KeptCode_ok {h : Heap} {S S' : Nat → Prop} {a b : Value} {bs : List UInt8} (ha : LentB S h a bs) (hb : rBy.rep S' h [b] bs) :
    WP (callW E fn_trammelkit_KeptCode [a, b] h) (Rt fun v h' => v = .bool true ∧ h' = h) := by
  refine F_trammelkit_KeptCode ?_
  unfold B_trammelkit_KeptCode
  have hlt := ha.1
  have hlen := rBy_len hb (P := Try.prog) slc_T_Suint8
  have s1 := rBy_str (P := Try.prog) ha.rep strT slc_T_Suint8 un_T_uint8
  have s2 := rBy_str (P := Try.prog) hb strT slc_T_Suint8 un_T_uint8
  obtain ⟨h0, c, cc, e, rest, rfl, hc, hs, hblk⟩ := ha
  have hsl : SlA S h (some ⟨c, 0, none⟩) (bs.length + 1) cc 1 (bs.map byteV ++ [.int .u8 77]) := by
    refine ⟨by simp, by omega, hc, .inr ⟨c, 0, e, _, true, rfl, hs, hblk, ?_⟩⟩
    rw [List.drop_zero, show bs.map byteV ++ Value.int .u8 77 :: rest = (bs.map byteV ++ [Value.int .u8 77]) ++ rest by simp, List.take_left' (by simp)]
  simp only [obnd_some, condF_true, condF_false, guardV3_true, guardV3_false, guardV3_skip, retK_ret, bin_add, bin_sub, bin_mul, bin_lss, bin_leq, bin_gtr, bin_geq, bin_eql, bin_neq, un_not, un_neg, str_eql, str_neq, ext0, ext1, ext2, ext3, pick_true, pick_false, nilck, ptrTo, Nat.zero_add, List.getElem?_cons_zero, List.getElem?_cons_succ, List.set_cons_zero, List.set_cons_succ, decide_eq_true_eq, Bool.not_true, Bool.not_false, s1, s2, bytes_beq, hlen, wrap_succ (show bs.length < 9223372036854775807 by omega), slc_to (P := Try.prog) (e := T_uint8) (sz := 1) slc_T_Suint8 siz_T_uint8 hc (.inr ⟨_, _, rfl⟩),
    hsl.idx (P := Try.prog) slc_T_Suint8 siz_T_uint8 (k := .i64) (i := (bs.length : Int)) (by omega) (by omega), Int.toNat_natCast, Nat.mul_one,
    hsl.load (P := Try.prog) agg_T_uint8 (j := bs.length) (v := .int .u8 77) (by simp)]
  exact wp_some ⟨rfl, rfl⟩
end Go.Proofs.Ytmdffenlehcekaa

namespace Go.Proofs.Ytmdffenlehcekaa
open Go Go.Am

def bitsS (w : Int) : Int := if w = 1 then 8 else if w = 2 then 32 else if w = 3 then 64 else 0
def wrapS (w n : Int) : Int := if w = 1 then IntKind.i8.wrap n else if w = 2 then IntKind.i32.wrap n else if w = 3 then n else 0
def fitsS (w n : Int) : Bool := decide (bitsS w > 0) && (wrapS w n == n)
theorem word_Bits_ok {h : Heap} {w : Int} : WP (callW E fn_word_Bits [.int .u8 w] h) (Rt fun v h' => v = .int .i64 (bitsS w) ∧ h' = h) := by
  refine F_word_Bits ?_
  unfold B_word_Bits bitsS
  simp only [obnd_some, condF_true, condF_false, guardV3_true, guardV3_false, guardV3_skip, retK_ret, bin_add, bin_sub, bin_mul, bin_lss, bin_leq, bin_gtr, bin_geq, bin_eql, bin_neq, un_not, un_neg, str_eql, str_neq, ext0, ext1, ext2, ext3, pick_true, pick_false, nilck, ptrTo, Nat.zero_add, List.getElem?_cons_zero, List.getElem?_cons_succ, List.set_cons_zero, List.set_cons_succ, decide_eq_true_eq, Bool.not_true, Bool.not_false]
  by_cases h1 : w = 1
  · simp only [h1, beq_self_eq_true, obnd_some, condF_true, condF_false, guardV3_true, guardV3_false, guardV3_skip, retK_ret, bin_add, bin_sub, bin_mul, bin_lss, bin_leq, bin_gtr, bin_geq, bin_eql, bin_neq, un_not, un_neg, str_eql, str_neq, ext0, ext1, ext2, ext3, pick_true, pick_false, nilck, ptrTo, Nat.zero_add, List.getElem?_cons_zero, List.getElem?_cons_succ, List.set_cons_zero, List.set_cons_succ, decide_eq_true_eq, Bool.not_true, Bool.not_false, if_true]
    exact wp_some ⟨rfl, rfl⟩
  by_cases h2 : w = 2
  · subst h2
    exact wp_some ⟨rfl, rfl⟩
  by_cases h3 : w = 3
  · subst h3
    exact wp_some ⟨rfl, rfl⟩
  simp only [beq_eq_false_iff_ne.2 h1, beq_eq_false_iff_ne.2 h2, beq_eq_false_iff_ne.2 h3, obnd_some, condF_true, condF_false, guardV3_true, guardV3_false, guardV3_skip, retK_ret, bin_add, bin_sub, bin_mul, bin_lss, bin_leq, bin_gtr, bin_geq, bin_eql, bin_neq, un_not, un_neg, str_eql, str_neq, ext0, ext1, ext2, ext3, pick_true, pick_false, nilck, ptrTo, Nat.zero_add, List.getElem?_cons_zero, List.getElem?_cons_succ, List.set_cons_zero, List.set_cons_succ, decide_eq_true_eq, Bool.not_true, Bool.not_false, h1, h2, h3, if_false]
  exact wp_some ⟨rfl, rfl⟩
theorem ref02_Bits_ok {h : Heap} {w : Int} : WP (callW E fn_trammelref02_Bits [.int .u8 w] h) (Rt fun v h' => v = .int .i64 (bitsS w) ∧ h' = h) := by
  refine F_trammelref02_Bits ?_
  unfold B_trammelref02_Bits bitsS
  simp only [obnd_some, condF_true, condF_false, guardV3_true, guardV3_false, guardV3_skip, retK_ret, bin_add, bin_sub, bin_mul, bin_lss, bin_leq, bin_gtr, bin_geq, bin_eql, bin_neq, un_not, un_neg, str_eql, str_neq, ext0, ext1, ext2, ext3, pick_true, pick_false, nilck, ptrTo, Nat.zero_add, List.getElem?_cons_zero, List.getElem?_cons_succ, List.set_cons_zero, List.set_cons_succ, decide_eq_true_eq, Bool.not_true, Bool.not_false]
  by_cases h1 : w = 1
  · simp only [h1, beq_self_eq_true, obnd_some, condF_true, condF_false, guardV3_true, guardV3_false, guardV3_skip, retK_ret, bin_add, bin_sub, bin_mul, bin_lss, bin_leq, bin_gtr, bin_geq, bin_eql, bin_neq, un_not, un_neg, str_eql, str_neq, ext0, ext1, ext2, ext3, pick_true, pick_false, nilck, ptrTo, Nat.zero_add, List.getElem?_cons_zero, List.getElem?_cons_succ, List.set_cons_zero, List.set_cons_succ, decide_eq_true_eq, Bool.not_true, Bool.not_false, if_true]
    exact wp_some ⟨rfl, rfl⟩
  by_cases h2 : w = 2
  · subst h2
    exact wp_some ⟨rfl, rfl⟩
  by_cases h3 : w = 3
  · subst h3
    exact wp_some ⟨rfl, rfl⟩
  simp only [beq_eq_false_iff_ne.2 h1, beq_eq_false_iff_ne.2 h2, beq_eq_false_iff_ne.2 h3, obnd_some, condF_true, condF_false, guardV3_true, guardV3_false, guardV3_skip, retK_ret, bin_add, bin_sub, bin_mul, bin_lss, bin_leq, bin_gtr, bin_geq, bin_eql, bin_neq, un_not, un_neg, str_eql, str_neq, ext0, ext1, ext2, ext3, pick_true, pick_false, nilck, ptrTo, Nat.zero_add, List.getElem?_cons_zero, List.getElem?_cons_succ, List.set_cons_zero, List.set_cons_succ, decide_eq_true_eq, Bool.not_true, Bool.not_false, h1, h2, h3, if_false]
  exact wp_some ⟨rfl, rfl⟩
theorem wrap8 (n : Int) : IntKind.i64.wrap (IntKind.i8.wrap n) = IntKind.i8.wrap n := wrap_id (by rw [w8]; simp only [inK]; split <;> omega)
theorem wrap32 (n : Int) : IntKind.i64.wrap (IntKind.i32.wrap n) = IntKind.i32.wrap n := wrap_id (by rw [w32]; simp only [inK]; split <;> omega)
theorem word_Wrap_ok {h : Heap} {w n : Int} : WP (callW E fn_word_Wrap [.int .u8 w, .int .i64 n] h) (Rt fun v h' => v = .int .i64 (wrapS w n) ∧ h' = h) := by
  refine F_word_Wrap ?_
  unfold B_word_Wrap wrapS
  simp only [obnd_some, condF_true, condF_false, guardV3_true, guardV3_false, guardV3_skip, retK_ret, bin_add, bin_sub, bin_mul, bin_lss, bin_leq, bin_gtr, bin_geq, bin_eql, bin_neq, un_not, un_neg, str_eql, str_neq, ext0, ext1, ext2, ext3, pick_true, pick_false, nilck, ptrTo, Nat.zero_add, List.getElem?_cons_zero, List.getElem?_cons_succ, List.set_cons_zero, List.set_cons_succ, decide_eq_true_eq, Bool.not_true, Bool.not_false]
  by_cases h1 : w = 1
  · simp only [h1, beq_self_eq_true, obnd_some, condF_true, condF_false, guardV3_true, guardV3_false, guardV3_skip, retK_ret, bin_add, bin_sub, bin_mul, bin_lss, bin_leq, bin_gtr, bin_geq, bin_eql, bin_neq, un_not, un_neg, str_eql, str_neq, ext0, ext1, ext2, ext3, pick_true, pick_false, nilck, ptrTo, Nat.zero_add, List.getElem?_cons_zero, List.getElem?_cons_succ, List.set_cons_zero, List.set_cons_succ, decide_eq_true_eq, Bool.not_true, Bool.not_false, if_true, cv_T_int64_T_int8, cv_T_int8_T_int64, wrap8]
    exact wp_some ⟨rfl, rfl⟩
  by_cases h2 : w = 2
  · simp only [h2, show ((2 : Int) == 1) = false from rfl, beq_self_eq_true, obnd_some, condF_true, condF_false, guardV3_true, guardV3_false, guardV3_skip, retK_ret, bin_add, bin_sub, bin_mul, bin_lss, bin_leq, bin_gtr, bin_geq, bin_eql, bin_neq, un_not, un_neg, str_eql, str_neq, ext0, ext1, ext2, ext3, pick_true, pick_false, nilck, ptrTo, Nat.zero_add, List.getElem?_cons_zero, List.getElem?_cons_succ, List.set_cons_zero, List.set_cons_succ, decide_eq_true_eq, Bool.not_true, Bool.not_false, if_true, cv_T_int64_T_int32, cv_T_int32_T_int64, wrap32]
    exact wp_some ⟨rfl, rfl⟩
  by_cases h3 : w = 3
  · subst h3
    exact wp_some ⟨rfl, rfl⟩
  simp only [beq_eq_false_iff_ne.2 h1, beq_eq_false_iff_ne.2 h2, beq_eq_false_iff_ne.2 h3, obnd_some, condF_true, condF_false, guardV3_true, guardV3_false, guardV3_skip, retK_ret, bin_add, bin_sub, bin_mul, bin_lss, bin_leq, bin_gtr, bin_geq, bin_eql, bin_neq, un_not, un_neg, str_eql, str_neq, ext0, ext1, ext2, ext3, pick_true, pick_false, nilck, ptrTo, Nat.zero_add, List.getElem?_cons_zero, List.getElem?_cons_succ, List.set_cons_zero, List.set_cons_succ, decide_eq_true_eq, Bool.not_true, Bool.not_false, h1, h2, h3, if_false]
  exact wp_some ⟨rfl, rfl⟩
theorem word_Fits_ok {h : Heap} {w n : Int} : WP (callW E fn_word_Fits [.int .u8 w, .int .i64 n] h) (Rt fun v h' => v = .bool (fitsS w n) ∧ h' = h) := by
  refine F_word_Fits ?_
  unfold B_word_Fits fitsS
  refine wp_retK word_Bits_ok ?_
  rintro v h1 ⟨rfl, rfl⟩
  simp only [obnd_some, condF_true, condF_false, guardV3_true, guardV3_false, guardV3_skip, retK_ret, bin_add, bin_sub, bin_mul, bin_lss, bin_leq, bin_gtr, bin_geq, bin_eql, bin_neq, un_not, un_neg, str_eql, str_neq, ext0, ext1, ext2, ext3, pick_true, pick_false, nilck, ptrTo, Nat.zero_add, List.getElem?_cons_zero, List.getElem?_cons_succ, List.set_cons_zero, List.set_cons_succ, decide_eq_true_eq, Bool.not_true, Bool.not_false]
  refine wp_guard (fun hc => ?_) fun hc => ?_
  · refine wp_retK word_Wrap_ok ?_
    rintro v h1 ⟨rfl, rfl⟩
    simp only [obnd_some, condF_true, condF_false, guardV3_true, guardV3_false, guardV3_skip, retK_ret, bin_add, bin_sub, bin_mul, bin_lss, bin_leq, bin_gtr, bin_geq, bin_eql, bin_neq, un_not, un_neg, str_eql, str_neq, ext0, ext1, ext2, ext3, pick_true, pick_false, nilck, ptrTo, Nat.zero_add, List.getElem?_cons_zero, List.getElem?_cons_succ, List.set_cons_zero, List.set_cons_succ, decide_eq_true_eq, Bool.not_true, Bool.not_false]
    exact wp_some ⟨by rw [hc, Bool.true_and], rfl⟩
  · exact wp_some ⟨by rw [hc, Bool.false_and], rfl⟩

/-! ### Wide -/
theorem Wide_loop {h : Heap} {S : Nat → Prop} {a : Value} {bs : List UInt8} {at_ size : Nat} (ha : rBy.rep S h [a] bs) (hs : size ≤ 8) (hl : at_ + size ≤ bs.length) :
    ∀ (m i : Nat), size - i = m → i ≤ size → WP (L_wire_Wide_10 (callW E) h a (.int .i64 at_) (.int .i64 size) (.int .u64 (leN ((bs.drop at_).take i))) (.int .i64 size) (.int .i64 i))
      (Rt fun v h' => v = .tuple ⟨[.int .u64 (leN ((bs.drop at_).take size)), .int .i64 ((at_ + size : Nat) : Int), .int .i64 0]⟩ ∧ h' = h) := by
  have hlt := rBy_lt ha
  intro m
  induction m with
  | zero =>
    intro i hm hi
    obtain rfl : i = size := by omega
    apply L_wire_Wide_10_wp
    unfold L_wire_Wide_10_b
    simp only [obnd_some, condF_true, condF_false, guardV3_true, guardV3_false, guardV3_skip, retK_ret, bin_add, bin_sub, bin_mul, bin_lss, bin_leq, bin_gtr, bin_geq, bin_eql, bin_neq, un_not, un_neg, str_eql, str_neq, ext0, ext1, ext2, ext3, pick_true, pick_false, nilck, ptrTo, Nat.zero_add, List.getElem?_cons_zero, List.getElem?_cons_succ, List.set_cons_zero, List.set_cons_succ, decide_eq_true_eq, Bool.not_true, Bool.not_false, Int.lt_irrefl, decide_false]
    apply J_wire_Wide_14_wp
    unfold J_wire_Wide_14_b
    have : IntKind.i64.wrap ((at_ : Int) + (i : Int)) = ((at_ + i : Nat) : Int) := by rw [← wrap_nat (n := at_ + i) (by omega)]; rfl
    simp only [obnd_some, condF_true, condF_false, guardV3_true, guardV3_false, guardV3_skip, retK_ret, bin_add, bin_sub, bin_mul, bin_lss, bin_leq, bin_gtr, bin_geq, bin_eql, bin_neq, un_not, un_neg, str_eql, str_neq, ext0, ext1, ext2, ext3, pick_true, pick_false, nilck, ptrTo, Nat.zero_add, List.getElem?_cons_zero, List.getElem?_cons_succ, List.set_cons_zero, List.set_cons_succ, decide_eq_true_eq, Bool.not_true, Bool.not_false, this]
    exact wp_some ⟨rfl, rfl⟩
  | succ m ih =>
    intro i hm hi
    apply L_wire_Wide_10_wp
    unfold L_wire_Wide_10_b
    have hil : at_ + i < bs.length := by omega
    obtain ⟨b, hb⟩ := get_of_lt hil
    obtain ⟨p, hp, hp2⟩ := rBy_get (P := Try.prog) (k := .i64) ha slc_T_Suint8 siz_T_uint8 agg_T_uint8 hb
    have e1 : IntKind.i64.wrap ((at_ : Int) + (i : Int)) = ((at_ + i : Nat) : Int) := by rw [← wrap_nat (n := at_ + i) (by omega)]; rfl
    have e2 : IntKind.i64.wrap (8 * (i : Int)) = ((8 * i : Nat) : Int) := by rw [← wrap_nat (n := 8 * i) (by omega)]; rfl
    have hd : decide ((i : Int) < (size : Int)) = true := by simp; omega
    have hll : ((bs.drop at_).take i).length = i := by simp; omega
    have hst := le_step (l := (bs.drop at_).take i) (b := b) (by omega)
    have htk : (bs.drop at_).take (i + 1) = (bs.drop at_).take i ++ [b] := by
      rw [List.take_add_one, List.getElem?_drop, hb]; rfl
    rw [hll] at hst
    simp only [obnd_some, condF_true, condF_false, guardV3_true, guardV3_false, guardV3_skip, retK_ret, bin_add, bin_sub, bin_mul, bin_lss, bin_leq, bin_gtr, bin_geq, bin_eql, bin_neq, un_not, un_neg, str_eql, str_neq, ext0, ext1, ext2, ext3, pick_true, pick_false, nilck, ptrTo, Nat.zero_add, List.getElem?_cons_zero, List.getElem?_cons_succ, List.set_cons_zero, List.set_cons_succ, decide_eq_true_eq, Bool.not_true, Bool.not_false, hd, e1, hp, hp2, cv_T_uint8_T_uint64, e2, bin_shl (Int.natCast_nonneg (8 * i)), bin_or, hst, wrap_succ (show i < 9223372036854775807 by omega)]
    rw [← htk]
    exact ih (i + 1) (by omega) (by omega)
def wideS (bs : List UInt8) (at_ size : Int) : Int × Int × Int :=
  if size < 1 ∨ size > 8 ∨ at_ < 0 ∨ at_ > bs.length then (0, 0, 2)
  else if size > bs.length - at_ then (0, 0, 10)
  else (leN ((bs.drop at_.toNat).take size.toNat), at_ + size, 0)
theorem Wide_ok {h : Heap} {S : Nat → Prop} {a : Value} {bs : List UInt8} {at_ size : Int} (ha : rBy.rep S h [a] bs) (h1 : inK .i64 at_) (h2 : inK .i64 size) :
    WP (callW E fn_wire_Wide [a, .int .i64 at_, .int .i64 size] h) (Rt fun v h' => v = .tuple ⟨[.int .u64 (wideS bs at_ size).1, .int .i64 (wideS bs at_ size).2.1, .int .i64 (wideS bs at_ size).2.2]⟩ ∧ h' = h) := by
  have hlt := rBy_lt ha
  have hlen := rBy_len ha (P := Try.prog) slc_T_Suint8
  refine F_wire_Wide ?_
  unfold B_wire_Wide
  have bad : (size < 1 ∨ size > 8 ∨ at_ < 0 ∨ at_ > bs.length) → WP (J_wire_Wide_1000006 (callW E) h a (.int .i64 at_) (.int .i64 size) (.bool true)) (Rt fun v h' => v = .tuple ⟨[.int .u64 (wideS bs at_ size).1, .int .i64 (wideS bs at_ size).2.1, .int .i64 (wideS bs at_ size).2.2]⟩ ∧ h' = h) := by
    intro hb
    apply J_wire_Wide_1000006_wp
    unfold J_wire_Wide_1000006_b wideS
    rw [if_pos hb]
    exact wp_some ⟨rfl, rfl⟩
  simp only [obnd_some, condF_true, condF_false, guardV3_true, guardV3_false, guardV3_skip, retK_ret, bin_add, bin_sub, bin_mul, bin_lss, bin_leq, bin_gtr, bin_geq, bin_eql, bin_neq, un_not, un_neg, str_eql, str_neq, ext0, ext1, ext2, ext3, pick_true, pick_false, nilck, ptrTo, Nat.zero_add, List.getElem?_cons_zero, List.getElem?_cons_succ, List.set_cons_zero, List.set_cons_succ, decide_eq_true_eq, Bool.not_true, Bool.not_false, hlen]
  refine wp_test (fun hc => by rw [hc]; exact bad (.inl (of_decide_eq_true hc))) fun c1 => ?_
  refine wp_test (fun hc => by rw [hc]; exact bad (.inr (.inl (of_decide_eq_true hc)))) fun c2 => ?_
  refine wp_test (fun hc => by rw [hc]; exact bad (.inr (.inr (.inl (of_decide_eq_true hc))))) fun c3 => ?_
  cases c4 : decide (at_ > (bs.length : Int)) with
  | true => exact bad (.inr (.inr (.inr (by simpa using c4))))
  | false =>
    simp only [decide_eq_false_iff_not] at c1 c2 c3 c4
    apply J_wire_Wide_1000006_wp
    unfold J_wire_Wide_1000006_b
    have e1 : IntKind.i64.wrap ((bs.length : Int) - at_) = (bs.length : Int) - at_ := wrap_id ⟨by omega, by omega⟩
    simp only [obnd_some, condF_true, condF_false, guardV3_true, guardV3_false, guardV3_skip, retK_ret, bin_add, bin_sub, bin_mul, bin_lss, bin_leq, bin_gtr, bin_geq, bin_eql, bin_neq, un_not, un_neg, str_eql, str_neq, ext0, ext1, ext2, ext3, pick_true, pick_false, nilck, ptrTo, Nat.zero_add, List.getElem?_cons_zero, List.getElem?_cons_succ, List.set_cons_zero, List.set_cons_succ, decide_eq_true_eq, Bool.not_true, Bool.not_false, hlen, e1]
    have hn : ¬ (size < 1 ∨ size > 8 ∨ at_ < 0 ∨ at_ > bs.length) := by omega
    refine wp_test (fun hc => ?_) fun hc => ?_
    · unfold wideS
      rw [if_neg hn, if_pos (by simpa using hc)]
      exact wp_some ⟨rfl, rfl⟩
    · simp only [decide_eq_false_iff_not] at hc
      obtain ⟨n, rfl⟩ := Int.eq_ofNat_of_zero_le (show 0 ≤ at_ by omega)
      obtain ⟨k, rfl⟩ := Int.eq_ofNat_of_zero_le (show 0 ≤ size by omega)
      unfold wideS
      rw [if_neg hn, if_neg hc]
      simp only [Int.toNat_natCast]
      exact Wide_loop ha (by omega) (by omega) k 0 rfl (Nat.zero_le _)
end Go.Proofs.Ytmdffenlehcekaa

namespace Go.Proofs.Ytmdffenlehcekaa
open Go Go.Am

/-- A number behind an Op: how many bytes, which it may be. -/
structure Pt where
  size : Int
  lo : Int
  hi : Int
  signed : Bool
  deriving DecidableEq
def Pt.may (p : Pt) (n : Int) : Bool := decide (p.lo ≤ n) && decide (n ≤ p.hi)
def pPlace : Pt := ⟨2, 0, 65535, false⟩
def pWidth (n : Int) : Pt := ⟨1, 1, n, false⟩
def pLeap : Pt := ⟨4, 0, 4294967295, false⟩
def partsS (op : Int) : List Pt × Bool :=
  if op = 1 then ([⟨1, -128, 127, true⟩], true) else if op = 2 then ([⟨4, -2147483648, 2147483647, true⟩], true) else if op = 3 then ([⟨8, -9223372036854775808, 9223372036854775807, true⟩], true)
  else if op = 6 ∨ op = 7 ∨ op = 8 ∨ op = 50 ∨ op = 36 ∨ 39 ≤ op ∧ op ≤ 45 then ([pPlace], true)
  else if op = 37 ∨ op = 38 then ([pPlace, pPlace], true)
  else if op = 23 ∨ op = 24 then ([pWidth 5], true)
  else if 11 ≤ op ∧ op ≤ 28 then ([pWidth 3], true)
  else if op = 29 then ([pWidth 3, pWidth 3], true)
  else if op = 46 ∨ op = 47 ∨ op = 48 then ([pLeap], true)
  else if op = 52 then ([⟨1, 0, 255, false⟩], true)
  else if op = 49 then ([pWidth 3], true)
  else ([], decide (1 ≤ op) && decide (op ≤ 52))

/-- A function value that tells which numbers may be. -/
def MayV (S : Nat → Prop) (h : Heap) (v : Value) (q : Int → Bool) : Prop :=
  (∃ b1 b2 e1 e2 lo hi, v = .func (.func fn_ops_between_1) ⟨[]⟩ ⟨[.pointer (some ⟨b1, 0, none⟩), .pointer (some ⟨b2, 0, none⟩)]⟩ ∧ S b1 ∧ S b2 ∧ h[b1]? = some ⟨.cells e1 [.int .i64 lo], true⟩ ∧ h[b2]? = some ⟨.cells e2 [.int .i64 hi], true⟩ ∧ q = fun n => decide (lo ≤ n) && decide (n ≤ hi)) ∨
  (∃ b e w, v = .func (.func fn_ops_fits_1) ⟨[]⟩ ⟨[.pointer (some ⟨b, 0, none⟩)]⟩ ∧ S b ∧ h[b]? = some ⟨.cells e [.int .u8 w], true⟩ ∧ q = fitsS w)
def rMay : Rp (Int → Bool) where
  sz := 1
  rep S h cs p := ∃ v q, cs = [v] ∧ MayV S h v q ∧ ∀ n, inK .i64 n → q n = p n
  len := by rintro S h cs p ⟨v, q, rfl, _⟩; rfl
  mono := by
    rintro S S' h h' cs p hm ⟨v, q, rfl, hv, hq⟩
    refine ⟨v, q, rfl, ?_, hq⟩
    rcases hv with ⟨b1, b2, e1, e2, lo, hi, rfl, s1, s2, g1, g2, hq⟩ | ⟨b, e, w, rfl, s, g, hq⟩
    · exact .inl ⟨b1, b2, e1, e2, lo, hi, rfl, (hm _ _ s1 g1).2, (hm _ _ s2 g2).2, (hm _ _ s1 g1).1, (hm _ _ s2 g2).1, hq⟩
    · exact .inr ⟨b, e, w, rfl, (hm _ _ s g).2, (hm _ _ s g).1, hq⟩
def rFld : Rp Pt := rM (fun p => (p.size, p.may)) (rP (rI .i64) rMay)
theorem rFld_cells {S : Nat → Prop} {h : Heap} {cs : List Value} {p : Pt} (hr : rFld.rep S h cs p) : ∃ v, cs = [.int .i64 p.size, v] ∧ rMay.rep S h [v] p.may ∧ inK .i64 p.size := by
  obtain ⟨c1, c2, rfl, ⟨rfl, h1⟩, v, q, rfl, h2⟩ := hr
  exact ⟨v, rfl, ⟨v, q, rfl, h2⟩, h1⟩
theorem rFld_mk {S : Nat → Prop} {h : Heap} {v : Value} {p : Pt} (h1 : inK .i64 p.size) (h2 : rMay.rep S h [v] p.may) : rFld.rep S h [.int .i64 p.size, v] p := ⟨[_], [v], rfl, ⟨rfl, h1⟩, h2⟩
theorem between_1_ok {h : Heap} {b1 b2 : Nat} {e1 e2 : TypeId} {lo hi n : Int} (g1 : h[b1]? = some ⟨.cells e1 [.int .i64 lo], true⟩) (g2 : h[b2]? = some ⟨.cells e2 [.int .i64 hi], true⟩) :
    WP (callW E fn_ops_between_1 [.int .i64 n, .pointer (some ⟨b1, 0, none⟩), .pointer (some ⟨b2, 0, none⟩)] h) (Rt fun v h' => v = .bool (decide (lo ≤ n) && decide (n ≤ hi)) ∧ h' = h) := by
  refine F_ops_between_1 ?_
  unfold B_ops_between_1
  simp only [obnd_some, condF_true, condF_false, guardV3_true, guardV3_false, guardV3_skip, retK_ret, bin_add, bin_sub, bin_mul, bin_lss, bin_leq, bin_gtr, bin_geq, bin_eql, bin_neq, un_not, un_neg, str_eql, str_neq, ext0, ext1, ext2, ext3, pick_true, pick_false, nilck, ptrTo, Nat.zero_add, List.getElem?_cons_zero, List.getElem?_cons_succ, List.set_cons_zero, List.set_cons_succ, decide_eq_true_eq, Bool.not_true, Bool.not_false, ld1 g1 agg_T_int64, ld1 g2 agg_T_int64]
  refine wp_guard (fun hc => wp_some ⟨by rw [hc]; simp, rfl⟩) fun hc => wp_some ⟨by rw [hc]; simp, rfl⟩
theorem fits_1_ok {h : Heap} {b : Nat} {e : TypeId} {w n : Int} (g : h[b]? = some ⟨.cells e [.int .u8 w], true⟩) :
    WP (callW E fn_ops_fits_1 [.int .i64 n, .pointer (some ⟨b, 0, none⟩)] h) (Rt fun v h' => v = .bool (fitsS w n) ∧ h' = h) := by
  refine F_ops_fits_1 ?_
  unfold B_ops_fits_1
  simp only [obnd_some, condF_true, condF_false, guardV3_true, guardV3_false, guardV3_skip, retK_ret, bin_add, bin_sub, bin_mul, bin_lss, bin_leq, bin_gtr, bin_geq, bin_eql, bin_neq, un_not, un_neg, str_eql, str_neq, ext0, ext1, ext2, ext3, pick_true, pick_false, nilck, ptrTo, Nat.zero_add, List.getElem?_cons_zero, List.getElem?_cons_succ, List.set_cons_zero, List.set_cons_succ, decide_eq_true_eq, Bool.not_true, Bool.not_false, ld1 g agg_T_uint8]
  refine wp_retK word_Fits_ok ?_
  rintro v h1 ⟨rfl, rfl⟩
  exact wp_some ⟨rfl, rfl⟩
/-- It is asked. -/
theorem wp_may {S : Nat → Prop} {h : Heap} {v : Value} {p : Int → Bool} {n : Int} {f g : Value → Heap → R} {Q : Ret → Heap → Prop} (hv : rMay.rep S h [v] p) (hn : inK .i64 n) (hk : WP (f (.bool (p n)) h) Q) : WP (obnd (opCv v [.int .i64 n]) fun q => retK (callW E q.1 q.2 h) f g) Q := by
  obtain ⟨v', q, hvv, hm, hq⟩ := hv
  simp only [List.cons.injEq, and_true] at hvv
  subst hvv
  rw [← hq n hn] at hk
  rcases hm with ⟨b1, b2, e1, e2, lo, hi, rfl, s1, s2, g1, g2, rfl⟩ | ⟨b, e, w, rfl, s, g, rfl⟩
  · refine wp_obnd (a := (fn_ops_between_1, [.int .i64 n, .pointer (some ⟨b1, 0, none⟩), .pointer (some ⟨b2, 0, none⟩)])) rfl ?_
    refine wp_retK (between_1_ok g1 g2) ?_
    rintro v h1 ⟨rfl, rfl⟩
    exact hk
  · refine wp_obnd (a := (fn_ops_fits_1, [.int .i64 n, .pointer (some ⟨b, 0, none⟩)])) rfl ?_
    refine wp_retK (fits_1_ok g) ?_
    rintro v h1 ⟨rfl, rfl⟩
    exact hk
theorem between_ok {h : Heap} {lo hi : Int} : WP (callW E fn_ops_between [.int .i64 lo, .int .i64 hi] h) (Rt fun v h' => rMay.rep (fun b => h.length ≤ b) h' [v] (fun n => decide (lo ≤ n) && decide (n ≤ hi)) ∧ cellsOfV v = some [v] ∧ Keep [] h h') := by
  refine F_ops_between ?_
  unfold B_ops_between
  refine wp_new (X := newBlk T_int64 [.int .i64 lo]) (f := ptrTo) rfl fun h1 k1 g1 l1 => ?_
  refine wp_new (X := newBlk T_int64 [.int .i64 hi]) (f := ptrTo) rfl fun h2 k2 g2 l2 => ?_
  exact wp_some ⟨⟨_, _, rfl, .inl ⟨_, _, T_int64, T_int64, lo, hi, rfl, by omega, by omega, k2.get g1 (by simp), g2, rfl⟩, fun n _ => rfl⟩, rfl, k1.trans k2⟩
theorem fits_ok {h : Heap} {w : Int} : WP (callW E fn_ops_fits [.int .u8 w] h) (Rt fun v h' => rMay.rep (fun b => h.length ≤ b) h' [v] (fitsS w) ∧ cellsOfV v = some [v] ∧ Keep [] h h') := by
  refine F_ops_fits ?_
  unfold B_ops_fits
  refine wp_new (X := newBlk T_uint8 [.int .u8 w]) (f := ptrTo) rfl fun h1 k1 g1 l1 => ?_
  exact wp_some ⟨⟨_, _, rfl, .inr ⟨_, T_uint8, w, rfl, by omega, g1, rfl⟩, fun n _ => rfl⟩, rfl, k1⟩
theorem rMay_ext {S : Nat → Prop} {h : Heap} {cs : List Value} {p q : Int → Bool} (hr : rMay.rep S h cs p) (he : ∀ n, inK .i64 n → p n = q n) : rMay.rep S h cs q := by
  obtain ⟨v, r, rfl, h1, h2⟩ := hr
  exact ⟨v, r, rfl, h1, fun n hn => (h2 n hn).trans (he n hn)⟩
theorem fits1 (n : Int) : fitsS 1 n = (decide (-128 ≤ n) && decide (n ≤ 127)) := by
  have : (IntKind.i8.wrap n == n) = (decide (-128 ≤ n) && decide (n ≤ 127)) := by
    rw [Bool.eq_iff_iff]
    simp only [beq_iff_eq, Bool.and_eq_true, decide_eq_true_eq]
    rw [w8]
    split <;> omega
  simp [fitsS, bitsS, wrapS, this]
theorem fits2 (n : Int) : fitsS 2 n = (decide (-2147483648 ≤ n) && decide (n ≤ 2147483647)) := by
  have : (IntKind.i32.wrap n == n) = (decide (-2147483648 ≤ n) && decide (n ≤ 2147483647)) := by
    rw [Bool.eq_iff_iff]
    simp only [beq_iff_eq, Bool.and_eq_true, decide_eq_true_eq]
    rw [w32]
    split <;> omega
  simp [fitsS, bitsS, wrapS, this]
theorem fits3 (n : Int) (h : inK .i64 n) : fitsS 3 n = (decide (-9223372036854775808 ≤ n) && decide (n ≤ 9223372036854775807)) := by
  obtain ⟨h1, h2⟩ := h
  simp [fitsS, bitsS, wrapS, h1, h2]
theorem bd_field {n : Int} {v : Value} (hv : cellsOfV v = some [v]) : aBuild Try.prog T_ops_field [(0, .int .i64 n), (1, v)] = some (.agg ⟨[.int .i64 n, v]⟩) := by
  have e1 : aPlaces Try.prog ((structT Try.prog T_ops_field).getD #[]).toList = some [(0, 1), (1, 1)] := by kernel_rfl
  have e0 : arrT Try.prog T_ops_field = none := by kernel_rfl
  simp only [aBuild, e0, zer_T_ops_field, str_T_ops_field, Option.bind_some, Option.getD_some] at e1 ⊢
  rw [e1]
  simp [fillL, hv, co_int, co_agg]
end Go.Proofs.Ytmdffenlehcekaa

namespace Go.Proofs.Ytmdffenlehcekaa
open Go Go.Am

theorem rL_lit {α : Type} {A : Rp α} {S : Nat → Prop} {h : Heap} {b c : Nat} {e : TypeId} {cs : List Value} {own : Bool} {xs : List α} (hb : h[b]? = some ⟨.cells e cs, own⟩) (hl : cs.length = xs.length * A.sz) (hx : xs.length < 4611686018427387904) (hc : xs.length ≤ kcap c) (hs : S b)
    (he : ∀ i x, xs[i]? = some x → A.rep S h (chunk A.sz i cs) x) : (rL A).rep S h [.slice (some ⟨b, 0, none⟩) xs.length c] xs :=
  ⟨_, c, cs, rfl, ⟨hl, hx, hc, .inr ⟨b, 0, e, cs, own, rfl, hs, hb, by rw [List.drop_zero, List.take_of_length_le (by omega)]⟩⟩, he⟩
theorem rL_nil {α : Type} {A : Rp α} {S : Nat → Prop} {h : Heap} : (rL A).rep S h [.slice none 0 0] ([] : List α) :=
  ⟨none, 0, [], rfl, ⟨by simp, by simp, by simp, .inl ⟨rfl, rfl⟩⟩, fun i x hx => by simp at hx⟩

def LayPost (h0 : Heap) (r : List Pt × Bool) (v : Value) (h' : Heap) : Prop :=
  ∃ l, v = .tuple ⟨[l, .bool r.2]⟩ ∧ (rL rFld).rep (fun b => h0.length ≤ b) h' [l] r.1 ∧ Keep [] h0 h'
/-- A field that lies in a block. -/
def FldAt (h0 h : Heap) (b : Nat) (p : Pt) : Prop := ∃ e f, h[b]? = some ⟨.cells e [.int .i64 p.size, f], true⟩ ∧ rFld.rep (fun b => h0.length ≤ b) h [.int .i64 p.size, f] p
theorem FldAt.go {h0 h h' : Heap} {b : Nat} {p : Pt} (hf : FldAt h0 h b p) (hk : Keep [] h h') : FldAt h0 h' b p := by
  obtain ⟨e, f, h1, h2⟩ := hf
  exact ⟨e, f, hk.get h1 (by simp), rFld.keep0 h2 hk⟩
theorem chunk20 {a b : Value} {l : List Value} : chunk 2 0 (a :: b :: l) = [a, b] := rfl
theorem chunk21 {a b c d : Value} {l : List Value} : chunk 2 1 (a :: b :: c :: d :: l) = [c, d] := rfl
theorem lay_one {h0 h1 h' : Heap} {a b : Value} {p : Pt} (hk : Keep [] h0 h1) (hk2 : Keep [] h1 h') (hg : h'[h1.length]? = some (newBlk T_ops_field [a, b])) (hr : rFld.rep (fun b => h0.length ≤ b) h' [a, b] p) :
    LayPost h0 ([p], true) (.tuple ⟨[sliceTo 1 1 h1.length, .bool true]⟩) h' := by
  refine ⟨_, rfl, rL_lit (xs := [p]) hg rfl (by simp) (by simp [kcap, capFlag]) hk.len ?_, hk.trans hk2⟩
  intro i x hx
  cases i with
  | zero => simp at hx; subst hx; exact hr
  | succ i => simp at hx
theorem lay_two {h0 h1 h' : Heap} {a b : Value} {p : Pt} (hk : Keep [] h0 h1) (hk2 : Keep [] h1 h') (hg : h'[h1.length]? = some (newBlk T_ops_field [a, b, a, b])) (hr : rFld.rep (fun b => h0.length ≤ b) h' [a, b] p) :
    LayPost h0 ([p, p], true) (.tuple ⟨[sliceTo 2 2 h1.length, .bool true]⟩) h' := by
  refine ⟨_, rfl, rL_lit (xs := [p, p]) hg rfl (by simp) (by simp [kcap, capFlag]) hk.len ?_, hk.trans hk2⟩
  intro i x hx
  cases i with
  | zero => simp at hx; subst hx; exact hr
  | succ i =>
    cases i with
    | zero => simp at hx; subst hx; exact hr
    | succ i => simp at hx
theorem wp_lay1 {h0 h : Heap} {b : Nat} {p : Pt} {k : Kt} (hk : Keep [] h0 h) (hf : FldAt h0 h b p) :
    WP (obnd (aLoad Try.prog T_ops_field h (.pointer (some ⟨b, 0, none⟩))) fun x => anew (mkLit Try.prog T_Sops_field 1 [(0, x)]) h fun q h' => some (Ret.ret (.tuple ⟨[q, .bool true]⟩), h')) (Rt (LayPost h0 ([p], true))) := by
  obtain ⟨e, f, h1, h2⟩ := hf
  simp only [ldA h1 agg_T_ops_field (P := Try.prog) siz_T_ops_field, obnd_some]
  refine wp_new (X := newBlk T_ops_field [.int .i64 p.size, f]) (f := sliceTo 1 1) (by kernel_rfl) fun h3 k3 g3 l3 => ?_
  exact wp_some (lay_one hk k3 g3 (rFld.keep0 h2 k3))
theorem wp_lay2 {h0 h : Heap} {b : Nat} {p : Pt} (hk : Keep [] h0 h) (hf : FldAt h0 h b p) :
    WP (obnd (aLoad Try.prog T_ops_field h (.pointer (some ⟨b, 0, none⟩))) fun x => obnd (aLoad Try.prog T_ops_field h (.pointer (some ⟨b, 0, none⟩))) fun y => anew (mkLit Try.prog T_Sops_field 2 [(0, x), (1, y)]) h fun q h' => some (Ret.ret (.tuple ⟨[q, .bool true]⟩), h')) (Rt (LayPost h0 ([p, p], true))) := by
  obtain ⟨e, f, h1, h2⟩ := hf
  simp only [ldA h1 agg_T_ops_field (P := Try.prog) siz_T_ops_field, obnd_some]
  refine wp_new (X := newBlk T_ops_field [.int .i64 p.size, f, .int .i64 p.size, f]) (f := sliceTo 2 2) (by kernel_rfl) fun h3 k3 g3 l3 => ?_
  exact wp_some (lay_two hk k3 g3 (rFld.keep0 h2 k3))
theorem wp_layB {h0 h : Heap} {lo hi : Int} {p : Pt} (hk : Keep [] h0 h) (hs : inK .i64 p.size) (hp : p.may = fun n => decide (lo ≤ n) && decide (n ≤ hi)) :
    WP (retK (callW E fn_ops_between [.int .i64 lo, .int .i64 hi] h) (fun x h2 => obnd (aBuild Try.prog T_ops_field [(0, .int .i64 p.size), (1, x)]) fun x => anew (mkLit Try.prog T_Sops_field 1 [(0, x)]) h2 fun q h' => some (Ret.ret (.tuple ⟨[q, .bool true]⟩), h')) fun x h => some (Ret.pan x, h)) (Rt (LayPost h0 ([p], true))) := by
  refine wp_retK between_ok ?_
  rintro v h1 ⟨r1, c1, k1⟩
  simp only [bd_field c1, obnd_some]
  refine wp_new (X := newBlk T_ops_field [.int .i64 p.size, v]) (f := sliceTo 1 1) (by kernel_rfl) fun h3 k3 g3 l3 => ?_
  refine wp_some (lay_one (hk.trans k1) k3 g3 (rFld_mk hs ?_))
  rw [hp]
  exact rMay.go r1 k3 fun b hb _ => ⟨by simp, by have := hk.len; omega⟩
theorem wp_layF {h0 h : Heap} {w : Int} {p : Pt} (hk : Keep [] h0 h) (hs : inK .i64 p.size) (hp : ∀ n, inK .i64 n → fitsS w n = p.may n) :
    WP (retK (callW E fn_ops_fits [.int .u8 w] h) (fun x h2 => obnd (aBuild Try.prog T_ops_field [(0, .int .i64 p.size), (1, x)]) fun x => anew (mkLit Try.prog T_Sops_field 1 [(0, x)]) h2 fun q h' => some (Ret.ret (.tuple ⟨[q, .bool true]⟩), h')) fun x h => some (Ret.pan x, h)) (Rt (LayPost h0 ([p], true))) := by
  refine wp_retK fits_ok ?_
  rintro v h1 ⟨r1, c1, k1⟩
  simp only [bd_field c1, obnd_some]
  refine wp_new (X := newBlk T_ops_field [.int .i64 p.size, v]) (f := sliceTo 1 1) (by kernel_rfl) fun h3 k3 g3 l3 => ?_
  refine wp_some (lay_one (hk.trans k1) k3 g3 (rFld_mk hs ?_))
  exact rMay_ext (rMay.go r1 k3 fun b hb _ => ⟨by simp, by have := hk.len; omega⟩) hp

section
variable {h0 h : Heap} {bi bl bw : Nat} {op : Int}
theorem lay41 (hk : Keep [] h0 h) (hw : FldAt h0 h bw (pWidth 3)) (c : Bool) (hc : c = (decide (op ≥ 11) && decide (op ≤ 28))) (h1 : ¬ (op = 6 ∨ op = 7 ∨ op = 8 ∨ op = 50 ∨ op = 36 ∨ 39 ≤ op ∧ op ≤ 45)) (h2 : ¬ (op = 37 ∨ op = 38)) (h3 : ¬ (op = 23 ∨ op = 24)) (h4 : op ≠ 29) (h5 : ¬ (op = 46 ∨ op = 47 ∨ op = 48)) (h6 : op ≠ 52) (h7 : op ≠ 49) (h8 : op ≠ 1) (h9 : op ≠ 2) (ha : op ≠ 3) :
    WP (J_ops_layout_1000041 (callW E) h (.int .u8 op) (.pointer (some ⟨bw, 0, none⟩)) (.bool c)) (Rt (LayPost h0 (partsS op))) := by
  apply J_ops_layout_1000041_wp
  unfold J_ops_layout_1000041_b partsS
  rw [if_neg h8, if_neg h9, if_neg ha, if_neg h1, if_neg h2, if_neg h3]
  refine wp_test (fun hc' => ?_) fun hc' => ?_
  · rw [hc'] at hc
    have : 11 ≤ op ∧ op ≤ 28 := by simpa using hc.symm
    rw [if_pos this]
    exact wp_lay1 hk hw (k := fun _ _ => none)
  · rw [hc'] at hc
    have : ¬ (11 ≤ op ∧ op ≤ 28) := by simpa using hc.symm
    rw [if_neg this, if_neg h4, if_neg h5, if_neg h6, if_neg h7]
    simp only [obnd_some, condF_true, condF_false, guardV3_true, guardV3_false, guardV3_skip, retK_ret, bin_add, bin_sub, bin_mul, bin_lss, bin_leq, bin_gtr, bin_geq, bin_eql, bin_neq, un_not, un_neg, str_eql, str_neq, ext0, ext1, ext2, ext3, pick_true, pick_false, nilck, ptrTo, Nat.zero_add, List.getElem?_cons_zero, List.getElem?_cons_succ, List.set_cons_zero, List.set_cons_succ, decide_eq_true_eq, Bool.not_true, Bool.not_false]
    refine wp_guard (fun hd => ?_) fun hd => ?_
    · refine wp_some ⟨_, ?_, rL_nil, hk⟩
      have hd : decide (1 ≤ op) = true := hd
      simp [hd]
    · refine wp_some ⟨_, ?_, rL_nil, hk⟩
      have hd : decide (1 ≤ op) = false := hd
      simp [hd]
theorem lay35 (hk : Keep [] h0 h) (hl : FldAt h0 h bl pLeap) (hw : FldAt h0 h bw (pWidth 3)) (c : Bool) (hc : c = decide (op = 46 ∨ op = 47 ∨ op = 48)) (h1 : ¬ (op = 6 ∨ op = 7 ∨ op = 8 ∨ op = 50 ∨ op = 36 ∨ 39 ≤ op ∧ op ≤ 45)) (h2 : ¬ (op = 37 ∨ op = 38)) (h3 : ¬ (op = 23 ∨ op = 24)) (h4 : op ≠ 29) (h8 : op ≠ 1) (h9 : op ≠ 2) (ha : op ≠ 3) :
    WP (J_ops_layout_1000035 (callW E) h (.int .u8 op) (.pointer (some ⟨bl, 0, none⟩)) (.pointer (some ⟨bw, 0, none⟩)) (.int .u8 op) (.bool c)) (Rt (LayPost h0 (partsS op))) := by
  apply J_ops_layout_1000035_wp
  unfold J_ops_layout_1000035_b
  have e : ¬ (11 ≤ op ∧ op ≤ 28) → partsS op = if op = 46 ∨ op = 47 ∨ op = 48 then ([pLeap], true) else if op = 52 then ([⟨1, 0, 255, false⟩], true) else if op = 49 then ([pWidth 3], true) else ([], decide (1 ≤ op) && decide (op ≤ 52)) := fun hn => by
    unfold partsS
    rw [if_neg h8, if_neg h9, if_neg ha, if_neg h1, if_neg h2, if_neg h3, if_neg hn, if_neg h4]
  refine wp_test (fun hc' => ?_) fun hc' => ?_
  · rw [hc'] at hc
    have : op = 46 ∨ op = 47 ∨ op = 48 := of_decide_eq_true hc.symm
    rw [e (by omega), if_pos this]
    exact wp_lay1 hk hl (k := fun _ _ => none)
  · rw [hc'] at hc
    have h5 : ¬ (op = 46 ∨ op = 47 ∨ op = 48) := of_decide_eq_false hc.symm
    simp only [obnd_some, condF_true, condF_false, guardV3_true, guardV3_false, guardV3_skip, retK_ret, bin_add, bin_sub, bin_mul, bin_lss, bin_leq, bin_gtr, bin_geq, bin_eql, bin_neq, un_not, un_neg, str_eql, str_neq, ext0, ext1, ext2, ext3, pick_true, pick_false, nilck, ptrTo, Nat.zero_add, List.getElem?_cons_zero, List.getElem?_cons_succ, List.set_cons_zero, List.set_cons_succ, decide_eq_true_eq, Bool.not_true, Bool.not_false]
    refine wp_test (fun hd => ?_) fun hd => ?_
    · have hd : op = 52 := by simpa using hd
      rw [e (by omega), if_neg h5, if_pos hd]
      exact wp_layB (p := ⟨1, 0, 255, false⟩) hk (by simp [inK]) rfl
    · have h6 : op ≠ 52 := by simpa using hd
      try simp only [obnd_some, condF_true, condF_false, guardV3_true, guardV3_false, guardV3_skip, retK_ret, bin_add, bin_sub, bin_mul, bin_lss, bin_leq, bin_gtr, bin_geq, bin_eql, bin_neq, un_not, un_neg, str_eql, str_neq, ext0, ext1, ext2, ext3, pick_true, pick_false, nilck, ptrTo, Nat.zero_add, List.getElem?_cons_zero, List.getElem?_cons_succ, List.set_cons_zero, List.set_cons_succ, decide_eq_true_eq, Bool.not_true, Bool.not_false]
      refine wp_test (fun hd => ?_) fun hd => ?_
      · have hd : op = 49 := by simpa using hd
        rw [e (by omega), if_neg h5, if_neg h6, if_pos hd]
        exact wp_lay1 hk hw (k := fun _ _ => none)
      · have h7 : op ≠ 49 := by simpa using hd
        try simp only [obnd_some, condF_true, condF_false, guardV3_true, guardV3_false, guardV3_skip, retK_ret, bin_add, bin_sub, bin_mul, bin_lss, bin_leq, bin_gtr, bin_geq, bin_eql, bin_neq, un_not, un_neg, str_eql, str_neq, ext0, ext1, ext2, ext3, pick_true, pick_false, nilck, ptrTo, Nat.zero_add, List.getElem?_cons_zero, List.getElem?_cons_succ, List.set_cons_zero, List.set_cons_succ, decide_eq_true_eq, Bool.not_true, Bool.not_false]
        refine wp_guard (fun hd => ?_) fun hd => ?_
        · try simp only [obnd_some, condF_true, condF_false, guardV3_true, guardV3_false, guardV3_skip, retK_ret, bin_add, bin_sub, bin_mul, bin_lss, bin_leq, bin_gtr, bin_geq, bin_eql, bin_neq, un_not, un_neg, str_eql, str_neq, ext0, ext1, ext2, ext3, pick_true, pick_false, nilck, ptrTo, Nat.zero_add, List.getElem?_cons_zero, List.getElem?_cons_succ, List.set_cons_zero, List.set_cons_succ, decide_eq_true_eq, Bool.not_true, Bool.not_false]
          exact lay41 hk hw _ (by rw [hd, Bool.true_and]) h1 h2 h3 h4 h5 h6 h7 h8 h9 ha
        · exact lay41 hk hw _ (by rw [hd, Bool.false_and]) h1 h2 h3 h4 h5 h6 h7 h8 h9 ha
theorem lay29 (hk : Keep [] h0 h) (hl : FldAt h0 h bl pLeap) (hw : FldAt h0 h bw (pWidth 3)) (c : Bool) (hc : c = decide (op = 23 ∨ op = 24)) (h1 : ¬ (op = 6 ∨ op = 7 ∨ op = 8 ∨ op = 50 ∨ op = 36 ∨ 39 ≤ op ∧ op ≤ 45)) (h2 : ¬ (op = 37 ∨ op = 38)) (h8 : op ≠ 1) (h9 : op ≠ 2) (ha : op ≠ 3) :
    WP (J_ops_layout_1000029 (callW E) h (.int .u8 op) (.pointer (some ⟨bl, 0, none⟩)) (.pointer (some ⟨bw, 0, none⟩)) (.int .u8 op) (.bool c)) (Rt (LayPost h0 (partsS op))) := by
  apply J_ops_layout_1000029_wp
  unfold J_ops_layout_1000029_b
  refine wp_test (fun hc' => ?_) fun hc' => ?_
  · rw [hc'] at hc
    have : op = 23 ∨ op = 24 := of_decide_eq_true hc.symm
    unfold partsS
    rw [if_neg h8, if_neg h9, if_neg ha, if_neg h1, if_neg h2, if_pos this]
    exact wp_layB (p := pWidth 5) hk (by simp [inK, pWidth]) rfl
  · rw [hc'] at hc
    have h3 : ¬ (op = 23 ∨ op = 24) := of_decide_eq_false hc.symm
    simp only [obnd_some, condF_true, condF_false, guardV3_true, guardV3_false, guardV3_skip, retK_ret, bin_add, bin_sub, bin_mul, bin_lss, bin_leq, bin_gtr, bin_geq, bin_eql, bin_neq, un_not, un_neg, str_eql, str_neq, ext0, ext1, ext2, ext3, pick_true, pick_false, nilck, ptrTo, Nat.zero_add, List.getElem?_cons_zero, List.getElem?_cons_succ, List.set_cons_zero, List.set_cons_succ, decide_eq_true_eq, Bool.not_true, Bool.not_false]
    refine wp_test (fun hd => ?_) fun hd => ?_
    · have hd : op = 29 := by simpa using hd
      unfold partsS
      rw [if_neg h8, if_neg h9, if_neg ha, if_neg h1, if_neg h2, if_neg h3, if_neg (by omega), if_pos hd]
      exact wp_lay2 hk hw
    · have h4 : op ≠ 29 := by simpa using hd
      try simp only [obnd_some, condF_true, condF_false, guardV3_true, guardV3_false, guardV3_skip, retK_ret, bin_add, bin_sub, bin_mul, bin_lss, bin_leq, bin_gtr, bin_geq, bin_eql, bin_neq, un_not, un_neg, str_eql, str_neq, ext0, ext1, ext2, ext3, pick_true, pick_false, nilck, ptrTo, Nat.zero_add, List.getElem?_cons_zero, List.getElem?_cons_succ, List.set_cons_zero, List.set_cons_succ, decide_eq_true_eq, Bool.not_true, Bool.not_false]
      refine wp_test (fun hd => ?_) fun d1 => ?_
      · rw [hd]
        have hd : op = 46 := by simpa using hd
        exact lay35 hk hl hw _ (by simp [hd]) h1 h2 h3 h4 h8 h9 ha
      · try simp only [obnd_some, condF_true, condF_false, guardV3_true, guardV3_false, guardV3_skip, retK_ret, bin_add, bin_sub, bin_mul, bin_lss, bin_leq, bin_gtr, bin_geq, bin_eql, bin_neq, un_not, un_neg, str_eql, str_neq, ext0, ext1, ext2, ext3, pick_true, pick_false, nilck, ptrTo, Nat.zero_add, List.getElem?_cons_zero, List.getElem?_cons_succ, List.set_cons_zero, List.set_cons_succ, decide_eq_true_eq, Bool.not_true, Bool.not_false]
        refine wp_test (fun hd => ?_) fun d2 => ?_
        · rw [hd]
          have hd : op = 47 := by simpa using hd
          exact lay35 hk hl hw _ (by simp [hd]) h1 h2 h3 h4 h8 h9 ha
        · try simp only [obnd_some, condF_true, condF_false, guardV3_true, guardV3_false, guardV3_skip, retK_ret, bin_add, bin_sub, bin_mul, bin_lss, bin_leq, bin_gtr, bin_geq, bin_eql, bin_neq, un_not, un_neg, str_eql, str_neq, ext0, ext1, ext2, ext3, pick_true, pick_false, nilck, ptrTo, Nat.zero_add, List.getElem?_cons_zero, List.getElem?_cons_succ, List.set_cons_zero, List.set_cons_succ, decide_eq_true_eq, Bool.not_true, Bool.not_false]
          have d1 : op ≠ 46 := by simpa using d1
          have d2 : op ≠ 47 := by simpa using d2
          exact lay35 hk hl hw _ (by simp [d1, d2]; rfl) h1 h2 h3 h4 h8 h9 ha
theorem lay26 (hk : Keep [] h0 h) (hi : FldAt h0 h bi pPlace) (hl : FldAt h0 h bl pLeap) (hw : FldAt h0 h bw (pWidth 3)) (c : Bool) (hc : c = decide (op = 37 ∨ op = 38)) (h1 : ¬ (op = 6 ∨ op = 7 ∨ op = 8 ∨ op = 50 ∨ op = 36 ∨ 39 ≤ op ∧ op ≤ 45)) (h8 : op ≠ 1) (h9 : op ≠ 2) (ha : op ≠ 3) :
    WP (J_ops_layout_1000026 (callW E) h (.int .u8 op) (.pointer (some ⟨bi, 0, none⟩)) (.pointer (some ⟨bl, 0, none⟩)) (.pointer (some ⟨bw, 0, none⟩)) (.int .u8 op) (.bool c)) (Rt (LayPost h0 (partsS op))) := by
  apply J_ops_layout_1000026_wp
  unfold J_ops_layout_1000026_b
  refine wp_test (fun hc' => ?_) fun hc' => ?_
  · rw [hc'] at hc
    have : op = 37 ∨ op = 38 := of_decide_eq_true hc.symm
    unfold partsS
    rw [if_neg h8, if_neg h9, if_neg ha, if_neg h1, if_pos this]
    exact wp_lay2 hk hi
  · rw [hc'] at hc
    have h2 : ¬ (op = 37 ∨ op = 38) := of_decide_eq_false hc.symm
    simp only [obnd_some, condF_true, condF_false, guardV3_true, guardV3_false, guardV3_skip, retK_ret, bin_add, bin_sub, bin_mul, bin_lss, bin_leq, bin_gtr, bin_geq, bin_eql, bin_neq, un_not, un_neg, str_eql, str_neq, ext0, ext1, ext2, ext3, pick_true, pick_false, nilck, ptrTo, Nat.zero_add, List.getElem?_cons_zero, List.getElem?_cons_succ, List.set_cons_zero, List.set_cons_succ, decide_eq_true_eq, Bool.not_true, Bool.not_false]
    refine wp_test (fun hd => ?_) fun d1 => ?_
    · rw [hd]
      have hd : op = 23 := by simpa using hd
      exact lay29 hk hl hw _ (by simp [hd]) h1 h2 h8 h9 ha
    · try simp only [obnd_some, condF_true, condF_false, guardV3_true, guardV3_false, guardV3_skip, retK_ret, bin_add, bin_sub, bin_mul, bin_lss, bin_leq, bin_gtr, bin_geq, bin_eql, bin_neq, un_not, un_neg, str_eql, str_neq, ext0, ext1, ext2, ext3, pick_true, pick_false, nilck, ptrTo, Nat.zero_add, List.getElem?_cons_zero, List.getElem?_cons_succ, List.set_cons_zero, List.set_cons_succ, decide_eq_true_eq, Bool.not_true, Bool.not_false]
      have d1 : op ≠ 23 := by simpa using d1
      exact lay29 hk hl hw _ (by simp [d1]; rfl) h1 h2 h8 h9 ha
theorem lay23 (hk : Keep [] h0 h) (hi : FldAt h0 h bi pPlace) (hl : FldAt h0 h bl pLeap) (hw : FldAt h0 h bw (pWidth 3)) (c : Bool) (hc : c = decide (op = 6 ∨ op = 7 ∨ op = 8 ∨ op = 50 ∨ op = 36 ∨ 39 ≤ op ∧ op ≤ 45)) (h8 : op ≠ 1) (h9 : op ≠ 2) (ha : op ≠ 3) :
    WP (J_ops_layout_1000023 (callW E) h (.int .u8 op) (.pointer (some ⟨bi, 0, none⟩)) (.pointer (some ⟨bl, 0, none⟩)) (.pointer (some ⟨bw, 0, none⟩)) (.int .u8 op) (.bool c)) (Rt (LayPost h0 (partsS op))) := by
  apply J_ops_layout_1000023_wp
  unfold J_ops_layout_1000023_b
  refine wp_test (fun hc' => ?_) fun hc' => ?_
  · rw [hc'] at hc
    have := of_decide_eq_true hc.symm
    unfold partsS
    rw [if_neg h8, if_neg h9, if_neg ha, if_pos this]
    exact wp_lay1 hk hi (k := fun _ _ => none)
  · rw [hc'] at hc
    have h1 := of_decide_eq_false hc.symm
    simp only [obnd_some, condF_true, condF_false, guardV3_true, guardV3_false, guardV3_skip, retK_ret, bin_add, bin_sub, bin_mul, bin_lss, bin_leq, bin_gtr, bin_geq, bin_eql, bin_neq, un_not, un_neg, str_eql, str_neq, ext0, ext1, ext2, ext3, pick_true, pick_false, nilck, ptrTo, Nat.zero_add, List.getElem?_cons_zero, List.getElem?_cons_succ, List.set_cons_zero, List.set_cons_succ, decide_eq_true_eq, Bool.not_true, Bool.not_false]
    refine wp_test (fun hd => ?_) fun d1 => ?_
    · rw [hd]
      have hd : op = 37 := by simpa using hd
      exact lay26 hk hi hl hw _ (by simp [hd]) h1 h8 h9 ha
    · try simp only [obnd_some, condF_true, condF_false, guardV3_true, guardV3_false, guardV3_skip, retK_ret, bin_add, bin_sub, bin_mul, bin_lss, bin_leq, bin_gtr, bin_geq, bin_eql, bin_neq, un_not, un_neg, str_eql, str_neq, ext0, ext1, ext2, ext3, pick_true, pick_false, nilck, ptrTo, Nat.zero_add, List.getElem?_cons_zero, List.getElem?_cons_succ, List.set_cons_zero, List.set_cons_succ, decide_eq_true_eq, Bool.not_true, Bool.not_false]
      have d1 : op ≠ 37 := by simpa using d1
      exact lay26 hk hi hl hw _ (by simp [d1]; rfl) h1 h8 h9 ha
end
theorem layout_ok {h : Heap} {op : Int} : WP (callW E fn_ops_layout [.int .u8 op] h) (Rt (LayPost h (partsS op))) := by
  refine F_ops_layout ?_
  unfold B_ops_layout
  refine wp_retK between_ok ?_
  rintro f1 h1 ⟨r1, c1, k1⟩
  refine wp_obnd (bd_field c1) ?_
  refine wp_retK between_ok ?_
  rintro f2 h2 ⟨r2, c2, k2⟩
  refine wp_obnd (bd_field c2) ?_
  refine wp_new al_T_ops_field fun h3 k3 g3 l3 => ?_
  refine wp_new al_T_ops_field fun h4 k4 g4 l4 => ?_
  refine wp_stA (k4.get g3 (by simp)) siz_T_ops_field rfl fun h5 k5 g5 l5 => ?_
  refine wp_stA (k5.get g4 (by simp; omega)) siz_T_ops_field rfl fun h6 k6 g6 l6 => ?_
  have g5' := k6.get g5 (by simp; omega)
  have kk : Keep [] h2 h6 := ((k3.trans k4).trans_new k5 (by simp)).trans_new k6 (by simp; omega)
  refine wp_retK between_ok ?_
  rintro f3 h7 ⟨r3, c3, k7⟩
  refine wp_obnd (bd_field c3) ?_
  refine wp_new al_T_ops_field fun h8 k8 g8 l8 => ?_
  refine wp_stA g8 siz_T_ops_field rfl fun h9 k9 g9 l9 => ?_
  have kc : Keep [] h7 h9 := k8.trans_new k9 (by simp)
  have ka : Keep [] h h9 := ((k1.trans k2).trans kk).trans (k7.trans kc)
  have l1 := k1.len
  have l2 := k2.len
  have l6 := kk.len
  have hi : FldAt h h9 h2.length pPlace := ⟨_, _, kc.get (k7.get g5' (by simp)) (by simp), rFld_mk (by simp [inK, pPlace]) (rMay.go r1 ((k2.trans kk).trans (k7.trans kc)) fun b hb _ => ⟨by simp, hb⟩)⟩
  have hl : FldAt h h9 h3.length pLeap := ⟨_, _, kc.get (k7.get g6 (by simp)) (by simp), rFld_mk (by simp [inK, pLeap]) (rMay.go r2 (kk.trans (k7.trans kc)) fun b hb _ => ⟨by simp, by omega⟩)⟩
  have hw : FldAt h h9 h7.length (pWidth 3) := ⟨_, _, g9, rFld_mk (by simp [inK, pWidth]) (rMay.go r3 kc fun b hb _ => ⟨by simp, by omega⟩)⟩
  refine wp_eqt (fun hd => ?_) fun d => ?_
  · unfold partsS
    rw [if_pos hd]
    exact wp_layF (p := ⟨1, -128, 127, true⟩) ka (by simp [inK]) fun n _ => fits1 n
  have h8 : op ≠ 1 := d
  refine wp_eqt (fun hd => ?_) fun d => ?_
  · unfold partsS
    rw [if_neg h8, if_pos hd]
    exact wp_layF (p := ⟨4, -2147483648, 2147483647, true⟩) ka (by simp [inK]) fun n _ => fits2 n
  have h9 : op ≠ 2 := d
  refine wp_eqt (fun hd => ?_) fun d => ?_
  · unfold partsS
    rw [if_neg h8, if_neg h9, if_pos hd]
    exact wp_layF (p := ⟨8, -9223372036854775808, 9223372036854775807, true⟩) ka (by simp [inK]) fun n hn => fits3 n hn
  have h10 : op ≠ 3 := d
  refine wp_eqt (fun hd => ?_) fun d => ?_
  · exact lay23 ka hi hl hw _ (by simp [hd]) h8 h9 h10
  have d6 : op ≠ 6 := d
  refine wp_eqt (fun hd => ?_) fun d => ?_
  · exact lay23 ka hi hl hw _ (by simp [hd]) h8 h9 h10
  have d7 : op ≠ 7 := d
  refine wp_eqt (fun hd => ?_) fun d => ?_
  · exact lay23 ka hi hl hw _ (by simp [hd]) h8 h9 h10
  have d8 : op ≠ 8 := d
  refine wp_eqt (fun hd => ?_) fun d => ?_
  · exact lay23 ka hi hl hw _ (by simp [hd]) h8 h9 h10
  have d50 : op ≠ 50 := d
  refine wp_eqt (fun hd => ?_) fun d => ?_
  · exact lay23 ka hi hl hw _ (by simp [hd]) h8 h9 h10
  have d36 : op ≠ 36 := d
  refine wp_eqt (fun hd => ?_) fun d => ?_
  · exact lay23 ka hi hl hw _ (by simp [hd]) h8 h9 h10
  have d39 : op ≠ 39 := d
  refine wp_eqt (fun hd => ?_) fun d => ?_
  · exact lay23 ka hi hl hw _ (by simp [hd]) h8 h9 h10
  have d40 : op ≠ 40 := d
  refine wp_eqt (fun hd => ?_) fun d => ?_
  · exact lay23 ka hi hl hw _ (by simp [hd]) h8 h9 h10
  have d41 : op ≠ 41 := d
  refine wp_eqt (fun hd => ?_) fun d => ?_
  · exact lay23 ka hi hl hw _ (by simp [hd]) h8 h9 h10
  have d42 : op ≠ 42 := d
  refine wp_eqt (fun hd => ?_) fun d => ?_
  · exact lay23 ka hi hl hw _ (by simp [hd]) h8 h9 h10
  have d43 : op ≠ 43 := d
  refine wp_eqt (fun hd => ?_) fun d => ?_
  · exact lay23 ka hi hl hw _ (by simp [hd]) h8 h9 h10
  have d44 : op ≠ 44 := d
  refine wp_obnd bin_eql ?_
  exact lay23 ka hi hl hw _ (by have : decide (op = 45) = (op == 45) := rfl; rw [← this]; congr 1; rw [eq_iff_iff]; omega) h8 h9 h10
end Go.Proofs.Ytmdffenlehcekaa

namespace Go.Proofs.Ytmdffenlehcekaa
open Go Go.Am

/-- The number that is there: perhaps it is below 0. -/
def signS (p : Pt) (u : Int) : Int :=
  if p.may (IntKind.i64.wrap u) = false ∧ p.size < 8 then IntKind.i64.wrap (IntKind.i64.wrap u - IntKind.i64.wrap (1 * 2 ^ (min (IntKind.i64.wrap (8 * p.size)).toNat IntKind.i64.bits))) else IntKind.i64.wrap u
def readS (code : List UInt8) (p : Pt) (s : Int × Int) : Int × (Int × Int) :=
  if s.2 ≠ 0 then (0, s)
  else if (wideS code s.1 p.size).2.2 ≠ 0 then (0, (s.1, 10))
  else if p.may (signS p (wideS code s.1 p.size).1) = false then (0, (s.1, 120))
  else (signS p (wideS code s.1 p.size).1, ((wideS code s.1 p.size).2.1, 0))
theorem wideS_ok {bs : List UInt8} {at_ size : Int} (h : (wideS bs at_ size).2.2 = 0) : 1 ≤ size ∧ size ≤ 8 ∧ 0 ≤ at_ ∧ at_ + size ≤ bs.length ∧ wideS bs at_ size = ((leN ((bs.drop at_.toNat).take size.toNat) : Int), at_ + size, 0) := by
  unfold wideS at h ⊢
  split at h
  · simp at h
  · rename_i h1
    split at h
    · simp at h
    · rename_i h2
      rw [if_neg h1, if_neg h2]
      exact ⟨by omega, by omega, by omega, by omega, rfl⟩
theorem signS_neg {p : Pt} {u : Int} (h1 : p.may (IntKind.i64.wrap u) = false) (h2 : p.size < 8) : IntKind.i64.wrap (IntKind.i64.wrap u - IntKind.i64.wrap (1 * 2 ^ (min (IntKind.i64.wrap (8 * p.size)).toNat IntKind.i64.bits))) = signS p u := by
  unfold signS
  rw [if_pos ⟨h1, h2⟩]
theorem signS_pos {p : Pt} {u : Int} (h : p.may (IntKind.i64.wrap u) = true ∨ ¬ p.size < 8) : signS p u = IntKind.i64.wrap u := by
  unfold signS
  rw [if_neg]
  rintro ⟨h1, h2⟩
  rcases h with h | h
  · rw [h] at h1; simp at h1
  · exact h h2
theorem signS_in (p : Pt) (u : Int) : inK .i64 (signS p u) := by
  unfold signS
  split <;> exact wrap_in _

section
variable {h0 h : Heap} {S : Nat → Prop} {b : Nat} {ty : TypeId} {cv fv : Value} {at_ : Int} {p : Pt} {bf : Nat} {next n : Int} {tf : TypeId}
theorem read10 (hb : h[b]? = some ⟨.cells ty [cv, .int .i64 at_, .int .i64 0], true⟩) (hf : h[bf]? = some ⟨.cells tf [.int .i64 p.size, fv], true⟩) (hm : rMay.rep S h [fv] p.may) (hn : inK .i64 n) (hk : Keep [b] h0 h) :
    WP (J_ops_reader_read_10 (callW E) h (.pointer (some ⟨b, 0, none⟩)) (.pointer (some ⟨bf, 0, none⟩)) (.int .i64 next) (.int .i64 n))
      (Rt fun v h' => ∃ s : Int × (Int × Int), s = (if p.may n = false then (0, (at_, 120)) else (n, (next, 0))) ∧ v = .int .i64 s.1 ∧ h'[b]? = some ⟨.cells ty [cv, .int .i64 s.2.1, .int .i64 s.2.2], true⟩ ∧ Keep [b] h0 h') := by
  apply J_ops_reader_read_10_wp
  unfold J_ops_reader_read_10_b
  refine wp_obnd fa_T_ops_field_1 ?_
  refine wp_obnd (ld1 hf (by kernel_rfl)) ?_
  refine wp_may hm hn ?_
  refine wp_obnd un_not ?_
  refine wp_test (fun hc => ?_) fun hc => ?_
  · have hc : p.may n = false := by simpa using hc
    refine wp_obnd nilck ?_
    refine wp_obnd fa_T_ops_reader_2 ?_
    refine wp_st1 hb siz_T_api_Errno (by simp) rfl fun h1 k1 g1 l1 => ?_
    exact wp_some ⟨(0, (at_, 120)), by rw [if_pos hc], rfl, g1, hk.trans k1⟩
  · have hc : p.may n = true := by simpa using hc
    refine wp_obnd nilck ?_
    refine wp_obnd fa_T_ops_reader_1 ?_
    refine wp_st1 hb siz_T_int (by simp) rfl fun h1 k1 g1 l1 => ?_
    exact wp_some ⟨(n, (next, 0)), by rw [if_neg (by simp [hc])], rfl, g1, hk.trans k1⟩
end
theorem read_ok {h : Heap} {S S' : Nat → Prop} {b : Nat} {ty : TypeId} {cv : Value} {cs : List Value} {code : List UInt8} {at_ e : Int} {p : Pt} (hb : h[b]? = some ⟨.cells ty [cv, .int .i64 at_, .int .i64 e], true⟩) (hc : rBy.rep S h [cv] code) (hs : ∀ x, S x → x ≠ b) (hp : rFld.rep S' h cs p) (hs' : ∀ x, S' x → x ≠ b) (hat : inK .i64 at_) :
    WP (callW E fn_ops_reader_read [.pointer (some ⟨b, 0, none⟩), .agg ⟨cs⟩] h) (Rt fun v h' => v = .int .i64 (readS code p (at_, e)).1 ∧ h'[b]? = some ⟨.cells ty [cv, .int .i64 (readS code p (at_, e)).2.1, .int .i64 (readS code p (at_, e)).2.2], true⟩ ∧ Keep [b] h h') := by
  refine F_ops_reader_read ?_
  unfold B_ops_reader_read
  obtain ⟨fv, rfl, hm, hsz⟩ := rFld_cells hp
  refine wp_new (X := newBlk T_ops_field [.int .i64 p.size, fv]) (f := ptrTo) rfl fun h1 k1 g1 l1 => ?_
  have hb1 := k1.get hb (by simp)
  have kb : Keep [b] h h1 := k1.mono (by simp)
  refine wp_obnd nilck ?_
  refine wp_obnd fa_T_ops_reader_2 ?_
  refine wp_obnd (ld1 hb1 agg_T_api_Errno) ?_
  refine wp_net (fun he => ?_) fun he => ?_
  · refine wp_some ⟨?_, ?_, kb⟩
    · simp [readS, he]
    · simpa [readS, he] using hb1
  · subst he
    refine wp_obnd nilck ?_
    refine wp_obnd fa_T_ops_reader_0 ?_
    refine wp_obnd (ld1 hb1 agg_T_Suint8) ?_
    refine wp_obnd nilck ?_
    refine wp_obnd fa_T_ops_reader_1 ?_
    refine wp_obnd (ld1 hb1 agg_T_int) ?_
    refine wp_obnd fa_T_ops_field_0 ?_
    refine wp_obnd (ld1 g1 agg_T_int) ?_
    refine wp_retK (Wide_ok (rBy.keep0 hc k1) hat hsz) ?_
    rintro v h2 ⟨rfl, rfl⟩
    refine wp_obnd ext0 ?_
    refine wp_obnd ext1 ?_
    refine wp_obnd ext2 ?_
    refine wp_net (fun he => ?_) fun he => ?_
    · refine wp_obnd nilck ?_
      refine wp_obnd fa_T_ops_reader_2 ?_
      refine wp_st1 hb1 siz_T_api_Errno (by simp) rfl fun h3 k3 g3 l3 => ?_
      refine wp_some ⟨?_, ?_, kb.trans k3⟩
      · simp [readS, he]
      · simpa [readS, he] using g3
    · refine wp_obnd cv_T_uint64_T_int64 ?_
      refine wp_obnd fa_T_ops_field_1 ?_
      refine wp_obnd (ld1 g1 (by kernel_rfl)) ?_
      have hm1 := rMay.keep0 hm k1
      refine wp_may hm1 (wrap_in _) ?_
      refine wp_obnd un_not ?_
      have fin : WP (J_ops_reader_read_10 (callW E) h2 (.pointer (some ⟨b, 0, none⟩)) (.pointer (some ⟨h.length, 0, none⟩)) (.int .i64 (wideS code at_ p.size).2.1) (.int .i64 (signS p (wideS code at_ p.size).1))) (Rt fun v h' => v = .int .i64 (readS code p (at_, 0)).1 ∧ h'[b]? = some ⟨.cells ty [cv, .int .i64 (readS code p (at_, 0)).2.1, .int .i64 (readS code p (at_, 0)).2.2], true⟩ ∧ Keep [b] h h') := by
        refine wp_rt (read10 hb1 g1 hm1 (signS_in _ _) kb) ?_
        rintro v h' ⟨s, hs, rfl, hg, hk⟩
        have e : readS code p (at_, 0) = s := by
          rw [hs]
          simp only [readS, he]
          simp
        rw [e]
        exact ⟨rfl, hg, hk⟩
      refine wp_guard (fun hc => ?_) fun hc => ?_
      · have hc : p.may (IntKind.i64.wrap (wideS code at_ p.size).1) = false := by simpa using hc
        refine wp_obnd fa_T_ops_field_0 ?_
        refine wp_obnd (ld1 g1 agg_T_int) ?_
        refine wp_obnd bin_lss ?_
        apply J_ops_reader_read_1000010_wp
        unfold J_ops_reader_read_1000010_b
        refine wp_test (fun hd => ?_) fun hd => ?_
        · have hd : p.size < 8 := of_decide_eq_true hd
          refine wp_obnd fa_T_ops_field_0 ?_
          refine wp_obnd (ld1 g1 agg_T_int) ?_
          refine wp_obnd bin_mul ?_
          have h8 : (0 : Int) ≤ IntKind.i64.wrap (8 * p.size) := by
            have hw := wideS_ok he
            rw [wrap_id (by simp only [inK]; omega)]
            omega
          refine wp_obnd (bin_shl h8) ?_
          refine wp_obnd bin_sub ?_
          rw [signS_neg hc hd]
          exact fin
        · have hd : ¬ p.size < 8 := of_decide_eq_false hd
          rw [← signS_pos (.inr hd)]
          exact fin
      · have hc : p.may (IntKind.i64.wrap (wideS code at_ p.size).1) = true := by simpa using hc
        apply J_ops_reader_read_1000010_wp
        unfold J_ops_reader_read_1000010_b
        simp only [condF_false]
        rw [← signS_pos (.inl hc)]
        exact fin
end Go.Proofs.Ytmdffenlehcekaa

namespace Go.Proofs.Ytmdffenlehcekaa
open Go Go.Am

def valPt (w : Int) : Pt := if w = 1 then ⟨8, -128, 127, true⟩ else if w = 2 then ⟨8, -2147483648, 2147483647, true⟩ else if w = 3 then ⟨8, -9223372036854775808, 9223372036854775807, true⟩ else ⟨8, 1, 0, true⟩
def armsGo (code : List UInt8) (val : Pt) : Nat → (Int × Int) → List (Int × Int) → List (Int × Int) × (Int × Int)
  | 0, s, acc => (acc, s)
  | n + 1, s, acc => if s.2 ≠ 0 then (acc, s) else
    armsGo code val n (readS code pLeap (readS code val s).2).2 (acc ++ [((readS code val s).1, (readS code pLeap (readS code val s).2).1)])
def zIns : Ins := ⟨0, 0, 0, []⟩
def headS (code : List UInt8) (l : List Pt) (s : Int × Int) : Int × Int × (Int × Int) := match l with
  | [] => (0, 0, s)
  | [p] => ((readS code p s).1, 0, (readS code p s).2)
  | p :: q :: _ => ((readS code p s).1, (readS code q (readS code p s).2).1, (readS code q (readS code p s).2).2)
def tailS (code : List UInt8) (op a b : Int) (s : Int × Int) : Ins × (Int × Int) :=
  if op = 49 then
    let c := readS code pPlace s
    let r := armsGo code (valPt a) c.1.toNat c.2 []
    let d := readS code pLeap r.2
    (⟨op, a, d.1, r.1⟩, d.2)
  else (⟨op, a, b, []⟩, s)
def decodeAt (code : List UInt8) (op : Int) (at_ : Int) : Ins × Int × Int :=
  if (partsS op).2 = false then (zIns, 0, 120)
  else
    let r := headS code (partsS op).1 (at_ + 1, 0)
    let t := tailS code op r.1 r.2.1 r.2.2
    if t.2.2 ≠ 0 then (zIns, 0, t.2.2) else (t.1, t.2.1, 0)
def decodeS (code : List UInt8) (at_ : Int) : Ins × Int × Int :=
  if at_ < 0 ∨ at_ ≥ code.length then (zIns, 0, 2) else decodeAt code ((code[at_.toNat]?.getD 0).toNat : Int) at_

theorem readS_in {code : List UInt8} {p : Pt} {s : Int × Int} (hl : code.length < 4611686018427387904) (hs : inK .i64 s.1) : inK .i64 (readS code p s).1 ∧ inK .i64 (readS code p s).2.1 := by
  unfold readS
  split
  · exact ⟨by simp [inK], hs⟩
  · split
    · exact ⟨by simp [inK], hs⟩
    · rename_i h1 h2
      split
      · exact ⟨by simp [inK], hs⟩
      · refine ⟨signS_in _ _, ?_⟩
        have := wideS_ok (Decidable.not_not.1 h2)
        simp only [this.2.2.2.2, inK]
        omega
def armCells (l : List (Int × Int)) : List Value := l.flatMap fun p => [.int .i64 p.1, .int .i64 p.2]
theorem armCells_len (l : List (Int × Int)) : (armCells l).length = l.length * 2 := by
  unfold armCells
  induction l with
  | nil => rfl
  | cons x l ih => rw [List.flatMap_cons, List.length_append, ih, List.length_cons]; simp; omega
theorem armCells_snoc (l : List (Int × Int)) (x : Int × Int) : armCells (l ++ [x]) = armCells l ++ [.int .i64 x.1, .int .i64 x.2] := by
  unfold armCells
  rw [List.flatMap_append]
  rfl
theorem armCells_chunk : ∀ (l : List (Int × Int)) (i : Nat) (x : Int × Int), l[i]? = some x → chunk 2 i (armCells l) = [.int .i64 x.1, .int .i64 x.2]
  | [], i, x, h => by simp at h
  | y :: l, 0, x, h => by
    simp at h
    subst h
    rfl
  | y :: l, i + 1, x, h => by
    have := armCells_chunk l i x (by simpa using h)
    rw [← this]
    have e : armCells (y :: l) = .int .i64 y.1 :: .int .i64 y.2 :: armCells l := rfl
    rw [e]
    unfold chunk
    rw [show (i + 1) * 2 = i * 2 + 1 + 1 from by omega]
    rfl
theorem arms_rep {S : Nat → Prop} {h : Heap} {v : Value} {l : List (Int × Int)} (ho : OwnL h v T_api_Arm 2 l.length (armCells l)) (hs : ∀ b, b ∈ blks v → S b) (hr : ∀ x, x ∈ l → inK .i64 x.1 ∧ inK .i64 x.2) : (rLw rArm).rep S h [v] l := by
  refine OwnL.repW (A := rArm) ho hs fun i x hx => ?_
  have := armCells_chunk l i x hx
  rw [show rArm.sz = 2 from rfl, this]
  have hx := hr x (List.mem_of_getElem? hx)
  exact ⟨[_], [_], rfl, ⟨rfl, hx.1⟩, ⟨rfl, hx.2⟩⟩

/-! ### the state of a run of Decode -/
structure DS (h0 h : Heap) (b4 bx br N : Nat) (cv av : Value) (code : List UInt8) (op a b at_ e : Int) (arms : List (Int × Int)) : Prop where
  keep : Keep [] h0 h
  o1 : h0.length ≤ b4
  o2 : b4 < bx
  o3 : bx < br
  o4 : br < N
  o5 : N ≤ h.length
  res : ∃ z, h[b4]? = some ⟨.cells T_api_Instr z, true⟩ ∧ z.length = 4
  ins : h[bx]? = some ⟨.cells T_api_Instr [.int .u8 op, .int .i64 a, .int .i64 b, av], true⟩
  rd : h[br]? = some ⟨.cells T_ops_reader [cv, .int .i64 at_, .int .i64 e], true⟩
  code : rBy.rep (fun x => x < h0.length) h [cv] code
  aown : OwnL h av T_api_Arm 2 arms.length (armCells arms)
  armb : ∀ x, x ∈ blks av → N ≤ x
  inat : inK .i64 at_
  ina : inK .i64 a
  inb : inK .i64 b
  inop : inK .u8 op
  inarms : ∀ x, x ∈ arms → inK .i64 x.1 ∧ inK .i64 x.2
section
variable {h0 h h' : Heap} {b4 bx br N : Nat} {cv av : Value} {code : List UInt8} {op a b at_ e : Int} {arms : List (Int × Int)}
theorem DS.go (d : DS h0 h b4 bx br N cv av code op a b at_ e arms) (k : Keep [] h h') : DS h0 h' b4 bx br N cv av code op a b at_ e arms :=
  { d with
    keep := d.keep.trans k, o5 := Nat.le_trans d.o5 k.len
    res := by obtain ⟨z, h1, h2⟩ := d.res; exact ⟨z, k.get h1 (by simp), h2⟩
    ins := k.get d.ins (by simp), rd := k.get d.rd (by simp), code := rBy.keep0 d.code k, aown := d.aown.go k (by simp) }
theorem DS.read (d : DS h0 h b4 bx br N cv av code op a b at_ e arms) {at' e' : Int} (k : Keep [br] h h') (g : h'[br]? = some ⟨.cells T_ops_reader [cv, .int .i64 at', .int .i64 e'], true⟩) (hi : inK .i64 at') : DS h0 h' b4 bx br N cv av code op a b at' e' arms := by
  have := d.o1; have := d.o2; have := d.o3; have := d.o4
  exact { d with
    keep := d.keep.trans_new k (by simp; omega), o5 := Nat.le_trans d.o5 k.len
    res := by obtain ⟨z, h1, h2⟩ := d.res; exact ⟨z, k.get h1 (by simp; omega), h2⟩
    ins := k.get d.ins (by simp; omega), rd := g, code := rBy.keep d.code k (by simp; intro b hb; omega), aown := d.aown.go k (fun b hb => by have := d.armb b hb; simp; omega), inat := hi }
theorem DS.setA (d : DS h0 h b4 bx br N cv av code op a b at_ e arms) {a' : Int} (k : Keep [bx] h h') (g : h'[bx]? = some ⟨.cells T_api_Instr [.int .u8 op, .int .i64 a', .int .i64 b, av], true⟩) (hi : inK .i64 a') : DS h0 h' b4 bx br N cv av code op a' b at_ e arms := by
  have := d.o1; have := d.o2; have := d.o3; have := d.o4
  exact { d with
    keep := d.keep.trans_new k (by simp; omega), o5 := Nat.le_trans d.o5 k.len
    res := by obtain ⟨z, h1, h2⟩ := d.res; exact ⟨z, k.get h1 (by simp; omega), h2⟩
    ins := g, rd := k.get d.rd (by simp; omega), code := rBy.keep d.code k (by simp; intro b hb; omega), aown := d.aown.go k (fun b hb => by have := d.armb b hb; simp; omega), ina := hi }
theorem DS.setB (d : DS h0 h b4 bx br N cv av code op a b at_ e arms) {b' : Int} (k : Keep [bx] h h') (g : h'[bx]? = some ⟨.cells T_api_Instr [.int .u8 op, .int .i64 a, .int .i64 b', av], true⟩) (hi : inK .i64 b') : DS h0 h' b4 bx br N cv av code op a b' at_ e arms := by
  have := d.o1; have := d.o2; have := d.o3; have := d.o4
  exact { d with
    keep := d.keep.trans_new k (by simp; omega), o5 := Nat.le_trans d.o5 k.len
    res := by obtain ⟨z, h1, h2⟩ := d.res; exact ⟨z, k.get h1 (by simp; omega), h2⟩
    ins := g, rd := k.get d.rd (by simp; omega), code := rBy.keep d.code k (by simp; intro b hb; omega), aown := d.aown.go k (fun b hb => by have := d.armb b hb; simp; omega), inb := hi }
def DecPost (h0 : Heap) (r : Ins × Int × Int) (v : Value) (h' : Heap) : Prop :=
  ∃ cs, v = .tuple ⟨[.agg ⟨cs⟩, .int .i64 r.2.1, .int .i64 r.2.2]⟩ ∧ rInsW.rep (fun b => h0.length ≤ b) h' cs r.1 ∧ Keep [] h0 h'
theorem zIns_rep {S : Nat → Prop} {h : Heap} : rInsW.rep S h [.int .u8 0, .int .i64 0, .int .i64 0, .slice none 0 0] zIns := rInsW_mk (x := zIns) (by simp [inK, zIns]) (by simp [inK, zIns]) (by simp [inK, zIns]) rLw_nil
theorem dec23 (d : DS h0 h b4 bx br N cv av code op a b at_ e arms) : WP (J_ops_Decode_23 (callW E) h (.pointer (some ⟨b4, 0, none⟩)) (.pointer (some ⟨bx, 0, none⟩)) (.pointer (some ⟨br, 0, none⟩))) (Rt (DecPost h0 (if e ≠ 0 then (zIns, 0, e) else (⟨op, a, b, arms⟩, at_, 0)))) := by
  have o1 := d.o1; have o2 := d.o2; have o3 := d.o3; have o4 := d.o4
  obtain ⟨z, hz, hzl⟩ := d.res
  apply J_ops_Decode_23_wp
  unfold J_ops_Decode_23_b
  refine wp_obnd nilck ?_
  refine wp_obnd fa_T_ops_reader_2 ?_
  refine wp_obnd (ld1 d.rd agg_T_api_Errno) ?_
  refine wp_net (fun he => ?_) fun he => ?_
  · refine wp_obnd (a := .agg ⟨[.int .u8 0, .int .i64 0, .int .i64 0, .slice none 0 0]⟩) (by kernel_rfl) ?_
    refine wp_obnd nilck ?_
    refine wp_obnd fa_T_ops_reader_2 ?_
    refine wp_obnd (ld1 d.rd agg_T_api_Errno) ?_
    refine wp_stA hz siz_T_api_Instr hzl fun h1 k1 g1 l1 => ?_
    refine wp_chkActs ?_ ?_
    · intro x hx b hb
      simp only [List.mem_singleton] at hx
      subst hx
      simp only [blkOf, Option.some.injEq] at hb
      subst hb
      exact k1.at_ _ (get_lt d.rd) (by simp; omega)
    · refine kr_ops_Decode rfl rfl rfl (ldA g1 agg_T_api_Instr siz_T_api_Instr) ?_
      rw [if_pos he]
      exact ⟨_, rfl, zIns_rep, d.keep.trans_new k1 (by simp; omega)⟩
  · refine wp_obnd (ldA d.ins agg_T_api_Instr siz_T_api_Instr) ?_
    refine wp_obnd nilck ?_
    refine wp_obnd fa_T_ops_reader_1 ?_
    refine wp_obnd (ld1 d.rd agg_T_int) ?_
    refine wp_stA hz siz_T_api_Instr hzl fun h1 k1 g1 l1 => ?_
    refine wp_chkActs ?_ ?_
    · intro x hx b hb
      simp only [List.mem_singleton] at hx
      subst hx
      simp only [blkOf, Option.some.injEq] at hb
      subst hb
      exact k1.at_ _ (get_lt d.rd) (by simp; omega)
    · refine kr_ops_Decode rfl rfl rfl (ldA g1 agg_T_api_Instr siz_T_api_Instr) ?_
      rw [if_neg (by simp [he])]
      refine ⟨_, rfl, rInsW_mk (x := ⟨op, a, b, arms⟩) d.inop d.ina d.inb ?_, d.keep.trans_new k1 (by simp; omega)⟩
      refine arms_rep (d.aown.go k1 fun b hb => ?_) (fun b hb => ?_) d.inarms
      · have := d.armb b hb; simp; omega
      · have := d.armb b hb; omega
end
end Go.Proofs.Ytmdffenlehcekaa

namespace Go.Proofs.Ytmdffenlehcekaa
open Go Go.Am
section
variable {h0 h h' : Heap} {b4 bx br N : Nat} {cv av : Value} {code : List UInt8} {op a b at_ e : Int} {arms : List (Int × Int)}
abbrev pt (b : Nat) : Value := .pointer (some ⟨b, 0, none⟩)
theorem DS.codelt (d : DS h0 h b4 bx br N cv av code op a b at_ e arms) : code.length < 4611686018427387904 := rBy_lt d.code
/-- A field is read. -/
theorem wp_read (d : DS h0 h b4 bx br N cv av code op a b at_ e arms) {S : Nat → Prop} {cs : List Value} {p : Pt} {k : Value → Heap → R} {g : Value → Heap → R} {Q : Ret → Heap → Prop} (hp : rFld.rep S h cs p) (hs : ∀ x, S x → x ≠ br)
    (hk : ∀ h', DS h0 h' b4 bx br N cv av code op a b (readS code p (at_, e)).2.1 (readS code p (at_, e)).2.2 arms → Keep [br] h h' → WP (k (.int .i64 (readS code p (at_, e)).1) h') Q) :
    WP (retK (callW E fn_ops_reader_read [pt br, .agg ⟨cs⟩] h) k g) Q := by
  have o1 := d.o1; have o2 := d.o2; have o3 := d.o3; have o4 := d.o4
  refine wp_retK (read_ok d.rd d.code (fun x hx => by omega) hp hs d.inat) ?_
  rintro v h1 ⟨rfl, g1, k1⟩
  exact hk h1 (d.read k1 g1 (readS_in (s := (at_, e)) d.codelt d.inat).2) k1
theorem wp_setA (d : DS h0 h b4 bx br N cv av code op a b at_ e arms) {n : Int} {k : Heap → R} {Q : Ret → Heap → Prop} (hn : inK .i64 n) (hk : ∀ h', DS h0 h' b4 bx br N cv av code op n b at_ e arms → Keep [bx] h h' → WP (k h') Q) :
    WP (obnd (aStore Try.prog T_int64 (.pointer (some ⟨bx, 0 + 1, none⟩)) (.int .i64 n) h) k) Q :=
  wp_st1 d.ins siz_T_int64 (by simp) rfl fun h1 k1 g1 l1 => hk h1 (d.setA k1 g1 hn) k1
theorem wp_setB (d : DS h0 h b4 bx br N cv av code op a b at_ e arms) {n : Int} {k : Heap → R} {Q : Ret → Heap → Prop} (hn : inK .i64 n) (hk : ∀ h', DS h0 h' b4 bx br N cv av code op a n at_ e arms → Keep [bx] h h' → WP (k h') Q) :
    WP (obnd (aStore Try.prog T_int64 (.pointer (some ⟨bx, 0 + 2, none⟩)) (.int .i64 n) h) k) Q :=
  wp_st1 d.ins siz_T_int64 (by simp) rfl fun h1 k1 g1 l1 => hk h1 (d.setB k1 g1 hn) k1

/-! ### the fields -/
abbrev SL (bx br : Nat) : Nat → Prop := fun x => bx < x ∧ x < br
theorem SL_keepX {α : Type} {h1 : Heap} {A : Rp α} {cs : List Value} {x : α} (hr : A.rep (SL bx br) h cs x) (k : Keep [bx] h h1) : A.rep (SL bx br) h1 cs x := A.keep hr k (by rintro b ⟨h1, h2⟩; simp; omega)
theorem SL_keepR {α : Type} {h1 : Heap} {A : Rp α} {cs : List Value} {x : α} (hr : A.rep (SL bx br) h cs x) (k : Keep [br] h h1) : A.rep (SL bx br) h1 cs x := A.keep hr k (by rintro b ⟨h1, h2⟩; simp; omega)
theorem dec9_end {lv : Value} {ps : List Pt} {Q : Ret → Heap → Prop} (hk : WP (J_ops_Decode_15 (callW E) h (pt b4) (pt bx) (pt br)) Q) : WP (L_ops_Decode_9 (callW E) h (pt b4) (pt bx) (pt br) lv (.int .i64 ps.length) (.int .i64 ps.length)) Q := by
  apply L_ops_Decode_9_wp
  unfold L_ops_Decode_9_b
  exact wp_ltt (fun hc => absurd hc (by omega)) fun _ => hk
theorem dec9_round (d : DS h0 h b4 bx br N cv av code op a b at_ e arms) {lv : Value} {ps : List Pt} {p : Pt} {i : Nat} (hl : (rL rFld).rep (SL bx br) h [lv] ps) (hp : ps[i]? = some p) {Q : Ret → Heap → Prop}
    (hk : ∀ h', DS h0 h' b4 bx br N cv av code op (if i = 0 then (readS code p (at_, e)).1 else a) (if i = 0 then b else (readS code p (at_, e)).1) (readS code p (at_, e)).2.1 (readS code p (at_, e)).2.2 arms → (rL rFld).rep (SL bx br) h' [lv] ps →
      WP (L_ops_Decode_9 (callW E) h' (pt b4) (pt bx) (pt br) lv (.int .i64 ps.length) (.int .i64 ((i + 1 : Nat) : Int))) Q) :
    WP (L_ops_Decode_9 (callW E) h (pt b4) (pt bx) (pt br) lv (.int .i64 ps.length) (.int .i64 i)) Q := by
  have hlt := rL_lt hl
  have hi := (List.getElem?_eq_some_iff.1 hp).1
  have o5 := d.o5; have o4 := d.o4
  have hrin := readS_in (code := code) (p := p) (s := (at_, e)) d.codelt d.inat
  apply L_ops_Decode_9_wp
  unfold L_ops_Decode_9_b
  refine wp_ltt (fun _ => ?_) fun hc => absurd hc (by omega)
  obtain ⟨q, cs, h1, h2, h3⟩ := rL_getG (P := Try.prog) (k := .i64) hl slc_T_Sops_field siz_T_ops_field agg_T_ops_field hp
  refine wp_obnd h1 ?_
  refine wp_obnd h2 ?_
  refine wp_new al_T_ops_field fun h4 k4 g4 l4 => ?_
  have hcs : cs.length = 2 := rFld.len h3
  refine wp_stA g4 (by rw [hcs]; exact siz_T_ops_field) (by rw [hcs]; rfl) fun h5 k5 g5 l5 => ?_
  have k45 : Keep [] h h5 := k4.trans_new k5 (by simp)
  have d5 := d.go k45
  have h35 := rFld.keep0 h3 k45
  have hl5 := (rL rFld).keep0 hl k45
  refine wp_eqt (fun hz => ?_) fun hz => ?_
  · obtain rfl : i = 0 := by omega
    refine wp_obnd (ldA g5 agg_T_ops_field (by rw [hcs]; exact siz_T_ops_field)) ?_
    refine wp_read d5 h35 (by rintro x ⟨_, hx⟩; omega) fun h6 d6 k6 => ?_
    refine wp_obnd fa_T_api_Instr_1 ?_
    refine wp_setA d6 hrin.1 fun h7 d7 k7 => ?_
    refine wp_obnd bin_add ?_
    rw [wrap_succ (show (0 : Nat) < 9223372036854775807 by omega)]
    exact hk h7 (by simpa using d7) (SL_keepX (SL_keepR hl5 k6) k7)
  · have hz : i ≠ 0 := by omega
    refine wp_obnd (ldA g5 agg_T_ops_field (by rw [hcs]; exact siz_T_ops_field)) ?_
    refine wp_read d5 h35 (by rintro x ⟨_, hx⟩; omega) fun h6 d6 k6 => ?_
    refine wp_obnd fa_T_api_Instr_2 ?_
    refine wp_setB d6 hrin.1 fun h7 d7 k7 => ?_
    refine wp_obnd bin_add ?_
    rw [wrap_succ (show i < 9223372036854775807 by omega)]
    exact hk h7 (by simpa [hz] using d7) (SL_keepX (SL_keepR hl5 k6) k7)

/-! ### the arms -/
theorem dec22 (d : DS h0 h b4 bx br N cv av code op a b at_ e arms) {bl : Nat} {tf : TypeId} {fv : Value} {S : Nat → Prop} (hg : h[bl]? = some ⟨.cells tf [.int .i64 4, fv], true⟩) (hr : rFld.rep S h [.int .i64 4, fv] pLeap) (hs : ∀ x, S x → x ≠ br) :
    WP (J_ops_Decode_22 (callW E) h (pt b4) (pt bx) (pt br) (pt bl)) (Rt (DecPost h0 (if (readS code pLeap (at_, e)).2.2 ≠ 0 then (zIns, 0, (readS code pLeap (at_, e)).2.2) else (⟨op, a, (readS code pLeap (at_, e)).1, arms⟩, (readS code pLeap (at_, e)).2.1, 0)))) := by
  have hrin := readS_in (code := code) (p := pLeap) (s := (at_, e)) d.codelt d.inat
  apply J_ops_Decode_22_wp
  unfold J_ops_Decode_22_b
  refine wp_obnd (ldA hg agg_T_ops_field siz_T_ops_field) ?_
  refine wp_read d hr hs fun h6 d6 k6 => ?_
  refine wp_obnd fa_T_api_Instr_2 ?_
  refine wp_setB d6 hrin.1 fun h7 d7 k7 => ?_
  exact dec23 d7
/-- The fields that lie in blocks. -/
structure FS (h : Heap) (br N bl bv : Nat) (val : Pt) : Prop where
  l1 : br < bl ∧ bl < N
  l2 : br < bv ∧ bv < N
  leap : ∃ t f, h[bl]? = some ⟨.cells t [.int .i64 4, f], true⟩ ∧ rFld.rep (fun x => br < x ∧ x < N) h [.int .i64 4, f] pLeap
  val : ∃ t f, h[bv]? = some ⟨.cells t [.int .i64 8, f], true⟩ ∧ rFld.rep (fun x => br < x ∧ x < N) h [.int .i64 8, f] val
theorem FS.go {bl bv : Nat} {val : Pt} {M : List Nat} (f : FS h br N bl bv val) (k : Keep M h h') (hM : ∀ x, x ∈ M → x ≤ br ∨ N ≤ x) : FS h' br N bl bv val := by
  obtain ⟨l1, l2, ⟨t1, f1, g1, r1⟩, ⟨t2, f2, g2, r2⟩⟩ := f
  refine ⟨l1, l2, ⟨t1, f1, k.get g1 ?_, rFld.keep r1 k ?_⟩, ⟨t2, f2, k.get g2 ?_, rFld.keep r2 k ?_⟩⟩
  · intro hx; rcases hM _ hx with h | h <;> omega
  · rintro x ⟨_, _⟩ hx; rcases hM _ hx with h | h <;> omega
  · intro hx; rcases hM _ hx with h | h <;> omega
  · rintro x ⟨_, _⟩ hx; rcases hM _ hx with h | h <;> omega
theorem DS.goM (d : DS h0 h b4 bx br N cv av code op a b at_ e arms) {M : List Nat} (k : Keep M h h') (hM : ∀ x, x ∈ M → N ≤ x ∧ x ∉ blks av) : DS h0 h' b4 bx br N cv av code op a b at_ e arms := by
  have o1 := d.o1; have o2 := d.o2; have o3 := d.o3; have o4 := d.o4
  have nm : ∀ x, x < N → x ∉ M := fun x hx hm => by have := (hM x hm).1; omega
  exact { d with
    keep := d.keep.trans_new k fun x hx => by have := (hM x hx).1; exact .inr (by omega)
    o5 := Nat.le_trans d.o5 k.len
    res := by obtain ⟨z, h1, h2⟩ := d.res; exact ⟨z, k.get h1 (nm _ (by omega)), h2⟩
    ins := k.get d.ins (nm _ (by omega)), rd := k.get d.rd (nm _ (by omega)), code := rBy.keep d.code k fun x hx => nm _ (by omega), aown := d.aown.go k fun x hx hm => (hM x hm).2 hx }
def finS (code : List UInt8) (op a : Int) (r : List (Int × Int) × (Int × Int)) : Ins × Int × Int :=
  if (readS code pLeap r.2).2.2 ≠ 0 then (zIns, 0, (readS code pLeap r.2).2.2) else (⟨op, a, (readS code pLeap r.2).1, r.1⟩, (readS code pLeap r.2).2.1, 0)
theorem dec22' (d : DS h0 h b4 bx br N cv av code op a b at_ e arms) {bl bv : Nat} {val : Pt} (f : FS h br N bl bv val) :
    WP (J_ops_Decode_22 (callW E) h (pt b4) (pt bx) (pt br) (pt bl)) (Rt (DecPost h0 (finS code op a (arms, (at_, e))))) := by
  obtain ⟨t1, f1, g1, r1⟩ := f.leap
  exact dec22 d g1 r1 (by rintro x ⟨h1, _⟩; omega)
theorem dec18 {bl bv : Nat} {val : Pt} : ∀ (m : Nat) (h : Heap) (av : Value) (at_ e : Int) (arms : List (Int × Int)), DS h0 h b4 bx br N cv av code op a b at_ e arms → FS h br N bl bv val → arms.length + m ≤ 65536 →
    WP (L_ops_Decode_18 (callW E) h (pt b4) (pt bx) (pt br) (pt bl) (pt bv) (.int .i64 m)) (Rt (DecPost h0 (finS code op a (armsGo code val m (at_, e) arms)))) := by
  intro m
  induction m with
  | zero =>
    intro h av at_ e arms d f hm
    apply L_ops_Decode_18_wp
    unfold L_ops_Decode_18_b
    refine wp_obnd bin_gtr ?_
    refine wp_guard (fun hc => by simp at hc) fun _ => ?_
    exact dec22' d f
  | succ m ih =>
    intro h av at_ e arms d f hm
    have o1 := d.o1; have o2 := d.o2; have o3 := d.o3; have o4 := d.o4; have o5 := d.o5
    apply L_ops_Decode_18_wp
    unfold L_ops_Decode_18_b
    refine wp_obnd bin_gtr ?_
    refine wp_guard (fun _ => ?_) fun hc => by simp at hc
    refine wp_obnd nilck ?_
    refine wp_obnd fa_T_ops_reader_2 ?_
    refine wp_obnd (ld1 d.rd agg_T_api_Errno) ?_
    refine wp_eqt (fun he => ?_) fun he => ?_
    · subst he
      obtain ⟨t2, f2, g2, r2⟩ := f.val
      refine wp_obnd (ldA g2 agg_T_ops_field siz_T_ops_field) ?_
      have hr1 := readS_in (code := code) (p := val) (s := (at_, 0)) d.codelt d.inat
      refine wp_read d r2 (by rintro x ⟨h1, _⟩; omega) fun h1 d1 k1 => ?_
      have o51 := d1.o5
      have f1 := f.go k1 (by simp)
      refine wp_obnd fa_T_api_Instr_3 ?_
      generalize hre : h1 ++ List.replicate 1 deadBlk = hr
      have kr : Keep [] h1 hr := by rw [← hre]; exact Keep.push _ _ _
      have lr : hr.length = h1.length + 1 := by rw [← hre]; simp
      have dr := d1.go kr
      have fr := f1.go kr (by simp)
      refine wp_chkRd (b := bx) rfl (by simp; omega) (by simp) ?_
      refine wp_obnd (ld1 dr.ins agg_T_Sapi_Arm) ?_
      refine wp_chkRd (b := bl) rfl (by have := f.l1; simp; omega) (by simp) ?_
      obtain ⟨t3, f3, g3, r3⟩ := fr.leap
      refine wp_obnd (ldA g3 agg_T_ops_field siz_T_ops_field) ?_
      have hr2 := readS_in (code := code) (p := pLeap) (s := (readS code val (at_, 0)).2) d.codelt hr1.2
      refine wp_read dr r3 (by rintro x ⟨h1, _⟩; omega) fun h2 d2 k2 => ?_
      have f2 := fr.go k2 (by simp)
      have l2 := k2.len
      refine wp_chkActs ?_ ?_
      · intro x hx b hb
        simp only [List.mem_singleton] at hx
        subst hx
        simp only [blkOf, Option.some.injEq] at hb
        subst hb
        exact k2.at_ _ (get_lt dr.ins) (by simp; omega)
      refine wp_obnd (a := .agg ⟨[.int .i64 (readS code val (at_, 0)).1, .int .i64 (readS code pLeap (readS code val (at_, 0)).2).1]⟩) (by kernel_rfl) ?_
      refine wp_put (X := newBlk T_api_Arm [.int .i64 (readS code val (at_, 0)).1, .int .i64 (readS code pLeap (readS code val (at_, 0)).2).1]) (f := sliceTo 1 1) (by kernel_rfl) (by omega) fun h3 k3 g3 l3 => ?_
      have avlt := d1.aown.lt
      have d3 := d2.goM k3 (by simp; exact ⟨by omega, fun hx => by have := avlt _ hx; omega⟩)
      have f3 := f2.go k3 (by simp; omega)
      have hdist : ∀ x, x ∈ blks av → x ≠ h1.length + 0 := fun x hx hy => by have := avlt _ hx; omega
      have hlen := armCells_len arms
      refine wp_app d3.aown slc_T_Sapi_Arm inf_T_api_Arm nin_T_Sapi_Arm zer_T_api_Arm rfl rfl (by omega) (src_lit (n := 1) g3 rfl) rfl (by omega) (by omega) (by omega) fun v4 h4 o4' k4 b4' => ?_
      have hM : ∀ x, x ∈ blks av → N ≤ x := d.armb
      dsimp only
      refine wp_obnd fa_T_api_Instr_3 ?_
      have gins := k4.get d3.ins (fun hx => by have := hM _ hx; omega)
      have hv4 : cellsOfV v4 = some [v4] := by obtain ⟨a, c, rfl⟩ := o4'.form; rfl
      have l4 := k4.len
      have b4N : ∀ x, x ∈ blks v4 → N ≤ x := fun x hx => by
        rcases b4' x hx with hx | hx
        · exact hM x hx
        · omega
      refine wp_st1 gins siz_T_Sapi_Arm (by simp) hv4 fun h5 k5 g5 l5 => ?_
      have nm : ∀ x, x < N → x ∉ blks av := fun x hx hm => by have := hM x hm; omega
      have d5 : DS h0 h5 b4 bx br N cv v4 code op a b (readS code pLeap (readS code val (at_, 0)).2).2.1 (readS code pLeap (readS code val (at_, 0)).2).2.2 (arms ++ [((readS code val (at_, 0)).1, (readS code pLeap (readS code val (at_, 0)).2).1)]) :=
        { keep := (d3.keep.trans_new k4 fun x hx => .inr (by have := hM x hx; omega)).trans_new k5 (by simp; omega)
          o1 := o1, o2 := o2, o3 := o3, o4 := o4, o5 := by have := d3.o5; omega
          res := by obtain ⟨z, h1, h2⟩ := d3.res; exact ⟨z, k5.get (k4.get h1 (nm _ (by omega))) (by simp; omega), h2⟩
          ins := g5
          rd := k5.get (k4.get d3.rd (nm _ (by omega))) (by simp; omega)
          code := rBy.keep (rBy.keep d3.code k4 fun x hx => nm _ (by omega)) k5 fun x hx => by simp; omega
          aown := by
            have := o4'.go k5 (fun x hx => by have := b4N x hx; simp; omega)
            rw [armCells_snoc, List.length_append]
            exact this
          armb := b4N
          inat := hr2.2, ina := d.ina, inb := d.inb, inop := d.inop
          inarms := fun x hx => by
            rcases List.mem_append.1 hx with hx | hx
            · exact d.inarms x hx
            · simp only [List.mem_singleton] at hx
              subst hx
              exact ⟨hr1.1, hr2.1⟩ }
      have f5 := (f3.go k4 fun x hx => .inr (hM x hx)).go k5 (by simp; omega)
      refine wp_obnd bin_sub ?_
      have e1 : IntKind.i64.wrap (((m + 1 : Nat) : Int) - 1) = (m : Int) := by
        rw [show (((m + 1 : Nat) : Int) - 1) = (m : Int) from by omega, wrap_nat (by omega)]
      rw [e1]
      have := ih h5 v4 _ _ _ d5 f5 (by simp; omega)
      rw [show armsGo code val (m + 1) (at_, 0) arms = armsGo code val m (readS code pLeap (readS code val (at_, 0)).2).2 (arms ++ [((readS code val (at_, 0)).1, (readS code pLeap (readS code val (at_, 0)).2).1)]) from by
        conv => lhs; unfold armsGo
        rw [if_neg (by simp)]]
      exact this
    · rw [show armsGo code val (m + 1) (at_, e) arms = (arms, (at_, e)) from by
        unfold armsGo
        rw [if_pos he]]
      exact dec22' d f
theorem fits_val (w : Int) (n : Int) (hn : inK .i64 n) : fitsS (IntKind.u8.wrap w) n = (valPt (IntKind.u8.wrap w)).may n := by
  generalize IntKind.u8.wrap w = u
  unfold valPt
  by_cases h1 : u = 1
  · subst h1; exact fits1 n
  by_cases h2 : u = 2
  · subst h2; exact fits2 n
  by_cases h3 : u = 3
  · subst h3; exact fits3 n hn
  rw [if_neg h1, if_neg h2, if_neg h3]
  simp [fitsS, bitsS, h1, h2, h3, Pt.may]
  omega
theorem valPt_wrap {a : Int} (h : a = 0 ∨ 1 ≤ a ∧ a ≤ 3) : valPt (IntKind.u8.wrap a) = valPt a := by rw [wu8, show a % 256 = a from by omega]
theorem readS_le {p : Pt} {s : Int × Int} (hlo : 0 ≤ p.lo) (hhi : 0 ≤ p.hi) : 0 ≤ (readS code p s).1 ∧ (readS code p s).1 ≤ p.hi := by
  unfold readS
  split
  · exact ⟨Int.le_refl _, hhi⟩
  · split
    · exact ⟨Int.le_refl _, hhi⟩
    · split
      · exact ⟨Int.le_refl _, hhi⟩
      · rename_i h
        simp only [Pt.may, Bool.not_eq_false, Bool.and_eq_true, decide_eq_true_eq] at h
        exact ⟨by omega, h.2⟩
theorem dec15 (d : DS h0 h b4 bx br N cv (.slice none 0 0) code op a b at_ e []) (ha : op = 49 → a = 0 ∨ 1 ≤ a ∧ a ≤ 3) :
    WP (J_ops_Decode_15 (callW E) h (pt b4) (pt bx) (pt br)) (Rt (DecPost h0 (if (tailS code op a b (at_, e)).2.2 ≠ 0 then (zIns, 0, (tailS code op a b (at_, e)).2.2) else ((tailS code op a b (at_, e)).1, (tailS code op a b (at_, e)).2.1, 0)))) := by
  have o1 := d.o1; have o2 := d.o2; have o3 := d.o3; have o4 := d.o4; have o5 := d.o5
  apply J_ops_Decode_15_wp
  unfold J_ops_Decode_15_b
  refine wp_obnd fa_T_api_Instr_0 ?_
  refine wp_obnd (ld1 d.ins agg_T_uint8) ?_
  refine wp_eqt (fun ho => ?_) fun ho => ?_
  · generalize hre : h ++ List.replicate 2 deadBlk = hr
    have kr : Keep [] h hr := by rw [← hre]; exact Keep.push _ _ _
    have lr : hr.length = h.length + 2 := by rw [← hre]; simp
    refine wp_retK between_ok ?_
    rintro f1 h1 ⟨r1, c1, k1⟩
    have l1 := k1.len
    refine wp_obnd (bd_field c1) ?_
    refine wp_obnd fa_T_api_Instr_1 ?_
    have d1 := (d.go kr).go k1
    refine wp_chkRd (b := bx) rfl (by simp; omega) (by simp; exact (k1.at_ _ (by omega) (by simp)).symm) ?_
    refine wp_obnd (ld1 d1.ins agg_T_int64) ?_
    refine wp_obnd cv_T_int64_T_uint8 ?_
    refine wp_retK fits_ok ?_
    rintro f2 h2 ⟨r2, c2, k2⟩
    have l2 := k2.len
    refine wp_obnd (bd_field c2) ?_
    refine wp_put al_T_ops_field (by omega) fun h3 k3 g3 l3 => ?_
    refine wp_put al_T_ops_field (by omega) fun h4 k4 g4 l4 => ?_
    refine wp_stA (k4.get g3 (by simp)) siz_T_ops_field rfl fun h5 k5 g5 l5 => ?_
    refine wp_stA (k5.get g4 (by simp)) siz_T_ops_field rfl fun h6 k6 g6 l6 => ?_
    refine wp_retK between_ok ?_
    rintro f3 h7 ⟨r3, c3, k7⟩
    have l7 := k7.len
    refine wp_obnd (bd_field c3) ?_
    have nn : ∀ {M : List Nat}, (∀ x, x ∈ M → h.length ≤ x) → ∀ x, x ∈ M → N ≤ x ∧ x ∉ blks (.slice none 0 0) := fun hM x hx => ⟨by have := hM x hx; omega, by simp [blks, blkOf]⟩
    have d7 := (((((d1.go k2).goM k3 (nn (by simp))).goM k4 (nn (by simp))).goM k5 (nn (by simp))).goM k6 (nn (by simp))).go k7
    have r3' : rMay.rep (fun x => h6.length ≤ x) h7 [f3] pPlace.may := r3
    refine wp_read d7 (rFld_mk (p := pPlace) (by simp [inK, pPlace]) r3') (by intro x hx; omega) fun h8 d8 k8 => ?_
    have kM : ∀ {S : Nat → Prop} {f : Value} {p : Int → Bool} {ha hb : Heap} {M : List Nat}, rMay.rep S ha [f] p → Keep M ha hb → (∀ x, S x → x ∉ M) → rMay.rep S hb [f] p := fun hr k hm => rMay.keep hr k hm
    have q1 : rMay.rep (fun x => hr.length ≤ x) h8 [f1] pLeap.may := by
      refine kM (kM (kM (kM (kM (kM (kM r1 k2 (by simp)) k3 ?_) k4 ?_) k5 ?_) k6 ?_) k7 (by simp)) k8 ?_
      all_goals (intro x hx; simp; omega)
    have q2 : rMay.rep (fun x => h1.length ≤ x) h8 [f2] (fitsS (IntKind.u8.wrap a)) := by
      refine kM (kM (kM (kM (kM (kM r2 k3 ?_) k4 ?_) k5 ?_) k6 ?_) k7 (by simp)) k8 ?_
      all_goals (intro x hx; simp; omega)
    have q2' : rMay.rep (fun x => h1.length ≤ x) h8 [f2] (valPt (IntKind.u8.wrap a)).may := rMay_ext q2 (fits_val a)
    have g5' := k8.get (k7.get (k6.get g5 (by simp)) (by simp)) (show h.length + 0 ∉ [br] by simp; omega)
    have g6' := k8.get (k7.get g6 (by simp)) (show h.length + 1 ∉ [br] by simp; omega)
    have l8 := k8.len
    have hvs : (valPt (IntKind.u8.wrap a)).size = 8 := by unfold valPt; split <;> (try rfl); split <;> (try rfl); split <;> rfl
    have f8 : FS h8 br h8.length (h.length + 0) (h.length + 1) (valPt a) := by
      rw [← valPt_wrap (ha ho)]
      refine ⟨⟨by omega, by omega⟩, ⟨by omega, by omega⟩, ⟨_, _, g5', ?_⟩, ⟨_, _, g6', ?_⟩⟩
      · exact rFld_mk (p := pLeap) (by simp [inK, pLeap]) (rMay.sub q1 fun x hx hl => ⟨by omega, hl⟩)
      · have := rFld_mk (p := valPt (IntKind.u8.wrap a)) (by rw [hvs]; simp [inK]) (rMay.sub (S' := fun x => br < x ∧ x < h8.length) q2' fun x hx hl => ⟨by omega, hl⟩)
        rw [hvs] at this
        exact this
    have d8' : DS h0 h8 b4 bx br h8.length cv (.slice none 0 0) code op a b _ _ [] := { d8 with o4 := by have := d8.o5; omega, o5 := Nat.le_refl _, armb := fun x hx => by simp [blks, blkOf] at hx }
    have hn := readS_le (code := code) (p := pPlace) (s := (at_, e)) (by simp [pPlace]) (by simp [pPlace])
    obtain ⟨m, hm⟩ := Int.eq_ofNat_of_zero_le hn.1
    have hm2 : m ≤ 65535 := by have := hn.2; rw [hm] at this; simp [pPlace] at this; omega
    rw [hm]
    have := dec18 m h8 _ _ _ [] d8' f8 (by simp; omega)
    refine wp_rt this ?_
    intro v h' hp
    have e2 : finS code op a (armsGo code (valPt a) m (readS code pPlace (at_, e)).2 []) = (if (tailS code op a b (at_, e)).2.2 ≠ 0 then (zIns, 0, (tailS code op a b (at_, e)).2.2) else ((tailS code op a b (at_, e)).1, (tailS code op a b (at_, e)).2.1, 0)) := by
      unfold finS tailS
      rw [if_pos ho]
      simp only [hm, Int.toNat_natCast]
    rw [← e2]
    exact hp
  · have := dec23 d
    unfold tailS
    rw [if_neg ho]
    exact this
end
end Go.Proofs.Ytmdffenlehcekaa

set_option maxRecDepth 100000
namespace Go.Proofs.Ytmdffenlehcekaa
open Go Go.Am

theorem ite_ok {α : Type} {P : α → Prop} {c : Prop} [Decidable c] {a b : α} (h1 : P a) (h2 : P b) : P (if c then a else b) := by
  split
  · exact h1
  · exact h2
def Few (r : List Pt × Bool) : Prop := r.1 = [] ∨ (∃ p, r.1 = [p]) ∨ ∃ p q, r.1 = [p, q]
theorem parts_few (op : Int) : Few (partsS op) := by
  unfold partsS
  have one : ∀ p b, Few ([p], b) := fun p b => .inr (.inl ⟨p, rfl⟩)
  have two : ∀ p q b, Few ([p, q], b) := fun p q b => .inr (.inr ⟨p, q, rfl⟩)
  repeat' (refine ite_ok ?_ ?_)
  all_goals first
    | exact one _ _
    | exact two _ _ _
    | exact .inl rfl
theorem parts_len (op : Int) : (partsS op).1 = [] ∨ (∃ p, (partsS op).1 = [p]) ∨ ∃ p q, (partsS op).1 = [p, q] := parts_few op
theorem parts49 : partsS 49 = ([pWidth 3], true) := by decide
theorem dec_bad {h0 h : Heap} {b4 : Nat} {e : Int} (k : Keep [] h0 h) (ho : h0.length ≤ b4) {z : List Value} (hz : h[b4]? = some ⟨.cells T_api_Instr z, true⟩) (hl : z.length = 4) {K : Heap → R}
    (hK : ∀ h', aLoad Try.prog T_api_Instr h' (pt b4) = some (.agg ⟨[.int .u8 0, .int .i64 0, .int .i64 0, .slice none 0 0]⟩) → Keep [] h0 h' → WP (K h') (Rt (DecPost h0 (zIns, 0, e)))) :
    WP (obnd (aBuild Try.prog T_api_Instr []) fun x => obnd (aStore Try.prog T_api_Instr (pt b4) x h) K) (Rt (DecPost h0 (zIns, 0, e))) := by
  refine wp_obnd (a := .agg ⟨[.int .u8 0, .int .i64 0, .int .i64 0, .slice none 0 0]⟩) (by kernel_rfl) ?_
  refine wp_stA hz siz_T_api_Instr hl fun h1 k1 g1 l1 => ?_
  exact hK h1 (ldA g1 agg_T_api_Instr siz_T_api_Instr) (k.trans_new k1 (by simp; omega))
theorem decPost_zero {h0 h : Heap} {e : Int} (k : Keep [] h0 h) : DecPost h0 (zIns, 0, e) (.tuple ⟨[.agg ⟨[.int .u8 0, .int .i64 0, .int .i64 0, .slice none 0 0]⟩, .int .i64 0, .int .i64 e]⟩) h := ⟨_, rfl, zIns_rep, k⟩
theorem Decode_ok {h : Heap} {S : Nat → Prop} {cv : Value} {code : List UInt8} {at_ : Int} (hc : rBy.rep S h [cv] code) (hat : inK .i64 at_) :
    WP (callW E fn_ops_Decode [cv, .int .i64 at_] h) (Rt (DecPost h (decodeS code at_))) := by
  have hlt := rBy_lt hc
  refine F_ops_Decode ?_
  unfold B_ops_Decode
  refine wp_new al_T_api_Instr fun h1 k1 g1 l1 => ?_
  have hc1 := rBy.keep0 hc k1
  have bad : (at_ < 0 ∨ at_ ≥ code.length) → WP (J_ops_Decode_1000003 (callW E) h1 cv (.int .i64 at_) (pt h.length) (.bool true)) (Rt (DecPost h (decodeS code at_))) := by
    intro hb
    rw [show decodeS code at_ = (zIns, 0, 2) from by unfold decodeS; rw [if_pos hb]]
    apply J_ops_Decode_1000003_wp
    unfold J_ops_Decode_1000003_b
    simp only [condF_true]
    exact dec_bad k1 (Nat.le_refl _) g1 rfl fun h2 hl k2 => kr_ops_Decode rfl rfl rfl hl (decPost_zero k2)
  refine wp_obnd bin_lss ?_
  refine wp_guard (fun hc => bad (.inl (of_decide_eq_true hc))) fun c1 => ?_
  refine wp_obnd (rBy_len hc slc_T_Suint8) ?_
  refine wp_obnd bin_geq ?_
  cases c2 : decide (at_ ≥ (code.length : Int)) with
  | true => exact bad (.inr (of_decide_eq_true c2))
  | false =>
    have c1 := of_decide_eq_false c1
    have c2 := of_decide_eq_false c2
    obtain ⟨n, rfl⟩ := Int.eq_ofNat_of_zero_le (show 0 ≤ at_ by omega)
    have hn : n < code.length := by omega
    obtain ⟨b, hb⟩ := get_of_lt hn
    have e0 : decodeS code (n : Int) = decodeAt code (b.toNat : Int) n := by
      unfold decodeS
      rw [if_neg (by omega), Int.toNat_natCast, hb]
      rfl
    rw [e0]
    apply J_ops_Decode_1000003_wp
    unfold J_ops_Decode_1000003_b
    simp only [condF_false]
    obtain ⟨p, hp, hp2⟩ := rBy_get (P := Try.prog) (k := .i64) hc1 slc_T_Suint8 siz_T_uint8 agg_T_uint8 hb
    refine wp_obnd hp ?_
    refine wp_obnd hp2 ?_
    refine wp_obnd (a := .agg ⟨[.int .u8 b.toNat, .int .i64 0, .int .i64 0, .slice none 0 0]⟩) (by kernel_rfl) ?_
    refine wp_new al_T_api_Instr fun h2 k2 g2 l2 => ?_
    refine wp_stA g2 siz_T_api_Instr rfl fun h3 k3 g3 l3 => ?_
    refine wp_obnd fa_T_api_Instr_0 ?_
    refine wp_obnd (ld1 g3 agg_T_uint8) ?_
    have k23 : Keep [] h1 h3 := k2.trans_new k3 (by simp)
    refine wp_retK layout_ok ?_
    rintro v h4 ⟨lv, rfl, rl, k4⟩
    refine wp_obnd ext0 ?_
    refine wp_obnd ext1 ?_
    refine wp_obnd un_not ?_
    have g1' := k4.get (k23.get g1 (by simp)) (by simp)
    have k04 : Keep [] h h4 := (k1.trans k23).trans k4
    refine wp_test (fun hd => ?_) fun hd => ?_
    · have hd : (partsS (b.toNat : Int)).2 = false := by simpa using hd
      rw [show decodeAt code (b.toNat : Int) n = (zIns, 0, 120) from by unfold decodeAt; rw [if_pos hd]]
      exact dec_bad k04 (Nat.le_refl _) g1' rfl fun h2 hl k2 => kr_ops_Decode rfl rfl rfl hl (decPost_zero k2)
    · have hd : (partsS (b.toNat : Int)).2 = true := by simpa using hd
      refine wp_obnd bin_add ?_
      rw [wrap_succ (show n < 9223372036854775807 by omega)]
      obtain ⟨ca, cc, hcv, _⟩ := rBy_open hc
      subst hcv
      refine wp_obnd (a := .agg ⟨[.slice ca code.length cc, .int .i64 ((n + 1 : Nat) : Int), .int .i64 0]⟩) (by kernel_rfl) ?_
      refine wp_new (X := newBlk T_ops_reader [.slice ca code.length cc, .int .i64 ((n + 1 : Nat) : Int), .int .i64 0]) (f := ptrTo) rfl fun h5 k5 g5 l5 => ?_
      have l4 := k4.len
      have hlt2 := rL_lt rl
      refine wp_obnd (rL_len rl slc_T_Sops_field) ?_
      have inn : ∀ m : Nat, m < 9223372036854775808 → inK .i64 (m : Int) := fun m hm => by simp only [inK]; omega
      have d5 : DS h h5 h.length h1.length h4.length h5.length (.slice ca code.length cc) (.slice none 0 0) code (b.toNat : Int) 0 0 ((n + 1 : Nat) : Int) 0 [] :=
        { keep := k04.trans k5, o1 := Nat.le_refl _, o2 := by omega, o3 := by omega, o4 := by omega, o5 := Nat.le_refl _
          res := ⟨_, k5.get g1' (by simp), rfl⟩
          ins := k5.get (k4.get g3 (by simp)) (by simp)
          rd := g5
          code := rBy.go hc (k04.trans k5) fun x hx hl => ⟨by simp, hl⟩
          aown := OwnL.nil _ _ _, armb := fun x hx => by simp [blks, blkOf] at hx
          inat := inn _ (by omega), ina := by simp [inK], inb := by simp [inK], inop := inK_byte b
          inarms := fun x hx => by simp at hx }
      have rl5 : (rL rFld).rep (SL h1.length h4.length) h5 [lv] (partsS (b.toNat : Int)).1 := (rL rFld).go rl k5 fun x hx hl => ⟨by simp, by omega, hl⟩
      have e1 : decodeAt code (b.toNat : Int) (n : Int) = (if (tailS code (b.toNat : Int) (headS code (partsS (b.toNat : Int)).1 (((n + 1 : Nat) : Int), 0)).1 (headS code (partsS (b.toNat : Int)).1 (((n + 1 : Nat) : Int), 0)).2.1 (headS code (partsS (b.toNat : Int)).1 (((n + 1 : Nat) : Int), 0)).2.2).2.2 ≠ 0 then (zIns, 0, (tailS code (b.toNat : Int) (headS code (partsS (b.toNat : Int)).1 (((n + 1 : Nat) : Int), 0)).1 (headS code (partsS (b.toNat : Int)).1 (((n + 1 : Nat) : Int), 0)).2.1 (headS code (partsS (b.toNat : Int)).1 (((n + 1 : Nat) : Int), 0)).2.2).2.2) else ((tailS code (b.toNat : Int) (headS code (partsS (b.toNat : Int)).1 (((n + 1 : Nat) : Int), 0)).1 (headS code (partsS (b.toNat : Int)).1 (((n + 1 : Nat) : Int), 0)).2.1 (headS code (partsS (b.toNat : Int)).1 (((n + 1 : Nat) : Int), 0)).2.2).1, (tailS code (b.toNat : Int) (headS code (partsS (b.toNat : Int)).1 (((n + 1 : Nat) : Int), 0)).1 (headS code (partsS (b.toNat : Int)).1 (((n + 1 : Nat) : Int), 0)).2.1 (headS code (partsS (b.toNat : Int)).1 (((n + 1 : Nat) : Int), 0)).2.2).2.1, 0)) := by
        unfold decodeAt
        rw [if_neg (by simp [hd])]
        rfl
      rw [e1]
      have h49 : (b.toNat : Int) = 49 → (partsS (b.toNat : Int)).1 = [pWidth 3] := fun h => by rw [h, parts49]
      rcases parts_len (b.toNat : Int) with hp | ⟨p, hp⟩ | ⟨p, q, hp⟩
      · rw [hp] at rl5 ⊢
        refine dec9_end (ps := []) (dec15 d5 fun h => ?_)
        rw [h49 h] at hp
        simp at hp
      · rw [hp] at rl5 ⊢
        refine dec9_round d5 rl5 (i := 0) rfl fun h6 d6 rl6 => ?_
        refine dec9_end (ps := [p]) ?_
        simp only [if_true] at d6
        refine dec15 d6 fun h => ?_
        rw [h49 h] at hp
        simp only [List.cons.injEq, and_true] at hp
        subst hp
        have := readS_le (code := code) (p := pWidth 3) (s := (((n + 1 : Nat) : Int), 0)) (by simp [pWidth]) (by simp [pWidth])
        have h3 : (pWidth 3).hi = 3 := rfl
        rw [h3] at this
        show (readS code (pWidth 3) (((n + 1 : Nat) : Int), 0)).1 = 0 ∨ 1 ≤ (readS code (pWidth 3) (((n + 1 : Nat) : Int), 0)).1 ∧ (readS code (pWidth 3) (((n + 1 : Nat) : Int), 0)).1 ≤ 3
        omega
      · rw [hp] at rl5 ⊢
        refine dec9_round d5 rl5 (i := 0) rfl fun h6 d6 rl6 => ?_
        simp only [if_true] at d6
        refine dec9_round d6 rl6 (i := 1) rfl fun h7 d7 rl7 => ?_
        simp only [Nat.succ_ne_zero, if_false] at d7
        refine dec9_end (ps := [p, q]) (dec15 d7 fun h => ?_)
        rw [h49 h] at hp
        simp at hp
end Go.Proofs.Ytmdffenlehcekaa

set_option maxRecDepth 100000
namespace Go.Proofs.Ytmdffenlehcekaa
open Go Go.Am

def allF (code : List UInt8) : Nat → Int → List Ins → List Int → List Ins × List Int × Int
  | 0, _, l, ps => (l, ps, 0)
  | n + 1, at_, l, ps => if at_ < code.length then
      if (decodeS code at_).2.2 ≠ 0 then ([], [], (decodeS code at_).2.2) else allF code n (decodeS code at_).2.1 (l ++ [(decodeS code at_).1]) (ps ++ [at_])
    else (l, ps, 0)
def allS (code : List UInt8) : List Ins × List Int × Int := allF code (code.length + 1) 0 [] []

/-! ### places rise -/
theorem readS_adv {code : List UInt8} {p : Pt} {s : Int × Int} (h : (readS code p s).2.2 = 0) : s.2 = 0 ∧ s.1 ≤ (readS code p s).2.1 ∧ (readS code p s).2.1 ≤ code.length ∧ 0 ≤ s.1 := by
  unfold readS at h ⊢
  split at h
  · rename_i h1; exact absurd h h1
  · rename_i h1
    split at h
    · simp at h
    · rename_i h2
      split at h
      · simp at h
      · rename_i h3
        have hw := wideS_ok (Decidable.not_not.1 h2)
        rw [if_neg h1, if_neg h2, if_neg h3]
        rw [hw.2.2.2.2]
        exact ⟨Decidable.not_not.1 h1, by simp; omega, by simp; omega, hw.2.2.1⟩
theorem armsGo_adv {code : List UInt8} {val : Pt} : ∀ (n : Nat) (s : Int × Int) (acc : List (Int × Int)), (armsGo code val n s acc).2.2 = 0 → s.2 = 0 ∧ s.1 ≤ (armsGo code val n s acc).2.1
  | 0, s, acc, h => ⟨h, Int.le_refl _⟩
  | n + 1, s, acc, h => by
    unfold armsGo at h ⊢
    by_cases hs : s.2 ≠ 0
    · rw [if_pos hs] at h; exact absurd h hs
    · rw [if_neg hs] at h ⊢
      have h1 := armsGo_adv n _ _ h
      have h2 := readS_adv h1.1
      have h3 := readS_adv h2.1
      exact ⟨h3.1, by have := h1.2; omega⟩
theorem headS_adv {code : List UInt8} {l : List Pt} {s : Int × Int} (h : (headS code l s).2.2.2 = 0) : s.2 = 0 ∧ s.1 ≤ (headS code l s).2.2.1 ∧ (s.1 ≤ code.length → (headS code l s).2.2.1 ≤ code.length) := by
  unfold headS at h ⊢
  split at h
  · exact ⟨h, Int.le_refl _, fun h => h⟩
  · have := readS_adv h
    exact ⟨this.1, this.2.1, fun _ => this.2.2.1⟩
  · have h1 := readS_adv h
    have h2 := readS_adv h1.1
    exact ⟨h2.1, by simp only; omega, fun _ => h1.2.2.1⟩
theorem tailS_adv {code : List UInt8} {op a b : Int} {s : Int × Int} (h : (tailS code op a b s).2.2 = 0) : s.2 = 0 ∧ s.1 ≤ (tailS code op a b s).2.1 ∧ (s.1 ≤ code.length → (tailS code op a b s).2.1 ≤ code.length) := by
  unfold tailS at h ⊢
  split at h
  · rename_i ho
    rw [if_pos ho]
    have h1 := readS_adv h
    have h2 := armsGo_adv _ _ _ h1.1
    have h3 := readS_adv h2.1
    exact ⟨h3.1, by simp only; omega, fun _ => h1.2.2.1⟩
  · rename_i ho
    rw [if_neg ho]
    exact ⟨h, Int.le_refl _, fun h => h⟩
theorem decodeS_adv {code : List UInt8} {at_ : Int} (h : (decodeS code at_).2.2 = 0) : 0 ≤ at_ ∧ at_ < code.length ∧ at_ < (decodeS code at_).2.1 ∧ (decodeS code at_).2.1 ≤ code.length := by
  unfold decodeS at h ⊢
  split at h
  · simp at h
  · rename_i h1
    rw [if_neg h1]
    unfold decodeAt at h ⊢
    split at h
    · simp at h
    · rename_i h2
      rw [if_neg h2]
      simp only at h ⊢
      split at h
      · rename_i h3; exact absurd h h3
      · rename_i h3
        rw [if_neg h3]
        have h4 := tailS_adv (Decidable.not_not.1 h3)
        have h5 := headS_adv h4.1
        refine ⟨by omega, by omega, by simp only at h5 ⊢; omega, ?_⟩
        exact h4.2.2 (h5.2.2 (by simp only; omega))

/-! ### the lists -/
structure AS (h0 h : Heap) (lv pv : Value) (l : List Ins) (ps : List Int) : Prop where
  keep : Keep [] h0 h
  l : ∃ cells, OwnL h lv T_api_Instr 4 l.length cells ∧ ∀ i x, l[i]? = some x → rInsW.rep (fun b => h0.length ≤ b ∧ b ∉ blks lv ∧ b ∉ blks pv) h (chunk 4 i cells) x
  p : OwnL h pv T_int 1 ps.length (ps.map (.int .i64))
  lb : ∀ b, b ∈ blks lv → h0.length ≤ b
  pb : ∀ b, b ∈ blks pv → h0.length ≤ b
  ne : ∀ b, b ∈ blks lv → b ∉ blks pv
  inp : ∀ x, x ∈ ps → inK .i64 x
def AllPost (h0 : Heap) (r : List Ins × List Int × Int) (v : Value) (h' : Heap) : Prop := ∃ lv pv, v = .tuple ⟨[lv, pv, .int .i64 r.2.2]⟩ ∧ AS h0 h' lv pv r.1 r.2.1
theorem AS.nil {h0 h : Heap} (k : Keep [] h0 h) : AS h0 h (.slice none 0 0) (.slice none 0 0) [] [] :=
  ⟨k, ⟨[], OwnL.nil _ _ _, fun i x hx => by simp at hx⟩, OwnL.nil _ _ _, fun b hb => by simp [blks, blkOf] at hb, fun b hb => by simp [blks, blkOf] at hb, fun b hb => by simp [blks, blkOf] at hb, fun x hx => by simp at hx⟩
theorem chunk_app {sz i : Nat} {c d : List Value} (h : (i + 1) * sz ≤ c.length) : chunk sz i (c ++ d) = chunk sz i c := by
  have e : (i + 1) * sz = i * sz + sz := Nat.succ_mul _ _
  unfold chunk
  rw [List.drop_append_of_le_length (by omega), List.take_append_of_le_length (by simp; omega)]
theorem chunk_last {sz n : Nat} {c d : List Value} (hc : c.length = n * sz) (hd : d.length = sz) : chunk sz n (c ++ d) = d := by
  unfold chunk
  rw [List.drop_left' hc, List.take_of_length_le (by omega)]
/-- One more. -/
theorem AS.push {h0 h h4 h5 h6 h7 h8 : Heap} {lv pv lv' pv' : Value} {l : List Ins} {ps : List Int} {x : Ins} {n : Int} {cs cells : List Value} (d : AS h0 h lv pv l ps) (kd : Keep [] h h4) (hx : rInsW.rep (fun b => h.length ≤ b) h4 cs x) (k5 : Keep [] h4 h5)
    (hl : OwnL h lv T_api_Instr 4 l.length cells) (hle : ∀ i x, l[i]? = some x → rInsW.rep (fun b => h0.length ≤ b ∧ b ∉ blks lv ∧ b ∉ blks pv) h (chunk 4 i cells) x)
    (o6 : OwnL h6 lv' T_api_Instr 4 (l.length + 1) (cells ++ cs)) (k6 : Keep (blks lv) h5 h6) (b6 : ∀ b, b ∈ blks lv' → b ∈ blks lv ∨ h5.length ≤ b)
    (k7 : Keep [] h6 h7) (o8 : OwnL h8 pv' T_int 1 (ps.length + 1) (ps.map (.int .i64) ++ [.int .i64 n])) (k8 : Keep (blks pv) h7 h8) (b8 : ∀ b, b ∈ blks pv' → b ∈ blks pv ∨ h7.length ≤ b) (hn : inK .i64 n) :
    AS h0 h8 lv' pv' (l ++ [x]) (ps ++ [n]) := by
  have l0 := d.keep.len
  have ld := kd.len
  have l5 := k5.len
  have l6 := k6.len
  have l7 := k7.len
  have llt := hl.lt
  have plt := d.p.lt
  have lb' : ∀ b, b ∈ blks lv' → h0.length ≤ b := fun b hb => by
    rcases b6 b hb with hb | hb
    · exact d.lb b hb
    · omega
  have pb' : ∀ b, b ∈ blks pv' → h0.length ≤ b := fun b hb => by
    rcases b8 b hb with hb | hb
    · exact d.pb b hb
    · omega
  have ll6 := o6.lt
  have ne' : ∀ b, b ∈ blks lv' → b ∉ blks pv := fun b hb hp => by
    rcases b6 b hb with hb | hb
    · exact d.ne b hb hp
    · have := plt b hp; omega
  have hcs := rInsW.len hx
  have hcl := hl.1
  refine ⟨((((d.keep.trans kd).trans k5).trans_new k6 fun b hb => .inr (d.lb b hb)).trans k7).trans_new k8 fun b hb => .inr (d.pb b hb), ⟨cells ++ cs, ?_, ?_⟩, ?_, lb', pb', ?_, ?_⟩
  · rw [List.length_append]
    exact (o6.go k7 (by simp)).go k8 ne'
  · intro i y hy
    have go : ∀ {cs : List Value} {y : Ins} {S : Nat → Prop} {ha : Heap}, rInsW.rep S ha cs y → ha.length ≤ h4.length → (∀ b, S b → b < ha.length → h0.length ≤ b ∧ b ∉ blks lv ∧ b ∉ blks pv) → Keep [] ha h5 → rInsW.rep (fun b => h0.length ≤ b ∧ b ∉ blks lv' ∧ b ∉ blks pv') h8 cs y := by
      intro cs y S ha hr hla hS hk
      have r1 := rInsW.go (S' := fun b => (h0.length ≤ b ∧ b ∉ blks lv ∧ b ∉ blks pv) ∧ b < ha.length) hr hk fun b hb hl => ⟨by simp, hS b hb hl, hl⟩
      have r2 := rInsW.keep r1 k6 fun b hb => hb.1.2.1
      have r3 := rInsW.keep0 r2 k7
      have r4 := rInsW.keep r3 k8 fun b hb => hb.1.2.2
      refine rInsW.sub r4 fun b hb _ => ⟨hb.1.1, fun hx => ?_, fun hx => ?_⟩
      · rcases b6 b hx with hx | hx
        · exact hb.1.2.1 hx
        · have := hb.2; omega
      · rcases b8 b hx with hx | hx
        · exact hb.1.2.2 hx
        · have := hb.2; omega
    by_cases hi : i < l.length
    · rw [List.getElem?_append_left hi] at hy
      rw [chunk_app (by rw [hcl]; exact Nat.mul_le_mul_right _ hi)]
      exact go (hle i y hy) ld (fun b hb _ => hb) (kd.trans k5)
    · rw [List.getElem?_append_right (by omega)] at hy
      have : i = l.length := by
        have := (List.getElem?_eq_some_iff.1 hy).1
        simp at this
        omega
      subst this
      simp at hy
      subst hy
      rw [chunk_last hcl hcs]
      exact go hx (Nat.le_refl _) (fun b hb _ => ⟨by omega, fun hm => by have := llt b hm; omega, fun hm => by have := plt b hm; omega⟩) k5
  · rw [List.length_append, List.map_append]
    exact o8
  · intro b hb hp
    rcases b8 b hp with hp | hp
    · exact ne' b hb hp
    · have := ll6 b hb; omega
  · intro y hy
    rcases List.mem_append.1 hy with hy | hy
    · exact d.inp y hy
    · simp at hy; rw [hy]; exact hn
theorem All_loop {h0 : Heap} {cv : Value} {code : List UInt8} {S : Nat → Prop} (hl : code.length ≤ 65536) : ∀ (n : Nat) (h : Heap) (lv pv : Value) (l : List Ins) (ps : List Int) (at_ : Int), AS h0 h lv pv l ps → rBy.rep (fun b => b < h0.length) h [cv] code → 0 ≤ at_ → at_ ≤ code.length → code.length - at_ < n →
    l.length ≤ at_ → ps.length = l.length → WP (L_ops_All_4 (callW E) h cv lv pv (.int .i64 at_)) (Rt (AllPost h0 (allF code n at_ l ps))) := by
  intro n
  induction n with
  | zero => intro h lv pv l ps at_ d hc ha hb hn; omega
  | succ n ih =>
    intro h lv pv l ps at_ d hc ha hb hn hll hpl
    apply L_ops_All_4_wp
    unfold L_ops_All_4_b
    refine wp_obnd (rBy_len hc slc_T_Suint8) ?_
    have l0 := d.keep.len
    refine wp_ltt (fun hlt => ?_) fun hge => ?_
    · refine wp_retK (Decode_ok hc ⟨by omega, by omega⟩) ?_
      rintro v h4 ⟨cs, rfl, hx, k4⟩
      refine wp_obnd ext0 ?_
      refine wp_obnd ext1 ?_
      refine wp_obnd ext2 ?_
      have l4 := k4.len
      refine wp_new al_T_api_Instr fun h5 k5 g5 l5 => ?_
      have hcs := rInsW.len hx
      have hcs4 : cs.length = 4 := hcs
      refine wp_stA g5 (by rw [hcs4]; exact siz_T_api_Instr) (by rw [hcs4]; rfl) fun h6 k6 g6 l6 => ?_
      have k46 : Keep [] h4 h6 := k5.trans_new k6 (by simp)
      refine wp_net (fun he => ?_) fun he => ?_
      · refine wp_some ?_
        have e : allF code (n + 1) at_ l ps = ([], [], (decodeS code at_).2.2) := by
          conv => lhs; unfold allF
          rw [if_pos hlt, if_pos he]
        rw [e]
        exact ⟨_, _, rfl, AS.nil ((d.keep.trans k4).trans k46)⟩
      · refine wp_obnd (ldA g6 agg_T_api_Instr (by rw [hcs4]; exact siz_T_api_Instr)) ?_
        obtain ⟨cells, hcl, hce⟩ := d.l
        obtain ⟨va, hcsv, _⟩ := rInsW_cells hx
        refine wp_new (X := newBlk T_api_Instr cs) (f := sliceTo 1 1) (by rw [hcsv]; kernel_rfl) fun h7 k7 g7 l7 => ?_
        have hadv := decodeS_adv he
        have nil0 : ∀ {b : Nat} {M : List Nat}, b ∈ M → b ∉ ([] : List Nat) := fun _ => by simp
        have kk7 : Keep [] h h7 := (k4.trans k46).trans k7
        refine wp_app (hcl.go kk7 (by simp)) slc_T_Sapi_Instr inf_T_api_Instr nin_T_Sapi_Instr zer_T_api_Instr rfl rfl (by omega) (src_lit (n := 1) g7 hcs4) hcs4 (by omega) (by omega) (by omega) fun lv' h8 o8 k8 b8 => ?_
        dsimp only
        refine wp_new (X := newBlk T_int [.int .i64 at_]) (f := sliceTo 1 1) (by kernel_rfl) fun h9 k9 g9 l9 => ?_
        have hp9 : OwnL h9 pv T_int 1 ps.length (ps.map (.int .i64)) := ((d.p.go kk7 (by simp)).go k8 fun b hb hm => d.ne b hm hb).go k9 (by simp)
        refine wp_app hp9 slc_T_Sint inf_T_int nin_T_Sint zer_T_int rfl rfl (by omega) (src_lit (n := 1) g9 rfl) rfl (by omega) (by omega) (by omega) fun pv' ha oa ka ba => ?_
        dsimp only
        have dn : AS h0 ha lv' pv' (l ++ [(decodeS code at_).1]) (ps ++ [at_]) := d.push k4 hx (k46.trans k7) hcl hce o8 k8 b8 k9 oa ka ba ⟨by omega, by omega⟩
        have e : allF code (n + 1) at_ l ps = allF code n (decodeS code at_).2.1 (l ++ [(decodeS code at_).1]) (ps ++ [at_]) := by
          conv => lhs; unfold allF
          rw [if_pos hlt, if_neg (by simp [he])]
        rw [e]
        have lbl := d.lb
        have hc' := rBy.keep (rBy.keep0 (rBy.keep (rBy.keep0 hc kk7) k8 fun b hb hm => by have := lbl b hm; omega) k9) ka fun b hb hm => by have := d.pb b hm; omega
        exact ih ha lv' pv' _ _ _ dn hc' (by omega) hadv.2.2.2 (by omega) (by simp; omega) (by simp; omega)
    · apply J_ops_All_9_wp
      unfold J_ops_All_9_b
      refine wp_some ?_
      have e : allF code (n + 1) at_ l ps = (l, ps, 0) := by
        conv => lhs; unfold allF
        rw [if_neg (by omega)]
      rw [e]
      exact ⟨_, _, rfl, d⟩
theorem All_ok {h : Heap} {S : Nat → Prop} {cv : Value} {code : List UInt8} (hc : rBy.rep S h [cv] code) (hl : code.length ≤ 65536) : WP (callW E fn_ops_All [cv] h) (Rt (AllPost h (allS code))) := by
  refine F_ops_All ?_
  unfold B_ops_All
  exact All_loop (S := S) hl _ h _ _ _ _ 0 (AS.nil (Keep.refl _ _)) (rBy.sub hc fun b _ hl => hl) (by omega) (by omega) (by omega) (by simp) rfl
end Go.Proofs.Ytmdffenlehcekaa

set_option maxRecDepth 100000
namespace Go.Proofs.Ytmdffenlehcekaa
open Go Go.Am

def ptCells (p : Pt) : List Value := [.int .i64 p.size, .int .i64 p.lo, .int .i64 p.hi, .bool p.signed]
abbrev ptV (p : Pt) : Value := .agg ⟨ptCells p⟩
def rPt : Rp Pt where
  sz := 4
  rep _ _ cs p := cs = ptCells p
  len := by rintro S h cs x rfl; rfl
  mono _ h := h
def PNew (h : Heap) (p : Pt) (v : Value) (h' : Heap) : Prop := v = ptV p ∧ Keep [] h h'
theorem place_ok {h : Heap} : WP (callW E fn_trammelref12_place [] h) (Rt (PNew h pPlace)) := by
  refine F_trammelref12_place ?_
  unfold B_trammelref12_place
  refine wp_new al_T_trammelref12_part fun h1 k1 g1 l1 => ?_
  refine wp_obnd (a := ptV pPlace) (by kernel_rfl) ?_
  refine wp_stA g1 siz_T_trammelref12_part rfl fun h2 k2 g2 l2 => ?_
  exact kr_trammelref12_place rfl (ldA g2 agg_T_trammelref12_part siz_T_trammelref12_part) ⟨rfl, k1.trans_new k2 (by simp)⟩
theorem leap_ok {h : Heap} : WP (callW E fn_trammelref12_leap [] h) (Rt (PNew h pLeap)) := by
  refine F_trammelref12_leap ?_
  unfold B_trammelref12_leap
  refine wp_new al_T_trammelref12_part fun h1 k1 g1 l1 => ?_
  refine wp_obnd (a := ptV pLeap) (by kernel_rfl) ?_
  refine wp_stA g1 siz_T_trammelref12_part rfl fun h2 k2 g2 l2 => ?_
  exact kr_trammelref12_leap rfl (ldA g2 agg_T_trammelref12_part siz_T_trammelref12_part) ⟨rfl, k1.trans_new k2 (by simp)⟩
theorem width_ok {h : Heap} {n : Int} : WP (callW E fn_trammelref12_width [.int .i64 n] h) (Rt (PNew h (pWidth n))) := by
  refine F_trammelref12_width ?_
  unfold B_trammelref12_width
  refine wp_new al_T_trammelref12_part fun h1 k1 g1 l1 => ?_
  refine wp_obnd (a := ptV (pWidth n)) (by kernel_rfl) ?_
  refine wp_stA g1 siz_T_trammelref12_part rfl fun h2 k2 g2 l2 => ?_
  exact kr_trammelref12_width rfl (ldA g2 agg_T_trammelref12_part siz_T_trammelref12_part) ⟨rfl, k1.trans_new k2 (by simp)⟩
theorem within_ok {h : Heap} {p : Pt} {n : Int} : WP (callW E fn_trammelref12_within [ptV p, .int .i64 n] h) (Rt fun v h' => v = .bool (p.may n) ∧ Keep [] h h') := by
  refine F_trammelref12_within ?_
  unfold B_trammelref12_within
  refine wp_new (X := newBlk T_trammelref12_part (ptCells p)) (f := ptrTo) rfl fun h1 k1 g1 l1 => ?_
  refine wp_obnd fa_T_trammelref12_part_1 ?_
  refine wp_obnd (ld1 g1 agg_T_int64) ?_
  refine wp_obnd bin_geq ?_
  refine wp_guard (fun hc => ?_) fun hc => ?_
  · refine wp_obnd fa_T_trammelref12_part_2 ?_
    refine wp_obnd (ld1 g1 agg_T_int64) ?_
    refine wp_obnd bin_leq ?_
    refine wp_some ⟨?_, k1⟩
    have hc : decide (p.lo ≤ n) = true := hc
    simp [Pt.may, hc]
  · refine wp_some ⟨?_, k1⟩
    have hc : decide (p.lo ≤ n) = false := hc
    simp [Pt.may, hc]

def PartPost (h0 : Heap) (r : List Pt × Bool) (v : Value) (h' : Heap) : Prop :=
  ∃ l, v = .tuple ⟨[l, .bool r.2]⟩ ∧ (rL rPt).rep (fun b => h0.length ≤ b) h' [l] r.1 ∧ Keep [] h0 h'
theorem part_one {h0 h1 h' : Heap} {p : Pt} (hk : Keep [] h0 h1) (hk2 : Keep [] h1 h') (hg : h'[h1.length]? = some (newBlk T_trammelref12_part (ptCells p))) :
    PartPost h0 ([p], true) (.tuple ⟨[sliceTo 1 1 h1.length, .bool true]⟩) h' := by
  refine ⟨_, rfl, rL_lit (xs := [p]) hg rfl (by simp) (by simp [kcap, capFlag]) hk.len ?_, hk.trans hk2⟩
  intro i x hx
  cases i with
  | zero => simp at hx; subst hx; rfl
  | succ i => simp at hx
theorem part_two {h0 h1 h' : Heap} {p q : Pt} (hk : Keep [] h0 h1) (hk2 : Keep [] h1 h') (hg : h'[h1.length]? = some (newBlk T_trammelref12_part (ptCells p ++ ptCells q))) :
    PartPost h0 ([p, q], true) (.tuple ⟨[sliceTo 2 2 h1.length, .bool true]⟩) h' := by
  refine ⟨_, rfl, rL_lit (xs := [p, q]) hg rfl (by simp) (by simp [kcap, capFlag]) hk.len ?_, hk.trans hk2⟩
  intro i x hx
  cases i with
  | zero => simp at hx; subst hx; rfl
  | succ i =>
    cases i with
    | zero => simp at hx; subst hx; rfl
    | succ i => simp at hx
theorem wp_p1 {h0 h : Heap} {p : Pt} (hk : Keep [] h0 h) : WP (anew (mkLit Try.prog T_Strammelref12_part 1 [(0, ptV p)]) h fun q h' => some (Ret.ret (.tuple ⟨[q, .bool true]⟩), h')) (Rt (PartPost h0 ([p], true))) := by
  refine wp_new (X := newBlk T_trammelref12_part (ptCells p)) (f := sliceTo 1 1) (by kernel_rfl) fun h3 k3 g3 l3 => ?_
  exact wp_some (part_one hk k3 g3)
theorem wp_p2 {h0 h : Heap} {p q : Pt} (hk : Keep [] h0 h) : WP (anew (mkLit Try.prog T_Strammelref12_part 2 [(0, ptV p), (1, ptV q)]) h fun q h' => some (Ret.ret (.tuple ⟨[q, .bool true]⟩), h')) (Rt (PartPost h0 ([p, q], true))) := by
  refine wp_new (X := newBlk T_trammelref12_part (ptCells p ++ ptCells q)) (f := sliceTo 2 2) (by kernel_rfl) fun h3 k3 g3 l3 => ?_
  exact wp_some (part_two hk k3 g3)
theorem wp_pw {h0 h : Heap} {n : Int} (hk : Keep [] h0 h) : WP (retK (callW E fn_trammelref12_width [.int .i64 n] h) (fun x h2 => anew (mkLit Try.prog T_Strammelref12_part 1 [(0, x)]) h2 fun q h' => some (Ret.ret (.tuple ⟨[q, .bool true]⟩), h')) fun x h => some (Ret.pan x, h)) (Rt (PartPost h0 ([pWidth n], true))) := by
  refine wp_retK width_ok ?_
  rintro v h1 ⟨rfl, k1⟩
  exact wp_p1 (hk.trans k1)
section
variable {h0 h : Heap} {op : Int}
abbrev c1S (op : Int) : Prop := op = 6 ∨ op = 7 ∨ op = 8 ∨ op = 50 ∨ op = 36 ∨ 39 ≤ op ∧ op ≤ 45
theorem par19 (hk : Keep [] h0 h) (c : Bool) (hc : c = decide (op = 46 ∨ op = 47 ∨ op = 48)) (h1 : ¬ c1S op) (h2 : ¬ (op = 37 ∨ op = 38)) (h3 : ¬ (op = 23 ∨ op = 24)) (hn : ¬ (11 ≤ op ∧ op ≤ 28)) (h4 : op ≠ 29) (h8 : op ≠ 1) (h9 : op ≠ 2) (ha : op ≠ 3) :
    WP (J_trammelref12_parts_1000019 (callW E) h (.int .u8 op) (.bool c)) (Rt (PartPost h0 (partsS op))) := by
  apply J_trammelref12_parts_1000019_wp
  unfold J_trammelref12_parts_1000019_b
  have e : partsS op = if op = 46 ∨ op = 47 ∨ op = 48 then ([pLeap], true) else if op = 52 then ([⟨1, 0, 255, false⟩], true) else if op = 49 then ([pWidth 3], true) else ([], decide (1 ≤ op) && decide (op ≤ 52)) := by
    unfold partsS
    rw [if_neg h8, if_neg h9, if_neg ha, if_neg h1, if_neg h2, if_neg h3, if_neg hn, if_neg h4]
  rw [e]
  refine wp_test (fun hc' => ?_) fun hc' => ?_
  · rw [hc'] at hc
    rw [if_pos (of_decide_eq_true hc.symm)]
    refine wp_retK leap_ok ?_
    rintro v h1 ⟨rfl, k1⟩
    exact wp_p1 (hk.trans k1)
  · rw [hc'] at hc
    rw [if_neg (of_decide_eq_false hc.symm)]
    refine wp_eqt (fun hd => ?_) fun hd => ?_
    · rw [if_pos hd]
      refine wp_obnd (a := ptV ⟨1, 0, 255, false⟩) (by kernel_rfl) ?_
      exact wp_p1 hk
    · rw [if_neg hd]
      refine wp_eqt (fun hd => ?_) fun hd => ?_
      · rw [if_pos hd]
        exact wp_pw hk
      · rw [if_neg hd]
        refine wp_obnd bin_geq ?_
        refine wp_guard (fun hd => ?_) fun hd => ?_
        · refine wp_obnd bin_leq ?_
          refine wp_some ⟨_, ?_, rL_nil, hk⟩
          have hd : decide (1 ≤ op) = true := hd
          simp [hd]
        · refine wp_some ⟨_, ?_, rL_nil, hk⟩
          have hd : decide (1 ≤ op) = false := hd
          simp [hd]
theorem wp_eqg {P : Program} {t : TypeId} {k : IntKind} {a b : Int} {x y : Operand} {A B C : Value → R} {Q : Ret → Heap → Prop} (h1 : a = b → WP (A (.bool true)) Q) (h2 : a ≠ b → WP (B (.bool false)) Q) : WP (obnd (aBin P .eql t (.int k a) (.int k b) x y) fun c => guardV3 c (A c) (B c) (C c)) Q := by
  rw [bin_eql]
  by_cases h : a = b
  · rw [beq_iff_eq.2 h]; exact h1 h
  · rw [beq_eq_false_iff_ne.2 h]; exact h2 h
theorem par15 (hk : Keep [] h0 h) (c : Bool) (hc : c = decide (11 ≤ op ∧ op ≤ 28)) (h1 : ¬ c1S op) (h2 : ¬ (op = 37 ∨ op = 38)) (h3 : ¬ (op = 23 ∨ op = 24)) (h8 : op ≠ 1) (h9 : op ≠ 2) (ha : op ≠ 3) :
    WP (J_trammelref12_parts_1000015 (callW E) h (.int .u8 op) (.bool c)) (Rt (PartPost h0 (partsS op))) := by
  apply J_trammelref12_parts_1000015_wp
  unfold J_trammelref12_parts_1000015_b
  refine wp_test (fun hc' => ?_) fun hc' => ?_
  · rw [hc'] at hc
    unfold partsS
    rw [if_neg h8, if_neg h9, if_neg ha, if_neg h1, if_neg h2, if_neg h3, if_pos (of_decide_eq_true hc.symm)]
    exact wp_pw hk
  · rw [hc'] at hc
    have hn := of_decide_eq_false hc.symm
    refine wp_eqt (fun hd => ?_) fun hd => ?_
    · unfold partsS
      rw [if_neg h8, if_neg h9, if_neg ha, if_neg h1, if_neg h2, if_neg h3, if_neg hn, if_pos hd]
      refine wp_retK width_ok ?_
      rintro v h1 ⟨rfl, k1⟩
      refine wp_retK width_ok ?_
      rintro v h2 ⟨rfl, k2⟩
      exact wp_p2 ((hk.trans k1).trans k2)
    · refine wp_eqg (fun he => par19 hk _ (by simp [he]) h1 h2 h3 hn hd h8 h9 ha) fun d1 => ?_
      refine wp_eqg (fun he => par19 hk _ (by simp [he]) h1 h2 h3 hn hd h8 h9 ha) fun d2 => ?_
      refine wp_obnd bin_eql ?_
      exact par19 hk _ (by simp [d1, d2]; rfl) h1 h2 h3 hn hd h8 h9 ha
theorem par13 (hk : Keep [] h0 h) (c : Bool) (hc : c = decide (op = 23 ∨ op = 24)) (h1 : ¬ c1S op) (h2 : ¬ (op = 37 ∨ op = 38)) (h8 : op ≠ 1) (h9 : op ≠ 2) (ha : op ≠ 3) :
    WP (J_trammelref12_parts_1000013 (callW E) h (.int .u8 op) (.bool c)) (Rt (PartPost h0 (partsS op))) := by
  apply J_trammelref12_parts_1000013_wp
  unfold J_trammelref12_parts_1000013_b
  refine wp_test (fun hc' => ?_) fun hc' => ?_
  · rw [hc'] at hc
    unfold partsS
    rw [if_neg h8, if_neg h9, if_neg ha, if_neg h1, if_neg h2, if_pos (of_decide_eq_true hc.symm)]
    exact wp_pw hk
  · rw [hc'] at hc
    have h3 := of_decide_eq_false hc.symm
    refine wp_obnd bin_geq ?_
    refine wp_guard (fun hd => ?_) fun hd => ?_
    · have hd : 11 ≤ op := of_decide_eq_true hd
      refine wp_obnd bin_leq ?_
      exact par15 hk _ (by simp [hd]) h1 h2 h3 h8 h9 ha
    · have hd : ¬ 11 ≤ op := of_decide_eq_false hd
      exact par15 hk _ (by simp [hd]) h1 h2 h3 h8 h9 ha
theorem par11 (hk : Keep [] h0 h) (c : Bool) (hc : c = decide (op = 37 ∨ op = 38)) (h1 : ¬ c1S op) (h8 : op ≠ 1) (h9 : op ≠ 2) (ha : op ≠ 3) :
    WP (J_trammelref12_parts_1000011 (callW E) h (.int .u8 op) (.bool c)) (Rt (PartPost h0 (partsS op))) := by
  apply J_trammelref12_parts_1000011_wp
  unfold J_trammelref12_parts_1000011_b
  refine wp_test (fun hc' => ?_) fun hc' => ?_
  · rw [hc'] at hc
    unfold partsS
    rw [if_neg h8, if_neg h9, if_neg ha, if_neg h1, if_pos (of_decide_eq_true hc.symm)]
    refine wp_retK place_ok ?_
    rintro v h1 ⟨rfl, k1⟩
    refine wp_retK place_ok ?_
    rintro v h2 ⟨rfl, k2⟩
    exact wp_p2 ((hk.trans k1).trans k2)
  · rw [hc'] at hc
    have h2 := of_decide_eq_false hc.symm
    refine wp_eqg (fun he => par13 hk _ (by simp [he]) h1 h2 h8 h9 ha) fun d1 => ?_
    refine wp_obnd bin_eql ?_
    exact par13 hk _ (by simp [d1]; rfl) h1 h2 h8 h9 ha
theorem par9 (hk : Keep [] h0 h) (c : Bool) (hc : c = decide (c1S op)) (h8 : op ≠ 1) (h9 : op ≠ 2) (ha : op ≠ 3) :
    WP (J_trammelref12_parts_1000009 (callW E) h (.int .u8 op) (.bool c)) (Rt (PartPost h0 (partsS op))) := by
  apply J_trammelref12_parts_1000009_wp
  unfold J_trammelref12_parts_1000009_b
  refine wp_test (fun hc' => ?_) fun hc' => ?_
  · rw [hc'] at hc
    unfold partsS
    rw [if_neg h8, if_neg h9, if_neg ha, if_pos (of_decide_eq_true hc.symm)]
    refine wp_retK place_ok ?_
    rintro v h1 ⟨rfl, k1⟩
    exact wp_p1 (hk.trans k1)
  · rw [hc'] at hc
    have h1 := of_decide_eq_false hc.symm
    refine wp_eqg (fun he => par11 hk _ (by simp [he]) h1 h8 h9 ha) fun d1 => ?_
    refine wp_obnd bin_eql ?_
    exact par11 hk _ (by simp [d1]; rfl) h1 h8 h9 ha
end
theorem parts_ok {h : Heap} {op : Int} : WP (callW E fn_trammelref12_parts [.int .u8 op] h) (Rt (PartPost h (partsS op))) := by
  refine F_trammelref12_parts ?_
  unfold B_trammelref12_parts
  have hk := Keep.refl [] h
  refine wp_eqt (fun hd => ?_) fun d1 => ?_
  · unfold partsS
    rw [if_pos hd]
    refine wp_obnd (a := ptV ⟨1, -128, 127, true⟩) (by kernel_rfl) ?_
    exact wp_p1 hk
  refine wp_eqt (fun hd => ?_) fun d2 => ?_
  · unfold partsS
    rw [if_neg d1, if_pos hd]
    refine wp_obnd (a := ptV ⟨4, -2147483648, 2147483647, true⟩) (by kernel_rfl) ?_
    exact wp_p1 hk
  refine wp_eqt (fun hd => ?_) fun d3 => ?_
  · unfold partsS
    rw [if_neg d1, if_neg d2, if_pos hd]
    refine wp_obnd (a := ptV ⟨8, -9223372036854775808, 9223372036854775807, true⟩) (by kernel_rfl) ?_
    exact wp_p1 hk
  refine wp_eqg (fun he => par9 hk _ (by simp [he]) d1 d2 d3) fun e1 => ?_
  refine wp_eqg (fun he => par9 hk _ (by simp [he]) d1 d2 d3) fun e2 => ?_
  refine wp_eqg (fun he => par9 hk _ (by simp [he]) d1 d2 d3) fun e3 => ?_
  refine wp_eqg (fun he => par9 hk _ (by simp [he]) d1 d2 d3) fun e4 => ?_
  refine wp_eqg (fun he => par9 hk _ (by simp [he]) d1 d2 d3) fun e5 => ?_
  refine wp_obnd bin_geq ?_
  refine wp_guard (fun hd => ?_) fun hd => ?_
  · have hd : 39 ≤ op := of_decide_eq_true hd
    refine wp_obnd bin_leq ?_
    exact par9 hk _ (by simp [e1, e2, e3, e4, e5, hd]) d1 d2 d3
  · have hd : ¬ 39 ≤ op := of_decide_eq_false hd
    exact par9 hk _ (by simp [e1, e2, e3, e4, e5, hd]) d1 d2 d3
end Go.Proofs.Ytmdffenlehcekaa

set_option maxRecDepth 100000
namespace Go.Proofs.Ytmdffenlehcekaa
open Go Go.Am

/-- A part as the document has them. -/
def Pt.good (p : Pt) : Prop := p.size = 8 ∨ (p.size = 1 ∨ p.size = 2 ∨ p.size = 4) ∧ (p.signed = false ∧ 0 ≤ p.lo ∨ p.signed = true ∧ p.lo = -(2 ^ (8 * p.size.toNat - 1) : Int) ∧ p.hi = 2 ^ (8 * p.size.toNat - 1) - 1)
def signR (p : Pt) (u : Nat) : Int :=
  if p.signed = true ∧ p.size < 8 ∧ u / 2 ^ (8 * p.size.toNat - 1) = 1 then IntKind.i64.wrap (IntKind.u64.wrap (u - IntKind.u64.wrap (1 * 2 ^ (min (8 * p.size).toNat IntKind.u64.bits)))) else IntKind.i64.wrap u
theorem sign_same {p : Pt} (hg : p.good) {u : Nat} (hu : u < 2 ^ (8 * p.size.toNat)) : p.may (signR p u) = p.may (signS p u) ∧ (p.may (signS p u) = true → signR p u = signS p u) := by
  obtain ⟨size, lo, hi, sg⟩ := p
  rcases hg with rfl | ⟨hs, hg⟩
  · have e1 : signR ⟨8, lo, hi, sg⟩ u = IntKind.i64.wrap u := by unfold signR; rw [if_neg (by simp)]
    have e2 : signS ⟨8, lo, hi, sg⟩ u = IntKind.i64.wrap u := by unfold signS; rw [if_neg (by simp)]
    rw [e1, e2]
    exact ⟨rfl, fun _ => rfl⟩
  · have key : ∀ (k : Nat) (M H : Int), (k = 1 ∧ M = 256 ∧ H = 128 ∨ k = 2 ∧ M = 65536 ∧ H = 32768 ∨ k = 4 ∧ M = 4294967296 ∧ H = 2147483648) → size = (k : Int) → (2 : Int) ^ (8 * k - 1) = H → (2 ^ (8 * k) : Nat) = M → ((2 ^ (8 * k - 1) : Nat) : Int) = H →
        Pt.may ⟨size, lo, hi, sg⟩ (signR ⟨size, lo, hi, sg⟩ u) = Pt.may ⟨size, lo, hi, sg⟩ (signS ⟨size, lo, hi, sg⟩ u) ∧ (Pt.may ⟨size, lo, hi, sg⟩ (signS ⟨size, lo, hi, sg⟩ u) = true → signR ⟨size, lo, hi, sg⟩ u = signS ⟨size, lo, hi, sg⟩ u) := by
      intro k M H hk hsz h1 h2 h3
      subst hsz
      simp only [Int.toNat_natCast] at hu hg
      have hu' : (u : Int) < M := by rw [← h2]; exact_mod_cast hu
      have hw : IntKind.i64.wrap (u : Int) = u := wrap_id ⟨by omega, by rcases hk with ⟨_, rfl, _⟩ | ⟨_, rfl, _⟩ | ⟨_, rfl, _⟩ <;> omega⟩
      have hk8 : (k : Int) < 8 := by omega
      have hb : (8 * (k : Int)) = ((8 * k : Nat) : Int) := by omega
      have hm : min (8 * k) 64 = 8 * k := Nat.min_eq_left (by omega)
      have hM : (1 * 2 ^ (8 * k) : Int) = M := by rw [Int.one_mul, ← h2]; norm_cast
      have e8 : IntKind.i64.wrap (8 * (k : Int)) = ((8 * k : Nat) : Int) := by rw [hb, wrap_nat (by omega)]
      have eS : signS ⟨(k : Int), lo, hi, sg⟩ u = if Pt.may ⟨(k : Int), lo, hi, sg⟩ u = false then (u : Int) - M else u := by
        unfold signS
        simp only [hw, e8, Int.toNat_natCast, show IntKind.i64.bits = 64 from rfl, hm, hM]
        by_cases hc : Pt.may ⟨(k : Int), lo, hi, sg⟩ u = false
        · rw [if_pos ⟨hc, hk8⟩, if_pos hc]
          have e1 : IntKind.i64.wrap M = M := wrap_id ⟨by omega, by omega⟩
          rw [e1]
          exact wrap_id ⟨by omega, by omega⟩
        · rw [if_neg (fun x => hc x.1), if_neg hc]
      have eR : signR ⟨(k : Int), lo, hi, sg⟩ u = if sg = true ∧ H ≤ u then (u : Int) - M else u := by
        unfold signR
        simp only [hw, hb, Int.toNat_natCast, show IntKind.u64.bits = 64 from rfl, hm, hM]
        have hd : u / 2 ^ (8 * k - 1) = 1 ↔ H ≤ u := by
          have h4 : 2 ^ (8 * k) = 2 * 2 ^ (8 * k - 1) := by rw [← Nat.pow_succ']; congr 1; omega
          constructor
          · intro h
            have := Nat.div_add_mod u (2 ^ (8 * k - 1))
            rw [h] at this
            rw [← h3]
            omega
          · intro h
            rw [← h3] at h
            exact Nat.div_eq_of_lt_le (by omega) (by omega)
        by_cases hc : sg = true ∧ H ≤ u
        · rw [if_pos ⟨hc.1, hk8, hd.2 hc.2⟩, if_pos hc]
          rw [wu64 M, wu64, w64]
          rcases hk with ⟨_, rfl, rfl⟩ | ⟨_, rfl, rfl⟩ | ⟨_, rfl, rfl⟩ <;> (split <;> omega)
        · rw [if_neg (fun x => hc ⟨x.1, hd.1 x.2.2⟩), if_neg hc]
      rw [eS, eR]
      have hmay : ∀ n : Int, Pt.may ⟨(k : Int), lo, hi, sg⟩ n = (decide (lo ≤ n) && decide (n ≤ hi)) := fun _ => rfl
      rcases hg with ⟨rfl, hlo⟩ | ⟨rfl, hlo, hhi⟩
      · rw [if_neg (show ¬ (false = true ∧ H ≤ (u : Int)) by simp)]
        by_cases hc : Pt.may ⟨(k : Int), lo, hi, false⟩ u = false
        · rw [if_pos hc, hc]
          have : Pt.may ⟨(k : Int), lo, hi, false⟩ ((u : Int) - M) = false := by
            rw [hmay, decide_eq_false (by omega)]; rfl
          rw [this]
          exact ⟨rfl, fun h => by simp at h⟩
        · rw [if_neg hc]
          exact ⟨rfl, fun _ => rfl⟩
      · rw [h1] at hlo hhi
        by_cases hc : H ≤ (u : Int)
        · rw [if_pos ⟨rfl, hc⟩, if_pos (by rw [hmay, Bool.and_eq_false_iff]; right; exact decide_eq_false (by omega))]
          exact ⟨rfl, fun _ => rfl⟩
        · rw [if_neg (fun x => hc x.2), if_neg]
          · exact ⟨rfl, fun _ => rfl⟩
          · rw [hmay]; simp; omega
    rcases hs with rfl | rfl | rfl
    · exact key 1 256 128 (.inl ⟨rfl, rfl, rfl⟩) rfl (by decide) (by decide) (by decide)
    · exact key 2 65536 32768 (.inr (.inl ⟨rfl, rfl, rfl⟩)) rfl (by decide) (by decide) (by decide)
    · exact key 4 4294967296 2147483648 (.inr (.inr ⟨rfl, rfl, rfl⟩)) rfl (by decide) (by decide) (by decide)
end Go.Proofs.Ytmdffenlehcekaa

set_option maxRecDepth 100000
namespace Go.Proofs.Ytmdffenlehcekaa
open Go Go.Am

theorem good_size {p : Pt} (h : p.good) : 1 ≤ p.size ∧ p.size ≤ 8 := by
  rcases h with h | ⟨h, _⟩
  · omega
  · omega
def NumPost (h : Heap) (b : Nat) (cv : Value) (code : List UInt8) (r : Int × (Int × Int)) (v : Value) (h' : Heap) : Prop :=
  ∃ at', v = .int .i64 r.1 ∧ h'[b]? = some ⟨.cells T_trammelref12_reader [cv, .int .i64 at', .int .i64 r.2.2], true⟩ ∧ (r.2.2 = 0 → at' = r.2.1) ∧ inK .i64 at' ∧ Keep [b] h h'
section
variable {h0 h : Heap} {S : Nat → Prop} {b bp : Nat} {cv : Value} {code : List UInt8} {at_ : Nat} {p : Pt} {tp : TypeId}
theorem num14 (hg : p.good) (hk : Keep [b] h0 h) (hb : h[b]? = some ⟨.cells T_trammelref12_reader [cv, .int .i64 ((at_ + p.size.toNat : Nat) : Int), .int .i64 0], true⟩) (hp : h[bp]? = some ⟨.cells tp (ptCells p), true⟩) (hl : at_ + p.size.toNat ≤ code.length) (hcl : code.length < 4611686018427387904) {u : Nat} {x : Int}
    (hu : u = leN ((code.drop at_).take p.size.toNat)) (hx : IntKind.i64.wrap x = signR p u) :
    WP (J_trammelref12_reader_number_14 (callW E) h (pt b) (pt bp) (.int .u64 x)) (Rt (NumPost h0 b cv code (readS code p ((at_ : Int), 0)))) := by
  have hgs := good_size hg
  have hul : u < 2 ^ (8 * p.size.toNat) := by
    have := leN_lt ((code.drop at_).take p.size.toNat)
    rw [← hu, show ((code.drop at_).take p.size.toNat).length = p.size.toNat by simp; omega] at this
    exact this
  have hw : wideS code (at_ : Int) p.size = ((u : Int), (at_ : Int) + p.size, 0) := by
    unfold wideS
    rw [if_neg (by omega), if_neg (by omega), Int.toNat_natCast, ← hu]
  have hs := sign_same hg hul
  have hr : readS code p ((at_ : Int), 0) = if p.may (signS p u) = false then (0, ((at_ : Int), 120)) else (signS p u, ((at_ : Int) + p.size, 0)) := by
    unfold readS
    simp only [hw]
    simp
  apply J_trammelref12_reader_number_14_wp
  unfold J_trammelref12_reader_number_14_b
  refine wp_obnd (ldA hp agg_T_trammelref12_part siz_T_trammelref12_part) ?_
  refine wp_obnd cv_T_uint64_T_int64 ?_
  rw [hx]
  refine wp_retK within_ok ?_
  rintro v h1 ⟨rfl, k1⟩
  refine wp_obnd un_not ?_
  have hb1 := k1.get hb (by simp)
  have kk : Keep [b] h0 h1 := hk.trans (k1.mono (by simp))
  refine wp_test (fun hc => ?_) fun hc => ?_
  · have hc : p.may (signR p u) = false := by simpa using hc
    refine wp_obnd nilck ?_
    refine wp_obnd fa_T_trammelref12_reader_2 ?_
    refine wp_st1 hb1 siz_T_api_Errno (by simp) rfl fun h2 k2 g2 l2 => ?_
    refine wp_some ⟨((at_ + p.size.toNat : Nat) : Int), ?_, ?_, ?_, ?_, kk.trans k2⟩
    · rw [hr, if_pos (hs.1 ▸ hc)]
    · rw [hr, if_pos (hs.1 ▸ hc)]; exact g2
    · rw [hr, if_pos (hs.1 ▸ hc)]; intro h; simp at h
    · simp only [inK]; omega
  · have hc : p.may (signR p u) = true := by simpa using hc
    have hc' := hs.1 ▸ hc
    refine wp_obnd cv_T_uint64_T_int64 ?_
    rw [hx]
    refine wp_some ⟨((at_ + p.size.toNat : Nat) : Int), ?_, ?_, ?_, ?_, kk⟩
    · rw [hr, if_neg (by simp [hc']), hs.2 hc']
    · rw [hr, if_neg (by simp [hc'])]; exact hb1
    · rw [hr, if_neg (by simp [hc'])]; intro _; show ((at_ + p.size.toNat : Nat) : Int) = (at_ : Int) + p.size; omega
    · simp only [inK]; omega
theorem num11 (hg : p.good) (hk : Keep [b] h0 h) (hb : h[b]? = some ⟨.cells T_trammelref12_reader [cv, .int .i64 at_, .int .i64 0], true⟩) (hp : h[bp]? = some ⟨.cells tp (ptCells p), true⟩) (hne : bp ≠ b) (hl : at_ + p.size.toNat ≤ code.length) (hcl : code.length < 4611686018427387904) {u : Nat}
    (hu : u = leN ((code.drop at_).take p.size.toNat)) :
    WP (J_trammelref12_reader_number_11 (callW E) h (pt b) (pt bp) (.int .u64 u)) (Rt (NumPost h0 b cv code (readS code p ((at_ : Int), 0)))) := by
  have hgs := good_size hg
  have hul : u < 2 ^ (8 * p.size.toNat) := by
    have := leN_lt ((code.drop at_).take p.size.toNat)
    rw [← hu, show ((code.drop at_).take p.size.toNat).length = p.size.toNat by simp; omega] at this
    exact this
  have hu64 : u < 18446744073709551616 := by
    have : 2 ^ (8 * p.size.toNat) ≤ 2 ^ 64 := Nat.pow_le_pow_right (by omega) (by omega)
    omega
  apply J_trammelref12_reader_number_11_wp
  unfold J_trammelref12_reader_number_11_b
  refine wp_obnd nilck ?_
  refine wp_obnd fa_T_trammelref12_reader_1 ?_
  refine wp_obnd (ld1 hb agg_T_int) ?_
  refine wp_obnd fa_T_trammelref12_part_0 ?_
  refine wp_obnd (ld1 hp agg_T_int) ?_
  refine wp_obnd bin_add ?_
  have e1 : IntKind.i64.wrap ((at_ : Int) + p.size) = ((at_ + p.size.toNat : Nat) : Int) := by
    rw [← wrap_nat (n := at_ + p.size.toNat) (by omega)]; congr 1; omega
  rw [e1]
  refine wp_obnd nilck ?_
  refine wp_obnd fa_T_trammelref12_reader_1 ?_
  refine wp_st1 hb siz_T_int (by simp) rfl fun h1 k1 g1 l1 => ?_
  have hp1 := k1.get hp (by simp [hne])
  have kk := hk.trans k1
  refine wp_obnd fa_T_trammelref12_part_3 ?_
  refine wp_obnd (ld1 hp1 agg_T_bool) ?_
  have pos : ¬ (p.signed = true ∧ p.size < 8 ∧ u / 2 ^ (8 * p.size.toNat - 1) = 1) → WP (J_trammelref12_reader_number_1000014 (callW E) h1 (pt b) (pt bp) (.int .u64 u) (.bool false)) (Rt (NumPost h0 b cv code (readS code p ((at_ : Int), 0)))) := by
    intro hn
    apply J_trammelref12_reader_number_1000014_wp
    unfold J_trammelref12_reader_number_1000014_b
    simp only [condF_false]
    exact num14 hg kk g1 hp1 hl hcl hu (by unfold signR; rw [if_neg hn])
  refine wp_guard (fun hc => ?_) fun hc => pos fun x => by rw [x.1] at hc; simp at hc
  refine wp_obnd fa_T_trammelref12_part_0 ?_
  refine wp_obnd (ld1 hp1 agg_T_int) ?_
  refine wp_obnd bin_lss ?_
  refine wp_guard (fun hd => ?_) fun hd => pos fun x => by have := of_decide_eq_false hd; omega
  have hd := of_decide_eq_true hd
  refine wp_obnd fa_T_trammelref12_part_0 ?_
  refine wp_obnd (ld1 hp1 agg_T_int) ?_
  refine wp_obnd bin_mul ?_
  have e8 : IntKind.i64.wrap (8 * p.size) = ((8 * p.size.toNat : Nat) : Int) := by
    rw [← wrap_nat (n := 8 * p.size.toNat) (by omega)]; congr 1; omega
  rw [e8]
  refine wp_obnd bin_sub ?_
  have e81 : IntKind.i64.wrap (((8 * p.size.toNat : Nat) : Int) - 1) = ((8 * p.size.toNat - 1 : Nat) : Int) := by
    rw [← wrap_nat (n := 8 * p.size.toNat - 1) (by omega)]; congr 1; omega
  rw [e81]
  refine wp_obnd (bin_shr (by omega)) ?_
  rw [Int.toNat_natCast, show min (8 * p.size.toNat - 1) IntKind.u64.bits = 8 * p.size.toNat - 1 from Nat.min_eq_left (by show _ ≤ 64; omega), fdiv_nat]
  refine wp_obnd bin_eql ?_
  cases hq : (((u / 2 ^ (8 * p.size.toNat - 1) : Nat) : Int) == 1) with
  | false =>
    refine pos fun x => ?_
    rw [x.2.2] at hq
    simp at hq
  | true =>
    have hq : u / 2 ^ (8 * p.size.toNat - 1) = 1 := by have := beq_iff_eq.1 hq; omega
    apply J_trammelref12_reader_number_1000014_wp
    unfold J_trammelref12_reader_number_1000014_b
    simp only [condF_true]
    refine wp_obnd fa_T_trammelref12_part_0 ?_
    refine wp_obnd (ld1 hp1 agg_T_int) ?_
    refine wp_obnd bin_mul ?_
    rw [e8]
    refine wp_obnd (bin_shl (by omega)) ?_
    refine wp_obnd bin_sub ?_
    refine num14 hg kk g1 hp1 hl hcl hu ?_
    unfold signR
    rw [if_pos ⟨hc, hd, hq⟩, show (8 * p.size) = ((8 * p.size.toNat : Nat) : Int) by omega]
theorem num8 (hg : p.good) (hk : Keep [b] h0 h) (hb : h[b]? = some ⟨.cells T_trammelref12_reader [cv, .int .i64 at_, .int .i64 0], true⟩) (hp : h[bp]? = some ⟨.cells tp (ptCells p), true⟩) (hne : bp ≠ b) (hc : rBy.rep S h [cv] code) (hl : at_ + p.size.toNat ≤ code.length) :
    ∀ (m i : Nat), p.size.toNat - i = m → i ≤ p.size.toNat → WP (L_trammelref12_reader_number_8 (callW E) h (pt b) (pt bp) (.int .u64 (leN ((code.drop at_).take i))) (.int .i64 i)) (Rt (NumPost h0 b cv code (readS code p ((at_ : Int), 0)))) := by
  have hgs := good_size hg
  have hlt := rBy_lt hc
  intro m
  induction m with
  | zero =>
    intro i hm hi
    obtain rfl : i = p.size.toNat := by omega
    apply L_trammelref12_reader_number_8_wp
    unfold L_trammelref12_reader_number_8_b
    refine wp_obnd fa_T_trammelref12_part_0 ?_
    refine wp_obnd (ld1 hp agg_T_int) ?_
    refine wp_ltt (fun hx => absurd hx (by omega)) fun _ => ?_
    exact num11 hg hk hb hp hne hl hlt rfl
  | succ m ih =>
    intro i hm hi
    apply L_trammelref12_reader_number_8_wp
    unfold L_trammelref12_reader_number_8_b
    refine wp_obnd fa_T_trammelref12_part_0 ?_
    refine wp_obnd (ld1 hp agg_T_int) ?_
    refine wp_ltt (fun _ => ?_) fun hx => absurd hx (by omega)
    refine wp_obnd nilck ?_
    refine wp_obnd fa_T_trammelref12_reader_0 ?_
    refine wp_obnd (ld1 hb agg_T_Suint8) ?_
    refine wp_obnd nilck ?_
    refine wp_obnd fa_T_trammelref12_reader_1 ?_
    refine wp_obnd (ld1 hb agg_T_int) ?_
    refine wp_obnd bin_add ?_
    have e1 : IntKind.i64.wrap ((at_ : Int) + (i : Int)) = ((at_ + i : Nat) : Int) := by rw [← wrap_nat (n := at_ + i) (by omega)]; rfl
    rw [e1]
    obtain ⟨c, hcc⟩ := get_of_lt (show at_ + i < code.length by omega)
    obtain ⟨q, hq, hq2⟩ := rBy_get (P := Try.prog) (k := .i64) hc slc_T_Suint8 siz_T_uint8 agg_T_uint8 hcc
    refine wp_obnd hq ?_
    refine wp_obnd hq2 ?_
    refine wp_obnd cv_T_uint8_T_uint64 ?_
    refine wp_obnd bin_mul ?_
    have e2 : IntKind.i64.wrap (8 * (i : Int)) = ((8 * i : Nat) : Int) := by rw [← wrap_nat (n := 8 * i) (by omega)]; rfl
    rw [e2]
    refine wp_obnd (bin_shl (by omega)) ?_
    refine wp_obnd bin_or ?_
    have hll : ((code.drop at_).take i).length = i := by simp; omega
    have hst := le_step (l := (code.drop at_).take i) (b := c) (by omega)
    rw [hll] at hst
    rw [hst]
    refine wp_obnd bin_add ?_
    rw [wrap_succ (show i < 9223372036854775807 by omega)]
    have htk : (code.drop at_).take (i + 1) = (code.drop at_).take i ++ [c] := by rw [List.take_add_one, List.getElem?_drop, hcc]; rfl
    rw [← htk]
    exact ih (i + 1) (by omega) (by omega)
end
theorem number_ok {h : Heap} {S : Nat → Prop} {b : Nat} {cv : Value} {code : List UInt8} {at_ e : Int} {p : Pt} (hg : p.good) (hb : h[b]? = some ⟨.cells T_trammelref12_reader [cv, .int .i64 at_, .int .i64 e], true⟩) (hc : rBy.rep S h [cv] code) (hs : ∀ x, S x → x ≠ b) (hat : inK .i64 at_) (hae : e = 0 → 0 ≤ at_ ∧ at_ ≤ code.length) :
    WP (callW E fn_trammelref12_reader_number [pt b, ptV p] h) (Rt (NumPost h b cv code (readS code p (at_, e)))) := by
  have hgs := good_size hg
  have hlt := rBy_lt hc
  refine F_trammelref12_reader_number ?_
  unfold B_trammelref12_reader_number
  refine wp_new (X := newBlk T_trammelref12_part (ptCells p)) (f := ptrTo) rfl fun h1 k1 g1 l1 => ?_
  have hb1 := k1.get hb (by simp)
  have kb : Keep [b] h h1 := k1.mono (by simp)
  refine wp_obnd nilck ?_
  refine wp_obnd fa_T_trammelref12_reader_2 ?_
  refine wp_obnd (ld1 hb1 agg_T_api_Errno) ?_
  refine wp_net (fun he => ?_) fun he => ?_
  · have hr : readS code p (at_, e) = (0, (at_, e)) := by unfold readS; rw [if_pos he]
    rw [hr]
    exact wp_some ⟨at_, rfl, hb1, fun _ => rfl, hat, kb⟩
  · subst he
    obtain ⟨ha1, ha2⟩ := hae rfl
    obtain ⟨n, rfl⟩ := Int.eq_ofNat_of_zero_le ha1
    refine wp_obnd fa_T_trammelref12_part_0 ?_
    refine wp_obnd (ld1 g1 agg_T_int) ?_
    refine wp_obnd nilck ?_
    refine wp_obnd fa_T_trammelref12_reader_0 ?_
    refine wp_obnd (ld1 hb1 agg_T_Suint8) ?_
    refine wp_obnd (rBy_len hc slc_T_Suint8) ?_
    refine wp_obnd nilck ?_
    refine wp_obnd fa_T_trammelref12_reader_1 ?_
    refine wp_obnd (ld1 hb1 agg_T_int) ?_
    refine wp_obnd bin_sub ?_
    rw [wrap_id (show inK .i64 ((code.length : Int) - (n : Int)) from ⟨by omega, by omega⟩)]
    refine wp_gtt (fun hc => ?_) fun hc => ?_
    · refine wp_obnd nilck ?_
      refine wp_obnd fa_T_trammelref12_reader_2 ?_
      refine wp_st1 hb1 siz_T_api_Errno (by simp) rfl fun h2 k2 g2 l2 => ?_
      have hr : readS code p ((n : Int), 0) = (0, ((n : Int), 10)) := by
        have hw : wideS code (n : Int) p.size = (0, 0, 10) := by unfold wideS; rw [if_neg (by omega), if_pos (by omega)]
        unfold readS
        simp [hw]
      rw [hr]
      exact wp_some ⟨_, rfl, g2, fun h => by simp at h, hat, kb.trans k2⟩
    · exact num8 hg kb hb1 g1 (by have := get_lt hb; omega) (rBy.keep0 ‹_› k1) (by omega) _ 0 rfl (Nat.zero_le _)
theorem parts_good (op : Int) : ∀ p, p ∈ (partsS op).1 → p.good := by
  have h1 : ∀ (p : Pt) (b : Bool), p.good → ∀ q, q ∈ (([p], b) : List Pt × Bool).1 → q.good := fun p b hp q hq => by simp at hq; rw [hq]; exact hp
  have h2 : ∀ (p : Pt) (b : Bool), p.good → ∀ q, q ∈ (([p, p], b) : List Pt × Bool).1 → q.good := fun p b hp q hq => by simp at hq; rw [hq]; exact hp
  have gw : ∀ n, (pWidth n).good := fun n => .inr ⟨.inl rfl, .inl ⟨rfl, by simp [pWidth]⟩⟩
  have gp : pPlace.good := .inr ⟨.inr (.inl rfl), .inl ⟨rfl, by simp [pPlace]⟩⟩
  have gl : pLeap.good := .inr ⟨.inr (.inr rfl), .inl ⟨rfl, by simp [pLeap]⟩⟩
  unfold partsS
  refine ite_ok (P := fun r : List Pt × Bool => ∀ p, p ∈ r.1 → p.good) (h1 _ _ (.inr ⟨.inl rfl, .inr ⟨rfl, by decide, by decide⟩⟩)) ?_
  refine ite_ok (P := fun r : List Pt × Bool => ∀ p, p ∈ r.1 → p.good) (h1 _ _ (.inr ⟨.inr (.inr rfl), .inr ⟨rfl, by decide, by decide⟩⟩)) ?_
  refine ite_ok (P := fun r : List Pt × Bool => ∀ p, p ∈ r.1 → p.good) (h1 _ _ (.inl rfl)) ?_
  refine ite_ok (P := fun r : List Pt × Bool => ∀ p, p ∈ r.1 → p.good) (h1 _ _ gp) ?_
  refine ite_ok (P := fun r : List Pt × Bool => ∀ p, p ∈ r.1 → p.good) (h2 _ _ gp) ?_
  refine ite_ok (P := fun r : List Pt × Bool => ∀ p, p ∈ r.1 → p.good) (h1 _ _ (gw 5)) ?_
  refine ite_ok (P := fun r : List Pt × Bool => ∀ p, p ∈ r.1 → p.good) (h1 _ _ (gw 3)) ?_
  refine ite_ok (P := fun r : List Pt × Bool => ∀ p, p ∈ r.1 → p.good) (h2 _ _ (gw 3)) ?_
  refine ite_ok (P := fun r : List Pt × Bool => ∀ p, p ∈ r.1 → p.good) (h1 _ _ gl) ?_
  refine ite_ok (P := fun r : List Pt × Bool => ∀ p, p ∈ r.1 → p.good) (h1 _ _ (.inr ⟨.inl rfl, .inl ⟨rfl, by simp⟩⟩)) ?_
  refine ite_ok (P := fun r : List Pt × Bool => ∀ p, p ∈ r.1 → p.good) (h1 _ _ (gw 3)) ?_
  intro p hp
  simp at hp
end Go.Proofs.Ytmdffenlehcekaa

set_option maxRecDepth 100000
namespace Go.Proofs.Ytmdffenlehcekaa
open Go Go.Am

/-- A reader; where it is, is told as long as nothing is wrong. -/
def RdS (h : Heap) (br : Nat) (cv : Value) (code : List UInt8) (s : Int × Int) : Prop :=
  ∃ at', h[br]? = some ⟨.cells T_trammelref12_reader [cv, .int .i64 at', .int .i64 s.2], true⟩ ∧ (s.2 = 0 → at' = s.1 ∧ 0 ≤ s.1 ∧ s.1 ≤ code.length) ∧ inK .i64 at'
section
variable {h h' : Heap} {br : Nat} {cv : Value} {code : List UInt8} {s : Int × Int} {M : List Nat} {S : Nat → Prop}
theorem RdS.go (hr : RdS h br cv code s) (k : Keep M h h') (hm : br ∉ M) : RdS h' br cv code s := by
  obtain ⟨a, h1, h2, h3⟩ := hr
  exact ⟨a, k.get h1 hm, h2, h3⟩
theorem RdS.lt (hr : RdS h br cv code s) : br < h.length := by
  obtain ⟨a, h1, _⟩ := hr
  exact get_lt h1
theorem RdS.err (hr : RdS h br cv code s) : ∃ ty at', h[br]? = some ⟨.cells ty [cv, .int .i64 at', .int .i64 s.2], true⟩ := by
  obtain ⟨a, h1, _⟩ := hr
  exact ⟨_, a, h1⟩
theorem wp_num {p : Pt} {k g : Value → Heap → R} {Q : Ret → Heap → Prop} (hr : RdS h br cv code s) (hg : p.good) (hc : rBy.rep S h [cv] code) (hs : ∀ x, S x → x ≠ br)
    (hk : ∀ h', RdS h' br cv code (readS code p s).2 → Keep [br] h h' → WP (k (.int .i64 (readS code p s).1) h') Q) : WP (retK (callW E fn_trammelref12_reader_number [pt br, ptV p] h) k g) Q := by
  obtain ⟨a, h1, h2, h3⟩ := hr
  refine wp_retK (number_ok hg h1 hc hs h3 fun he => by have := h2 he; omega) ?_
  rintro v h' ⟨at', rfl, g1, g2, g3, k1⟩
  have e1 : (readS code p (a, s.2)).1 = (readS code p s).1 ∧ (readS code p (a, s.2)).2.2 = (readS code p s).2.2 ∧ ((readS code p s).2.2 = 0 → (readS code p (a, s.2)).2.1 = (readS code p s).2.1) := by
    by_cases he : s.2 = 0
    · have : (a, s.2) = s := by rw [(h2 he).1]
      rw [this]
      exact ⟨rfl, rfl, fun _ => rfl⟩
    · have r1 : readS code p (a, s.2) = (0, (a, s.2)) := by unfold readS; rw [if_pos he]
      have r2 : readS code p s = (0, s) := by unfold readS; rw [if_pos he]
      rw [r1, r2]
      exact ⟨rfl, rfl, fun h => absurd h he⟩
  rw [e1.1]
  refine hk h' ⟨at', by rw [← e1.2.1]; exact g1, fun hz => ?_, g3⟩ k1
  have := readS_adv hz
  rw [g2 (by rw [e1.2.1]; exact hz), e1.2.2 hz]
  exact ⟨rfl, by omega, this.2.2.1⟩
end
theorem armsGo_err {code : List UInt8} {val : Pt} {n : Nat} {s : Int × Int} {acc : List (Int × Int)} (h : s.2 ≠ 0) : armsGo code val n s acc = (acc, s) := by
  cases n with
  | zero => rfl
  | succ n => unfold armsGo; rw [if_pos h]
structure AR (h0 h : Heap) (br bp : Nat) (cv lv : Value) (code : List UInt8) (s : Int × Int) (arms : List (Int × Int)) (val : Pt) : Prop where
  keep : Keep [br] h0 h
  rd : RdS h br cv code s
  part : ∃ t, h[bp]? = some ⟨.cells t (ptCells val), true⟩
  own : OwnL h lv T_api_Arm 2 arms.length (armCells arms)
  lb : ∀ x, x ∈ blks lv → h0.length ≤ x ∧ x ≠ bp
  inarms : ∀ x, x ∈ arms → inK .i64 x.1 ∧ inK .i64 x.2
  code : rBy.rep (fun x => x < h0.length ∧ x ≠ br) h [cv] code
def ArmsPost (h0 : Heap) (br : Nat) (cv : Value) (code : List UInt8) (r : List (Int × Int) × (Int × Int)) (v : Value) (h' : Heap) : Prop :=
  (rLw rArm).rep (fun x => h0.length ≤ x) h' [v] r.1 ∧ cellsOfV v = some [v] ∧ RdS h' br cv code r.2 ∧ Keep [br] h0 h'
theorem arms9 {h0 : Heap} {br bp : Nat} {cv : Value} {code : List UInt8} {val : Pt} (hbr : br < h0.length) (hbp : h0.length ≤ bp) (hv : val.good) {n : Nat} (hn : n ≤ 65535) : ∀ (m i : Nat) (h : Heap) (lv : Value) (s : Int × Int) (arms : List (Int × Int)), n - i = m → i ≤ n → AR h0 h br bp cv lv code s arms val → arms.length ≤ i →
    WP (L_trammelref12_reader_arms_9 (callW E) h (pt br) (.int .i64 n) (pt bp) lv (.int .i64 i)) (Rt (ArmsPost h0 br cv code (armsGo code val m s arms))) := by
  have fin : ∀ (h : Heap) (lv : Value) (s : Int × Int) (arms : List (Int × Int)), AR h0 h br bp cv lv code s arms val → WP (J_trammelref12_reader_arms_14 (callW E) h lv) (Rt (ArmsPost h0 br cv code (arms, s))) := by
    intro h lv s arms d
    apply J_trammelref12_reader_arms_14_wp
    unfold J_trammelref12_reader_arms_14_b
    exact wp_some ⟨arms_rep d.own (fun b hb => (d.lb b hb).1) d.inarms, by obtain ⟨a, c, rfl⟩ := d.own.form; rfl, d.rd, d.keep⟩
  intro m
  induction m with
  | zero =>
    intro i h lv s arms hm hi d hl
    obtain rfl : i = n := by omega
    apply L_trammelref12_reader_arms_9_wp
    unfold L_trammelref12_reader_arms_9_b
    refine wp_obnd bin_lss ?_
    refine wp_guard (fun hc => by simp at hc) fun _ => ?_
    exact fin h lv s arms d
  | succ m ih =>
    intro i h lv s arms hm hi d hl
    have lk := d.keep.len
    apply L_trammelref12_reader_arms_9_wp
    unfold L_trammelref12_reader_arms_9_b
    refine wp_obnd bin_lss ?_
    refine wp_guard (fun _ => ?_) fun hc => by simp at hc; omega
    obtain ⟨ty, at', he⟩ := d.rd.err
    refine wp_obnd nilck ?_
    refine wp_obnd fa_T_trammelref12_reader_2 ?_
    refine wp_obnd (ld1 he agg_T_api_Errno) ?_
    refine wp_eqt (fun hz => ?_) fun hz => ?_
    · obtain ⟨t, hp⟩ := d.part
      have hclt := rBy_lt d.code
      have hsz : ∀ x : Nat × Nat, True := fun _ => trivial
      refine wp_obnd (ldA hp agg_T_trammelref12_part siz_T_trammelref12_part) ?_
      refine wp_num d.rd hv d.code (fun x hx => hx.2) fun h1 r1 k1 => ?_
      have c1 := rBy.keep d.code k1 fun x hx => by simp; exact hx.2
      refine wp_retK leap_ok ?_
      rintro v h2 ⟨rfl, k2⟩
      have c2 := rBy.keep0 c1 k2
      refine wp_num (r1.go k2 (by simp)) (.inr ⟨.inr (.inr rfl), .inl ⟨rfl, by simp [pLeap]⟩⟩) c2 (fun x hx => hx.2) fun h3 r3 k3 => ?_
      have c3 := rBy.keep c2 k3 fun x hx => by simp; exact hx.2
      refine wp_obnd (a := .agg ⟨[.int .i64 (readS code val s).1, .int .i64 (readS code pLeap (readS code val s).2).1]⟩) (by kernel_rfl) ?_
      refine wp_new (X := newBlk T_api_Arm [.int .i64 (readS code val s).1, .int .i64 (readS code pLeap (readS code val s).2).1]) (f := sliceTo 1 1) (by kernel_rfl) fun h4 k4 g4 l4 => ?_
      have kk : Keep [br] h h4 := ((k1.trans (k2.mono (by simp))).trans k3).trans (k4.mono (by simp))
      have lkk := kk.len
      have dlb := d.lb
      have dlt := d.own.lt
      have o4 := d.own.go kk fun b hb => by have := (dlb b hb).1; simp; omega
      have hal := armCells_len arms
      refine wp_app o4 slc_T_Sapi_Arm inf_T_api_Arm nin_T_Sapi_Arm zer_T_api_Arm rfl rfl (by omega) (src_lit (n := 1) g4 rfl) rfl (by omega) (by omega) (by omega) fun lv' h5 o5 k5 b5 => ?_
      dsimp only
      refine wp_obnd bin_add ?_
      rw [wrap_succ (show i < 9223372036854775807 by omega)]
      have hplt := get_lt hp
      have nb : ∀ x, x ∈ blks lv → x ≠ br := fun x hx => by have := (dlb x hx).1; omega
      have hs1 : inK .i64 s.1 := by
        obtain ⟨a, _, q2, q3⟩ := d.rd
        rw [← (q2 hz).1]; exact q3
      have hr1 := readS_in (code := code) (p := val) (s := s) hclt hs1
      have hr2 := readS_in (code := code) (p := pLeap) (s := (readS code val s).2) hclt hr1.2
      have d5 : AR h0 h5 br bp cv lv' code (readS code pLeap (readS code val s).2).2 (arms ++ [((readS code val s).1, (readS code pLeap (readS code val s).2).1)]) val :=
        { keep := (d.keep.trans kk).trans_new k5 fun x hx => .inr (dlb x hx).1
          rd := (r3.go k4 (by simp)).go k5 fun hx => nb _ hx rfl
          part := ⟨t, k5.get (kk.get hp (by simp; omega)) fun hx => (dlb _ hx).2 rfl⟩
          own := by rw [armCells_snoc, List.length_append]; exact o5
          lb := fun x hx => by
            rcases b5 x hx with hx | hx
            · exact dlb x hx
            · exact ⟨by omega, by omega⟩
          inarms := fun x hx => by
            rcases List.mem_append.1 hx with hx | hx
            · exact d.inarms x hx
            · simp only [List.mem_singleton] at hx
              subst hx
              exact ⟨hr1.1, hr2.1⟩
          code := rBy.keep (rBy.keep0 c3 k4) k5 fun x hx hm => by have := (dlb x hm).1; omega }
      rw [show armsGo code val (m + 1) s arms = armsGo code val m (readS code pLeap (readS code val s).2).2 (arms ++ [((readS code val s).1, (readS code pLeap (readS code val s).2).1)]) from by
        conv => lhs; unfold armsGo
        rw [if_neg (by simp [hz])]]
      exact ih (i + 1) h5 lv' _ _ (by omega) (by omega) d5 (by simp; omega)
    · rw [armsGo_err hz]
      exact fin h lv s arms d
def valR (w : Int) : Pt := if 0 < bitsS w ∧ bitsS w < 64 then ⟨8, IntKind.i64.wrap (-1 * 2 ^ (min (bitsS w - 1).toNat 64)), IntKind.i64.wrap (IntKind.i64.wrap (1 * 2 ^ (min (bitsS w - 1).toNat 64)) - 1), true⟩ else ⟨8, -9223372036854775808, 9223372036854775807, true⟩
theorem valR_val {w : Int} (h : 1 ≤ w ∧ w ≤ 3) : valR w = valPt w := by
  have : w = 1 ∨ w = 2 ∨ w = 3 := by omega
  rcases this with rfl | rfl | rfl <;> decide
theorem bits_cases (w : Int) : bitsS w = 8 ∨ bitsS w = 32 ∨ bitsS w = 64 ∨ bitsS w = 0 := by
  unfold bitsS
  repeat' split
  all_goals simp
theorem arms_ok {h : Heap} {br : Nat} {cv : Value} {code : List UInt8} {S : Nat → Prop} {s : Int × Int} {w : Int} (hr : RdS h br cv code s) (hc : rBy.rep S h [cv] code) (hS : ∀ x, S x → x ≠ br) (hw : 1 ≤ w ∧ w ≤ 3 ∨ s.2 ≠ 0) (hw2 : 0 ≤ w ∧ w ≤ 255) :
    WP (callW E fn_trammelref12_reader_arms [pt br, .int .i64 w] h) (Rt (ArmsPost h br cv code (armsGo code (valPt w) (readS code pPlace s).1.toNat (readS code pPlace s).2 []))) := by
  refine F_trammelref12_reader_arms ?_
  unfold B_trammelref12_reader_arms
  refine wp_retK place_ok ?_
  rintro v h1 ⟨rfl, k1⟩
  refine wp_num (hr.go k1 (by simp)) (.inr ⟨.inr (.inl rfl), .inl ⟨rfl, by simp [pPlace]⟩⟩) (rBy.keep0 hc k1) hS fun h2 r2 k2 => ?_
  refine wp_obnd cv_T_int64_T_uint8 ?_
  have ew : IntKind.u8.wrap w = w := by rw [wu8]; omega
  rw [ew]
  refine wp_retK ref02_Bits_ok ?_
  rintro v h3 ⟨rfl, rfl⟩
  refine wp_obnd (a := ptV ⟨8, -9223372036854775808, 9223372036854775807, true⟩) (by kernel_rfl) ?_
  refine wp_new al_T_trammelref12_part fun h4 k4 g4 l4 => ?_
  refine wp_stA g4 siz_T_trammelref12_part rfl fun h5 k5 g5 l5 => ?_
  have hlt := hr.lt
  have l1 := k1.len
  have l2 := k2.len
  have k25 : Keep [br] h h5 := ((k1.mono (by simp)).trans k2).trans_new (k4.trans_new k5 (by simp) : Keep [] h3 h5) (by simp)
  have hn := readS_le (code := code) (p := pPlace) (s := s) (by simp [pPlace]) (by simp [pPlace])
  obtain ⟨m, hm⟩ := Int.eq_ofNat_of_zero_le hn.1
  have hm2 : m ≤ 65535 := by have := hn.2; rw [hm] at this; simp [pPlace] at this; omega
  have e9 : armsGo code (valPt w) m (readS code pPlace s).2 [] = armsGo code (valR w) m (readS code pPlace s).2 [] := by
    rcases hw with hw | hw
    · rw [valR_val hw]
    · have : (readS code pPlace s).2.2 ≠ 0 := by
        intro hz
        exact hw (readS_adv hz).1
      rw [armsGo_err this, armsGo_err this]
  have goodR : (valR w).good := by unfold valR; split <;> exact .inl rfl
  have last : ∀ (h6 : Heap) (t : TypeId), Keep [br] h h6 → Keep [] h3 h6 → h6[h3.length]? = some ⟨.cells t (ptCells (valR w)), true⟩ → WP (J_trammelref12_reader_arms_7 (callW E) h6 (pt br) (.int .i64 m) (pt h3.length)) (Rt (ArmsPost h br cv code (armsGo code (valPt w) m (readS code pPlace s).2 []))) := by
    intro h6 t k6 k36 g6
    apply J_trammelref12_reader_arms_7_wp
    unfold J_trammelref12_reader_arms_7_b
    rw [e9]
    refine arms9 (bp := h3.length) hlt (by omega) goodR hm2 m 0 h6 _ _ [] (by omega) (by omega) ⟨k6, r2.go k36 (by simp), ⟨t, g6⟩, OwnL.nil _ _ _, fun x hx => by simp [blks, blkOf] at hx, fun x hx => by simp at hx, ?_⟩ (by simp)
    exact rBy.go hc k6 fun x hx hl => ⟨by simp; exact hS x hx, hl, hS x hx⟩
  rw [hm, Int.toNat_natCast]
  refine wp_obnd bin_gtr ?_
  refine wp_guard (fun hb => ?_) fun hb => ?_
  · have hb := of_decide_eq_true hb
    refine wp_obnd bin_lss ?_
    apply J_trammelref12_reader_arms_1000006_wp
    unfold J_trammelref12_reader_arms_1000006_b
    refine wp_test (fun hb2 => ?_) fun hb2 => ?_
    · have hb2 := of_decide_eq_true hb2
      have hb3 : IntKind.i64.wrap (bitsS w - 1) = bitsS w - 1 := wrap_id ⟨by omega, by omega⟩
      refine wp_obnd bin_sub ?_
      rw [hb3]
      refine wp_obnd (bin_shl (by omega)) ?_
      refine wp_obnd fa_T_trammelref12_part_1 ?_
      refine wp_st1 g5 siz_T_int64 (by simp [ptCells]) rfl fun h6 k6 g6 l6 => ?_
      refine wp_obnd bin_sub ?_
      rw [hb3]
      refine wp_obnd (bin_shl (by omega)) ?_
      refine wp_obnd bin_sub ?_
      refine wp_obnd fa_T_trammelref12_part_2 ?_
      refine wp_st1 g6 siz_T_int64 (by simp [ptCells]) rfl fun h7 k7 g7 l7 => ?_
      refine last h7 T_trammelref12_part ((k25.trans_new k6 (by simp; omega)).trans_new k7 (by simp; omega)) ?_ ?_
      · exact ((k4.trans_new k5 (by simp)).trans_new k6 (by simp)).trans_new k7 (by simp)
      · unfold valR
        rw [if_pos ⟨hb, hb2⟩]
        exact g7
    · refine last h5 T_trammelref12_part k25 (k4.trans_new k5 (by simp)) ?_
      unfold valR
      rw [if_neg (fun x => of_decide_eq_false hb2 x.2)]
      exact g5
  · apply J_trammelref12_reader_arms_1000006_wp
    unfold J_trammelref12_reader_arms_1000006_b
    simp only [condF_false]
    refine last h5 T_trammelref12_part k25 (k4.trans_new k5 (by simp)) ?_
    unfold valR
    rw [if_neg (fun x => of_decide_eq_false hb x.1)]
    exact g5
end Go.Proofs.Ytmdffenlehcekaa

set_option maxRecDepth 100000
namespace Go.Proofs.Ytmdffenlehcekaa
open Go Go.Am

theorem readS_low {code : List UInt8} {p : Pt} {s : Int × Int} (h : (readS code p s).2.2 = 0) : p.lo ≤ (readS code p s).1 := by
  unfold readS at h ⊢
  split at h
  · rename_i h1; exact absurd h h1
  · rename_i h1
    split at h
    · simp at h
    · rename_i h2
      split at h
      · simp at h
      · rename_i h3
        rw [if_neg h1, if_neg h2, if_neg h3]
        simp only [Pt.may, Bool.not_eq_false, Bool.and_eq_true, decide_eq_true_eq] at h3
        exact h3.1
structure ES (h0 h : Heap) (b4 br bx : Nat) (cv av lv : Value) (code : List UInt8) (op a b : Int) (s : Int × Int) (ps : List Pt) (arms : List (Int × Int)) : Prop where
  keep : Keep [] h0 h
  o1 : h0.length ≤ b4
  o2 : b4 < br
  o3 : br < bx
  o4 : bx < h.length
  res : ∃ z, h[b4]? = some ⟨.cells T_api_Instr z, true⟩ ∧ z.length = 4
  ins : h[bx]? = some ⟨.cells T_api_Instr [.int .u8 op, .int .i64 a, .int .i64 b, av], true⟩
  rd : RdS h br cv code s
  code : rBy.rep (fun x => x < h0.length) h [cv] code
  parts : (rL rPt).rep (fun x => b4 < x ∧ x < br) h [lv] ps
  arms : (rLw rArm).rep (fun x => bx < x) h [av] arms
  ina : inK .i64 a
  inb : inK .i64 b
  inop : inK .u8 op
section
variable {h0 h h' : Heap} {b4 br bx : Nat} {cv av lv : Value} {code : List UInt8} {op a b : Int} {s s' : Int × Int} {ps : List Pt} {arms : List (Int × Int)}
theorem ES.go (d : ES h0 h b4 br bx cv av lv code op a b s ps arms) (k : Keep [] h h') : ES h0 h' b4 br bx cv av lv code op a b s ps arms := by
  have := k.len
  have := d.o4
  exact { d with
    keep := d.keep.trans k, o4 := by omega
    res := by obtain ⟨z, h1, h2⟩ := d.res; exact ⟨z, k.get h1 (by simp), h2⟩
    ins := k.get d.ins (by simp), rd := d.rd.go k (by simp), code := rBy.keep0 d.code k, parts := (rL rPt).keep0 d.parts k, arms := (rLw rArm).keep0 d.arms k }
theorem ES.read (d : ES h0 h b4 br bx cv av lv code op a b s ps arms) (k : Keep [br] h h') (r : RdS h' br cv code s') : ES h0 h' b4 br bx cv av lv code op a b s' ps arms := by
  have := k.len
  have := d.o1; have := d.o2; have := d.o3; have := d.o4
  exact { d with
    keep := d.keep.trans_new k (by simp; omega), o4 := by omega
    res := by obtain ⟨z, h1, h2⟩ := d.res; exact ⟨z, k.get h1 (by simp; omega), h2⟩
    ins := k.get d.ins (by simp; omega), rd := r, code := rBy.keep d.code k (by simp; intro b hb; omega)
    parts := (rL rPt).keep d.parts k (by rintro x ⟨_, hx⟩; simp; omega), arms := (rLw rArm).keep d.arms k (by intro x hx; simp; omega) }
theorem ES.set (d : ES h0 h b4 br bx cv av lv code op a b s ps arms) {a' b' : Int} {av' : Value} {arms' : List (Int × Int)} (k : Keep [bx] h h') (g : h'[bx]? = some ⟨.cells T_api_Instr [.int .u8 op, .int .i64 a', .int .i64 b', av'], true⟩) (ha : inK .i64 a') (hb : inK .i64 b') (hr : (rLw rArm).rep (fun x => bx < x) h' [av'] arms') : ES h0 h' b4 br bx cv av' lv code op a' b' s ps arms' := by
  have := k.len
  have := d.o1; have := d.o2; have := d.o3; have := d.o4
  exact { d with
    keep := d.keep.trans_new k (by simp; omega), o4 := by omega
    res := by obtain ⟨z, h1, h2⟩ := d.res; exact ⟨z, k.get h1 (by simp; omega), h2⟩
    ins := g, rd := d.rd.go k (by simp; omega), code := rBy.keep d.code k (by simp; intro b hb; omega)
    parts := (rL rPt).keep d.parts k (by rintro x ⟨_, hx⟩; simp; omega), arms := hr, ina := ha, inb := hb }
theorem ES.lt (d : ES h0 h b4 br bx cv av lv code op a b s ps arms) : code.length < 4611686018427387904 := rBy_lt d.code
theorem ES.inr (d : ES h0 h b4 br bx cv av lv code op a b s ps arms) {p : Pt} : inK .i64 (readS code p s).1 := by
  obtain ⟨a, h1, h2, h3⟩ := d.rd
  have hl := d.lt
  by_cases he : s.2 = 0
  · exact (readS_in hl (by have := h2 he; constructor <;> omega)).1
  · have r2 : readS code p s = (0, s) := by unfold readS; rw [if_pos he]
    rw [r2]; simp [inK]
theorem wp_numE (d : ES h0 h b4 br bx cv av lv code op a b s ps arms) {p : Pt} {k g : Value → Heap → R} {Q : Ret → Heap → Prop} (hg : p.good)
    (hk : ∀ h', ES h0 h' b4 br bx cv av lv code op a b (readS code p s).2 ps arms → Keep [br] h h' → inK .i64 (readS code p s).1 → WP (k (.int .i64 (readS code p s).1) h') Q) :
    WP (retK (callW E fn_trammelref12_reader_number [pt br, ptV p] h) k g) Q := by
  have := d.o1; have := d.o2
  exact wp_num d.rd hg d.code (fun x hx => by omega) fun h1 r1 k1 => hk h1 (d.read k1 r1) k1 d.inr
theorem edec15 (d : ES h0 h b4 br bx cv av lv code op a b s ps arms) : WP (J_trammelref12_Decode_15 (callW E) h (pt b4) (pt br) (pt bx)) (Rt (DecPost h0 (if s.2 ≠ 0 then (zIns, 0, s.2) else (⟨op, a, b, arms⟩, s.1, 0)))) := by
  have o1 := d.o1; have o2 := d.o2; have o3 := d.o3; have o4 := d.o4
  obtain ⟨z, hz, hzl⟩ := d.res
  obtain ⟨at', hr, hr2, hr3⟩ := d.rd
  apply J_trammelref12_Decode_15_wp
  unfold J_trammelref12_Decode_15_b
  refine wp_obnd nilck ?_
  refine wp_obnd fa_T_trammelref12_reader_2 ?_
  refine wp_obnd (ld1 hr agg_T_api_Errno) ?_
  refine wp_net (fun he => ?_) fun he => ?_
  · refine wp_obnd (a := .agg ⟨[.int .u8 0, .int .i64 0, .int .i64 0, .slice none 0 0]⟩) (by kernel_rfl) ?_
    refine wp_obnd nilck ?_
    refine wp_obnd fa_T_trammelref12_reader_2 ?_
    refine wp_obnd (ld1 hr agg_T_api_Errno) ?_
    refine wp_stA hz siz_T_api_Instr hzl fun h1 k1 g1 l1 => ?_
    refine wp_chkActs ?_ ?_
    · intro x hx b hb
      simp only [List.mem_singleton] at hx
      subst hx
      simp only [blkOf, Option.some.injEq] at hb
      subst hb
      exact k1.at_ _ (get_lt hr) (by simp; omega)
    · refine kr_trammelref12_Decode rfl rfl rfl (ldA g1 agg_T_api_Instr siz_T_api_Instr) ?_
      rw [if_pos he]
      exact ⟨_, rfl, zIns_rep, d.keep.trans_new k1 (by simp; omega)⟩
  · have he' : s.2 = 0 := by simpa using he
    refine wp_obnd (ldA d.ins agg_T_api_Instr siz_T_api_Instr) ?_
    refine wp_obnd nilck ?_
    refine wp_obnd fa_T_trammelref12_reader_1 ?_
    refine wp_obnd (ld1 hr agg_T_int) ?_
    refine wp_stA hz siz_T_api_Instr hzl fun h1 k1 g1 l1 => ?_
    refine wp_chkActs ?_ ?_
    · intro x hx b hb
      simp only [List.mem_singleton] at hx
      subst hx
      simp only [blkOf, Option.some.injEq] at hb
      subst hb
      exact k1.at_ _ (get_lt hr) (by simp; omega)
    · refine kr_trammelref12_Decode rfl rfl rfl (ldA g1 agg_T_api_Instr siz_T_api_Instr) ?_
      rw [if_neg (by simp [he']), (hr2 he').1]
      refine ⟨_, rfl, rInsW_mk (x := ⟨op, a, b, arms⟩) d.inop d.ina d.inb ?_, d.keep.trans_new k1 (by simp; omega)⟩
      exact (rLw rArm).sub ((rLw rArm).keep d.arms k1 (by intro x hx; simp; omega)) fun x hx _ => by omega
theorem edec12 (d : ES h0 h b4 br bx cv (.slice none 0 0) lv code op a b s ps []) (ha : op = 49 → (1 ≤ a ∧ a ≤ 3 ∨ s.2 ≠ 0) ∧ 0 ≤ a ∧ a ≤ 255) :
    WP (J_trammelref12_Decode_12 (callW E) h (pt b4) (pt br) (pt bx)) (Rt (DecPost h0 (if (tailS code op a b s).2.2 ≠ 0 then (zIns, 0, (tailS code op a b s).2.2) else ((tailS code op a b s).1, (tailS code op a b s).2.1, 0)))) := by
  have o1 := d.o1; have o2 := d.o2; have o3 := d.o3; have o4 := d.o4
  apply J_trammelref12_Decode_12_wp
  unfold J_trammelref12_Decode_12_b
  refine wp_obnd fa_T_api_Instr_0 ?_
  refine wp_obnd (ld1 d.ins agg_T_uint8) ?_
  refine wp_eqt (fun ho => ?_) fun ho => ?_
  · obtain ⟨ha1, ha2⟩ := ha ho
    refine wp_obnd fa_T_api_Instr_1 ?_
    refine wp_obnd (ld1 d.ins agg_T_int64) ?_
    refine wp_retK (arms_ok d.rd d.code (fun x hx => by omega) ha1 ha2) ?_
    rintro v h1 ⟨r1, c1, rd1, k1⟩
    have d1 := d.read k1 rd1
    refine wp_obnd fa_T_api_Instr_3 ?_
    refine wp_st1 d1.ins siz_T_Sapi_Arm (by simp) c1 fun h2 k2 g2 l2 => ?_
    have r2 := (rLw rArm).sub ((rLw rArm).keep r1 k2 (by intro x hx; simp; omega)) (S' := fun x => bx < x) fun x hx _ => by omega
    have d2 := d1.set k2 g2 d.ina d.inb r2
    refine wp_retK leap_ok ?_
    rintro v h3 ⟨rfl, k3⟩
    refine wp_numE (d2.go k3) (p := pLeap) (.inr ⟨.inr (.inr rfl), .inl ⟨rfl, by simp [pLeap]⟩⟩) fun h4 d4 k4 i4 => ?_
    refine wp_obnd fa_T_api_Instr_2 ?_
    refine wp_st1 d4.ins siz_T_int64 (by simp) rfl fun h5 k5 g5 l5 => ?_
    have d5 := d4.set k5 g5 d.ina i4 ((rLw rArm).keep d4.arms k5 (by intro x hx; simp; omega))
    have e2 : tailS code op a b s = (⟨op, a, (readS code pLeap (armsGo code (valPt a) (readS code pPlace s).1.toNat (readS code pPlace s).2 []).2).1, (armsGo code (valPt a) (readS code pPlace s).1.toNat (readS code pPlace s).2 []).1⟩, (readS code pLeap (armsGo code (valPt a) (readS code pPlace s).1.toNat (readS code pPlace s).2 []).2).2) := by
      unfold tailS
      rw [if_pos ho]
    rw [e2]
    exact edec15 d5
  · have := edec15 d
    unfold tailS
    rw [if_neg ho]
    exact this
theorem edec10 (d : ES h0 h b4 br bx cv (.slice none 0 0) lv code op a 0 s ps []) (hq : ∀ q, ps[1]? = some q → q.good) (ha : op = 49 → ps.length ≤ 1 ∧ (1 ≤ a ∧ a ≤ 3 ∨ s.2 ≠ 0) ∧ 0 ≤ a ∧ a ≤ 255) :
    WP (J_trammelref12_Decode_10 (callW E) h (pt b4) lv (pt br) (pt bx)) (Rt (DecPost h0 (
      let r := match ps[1]? with | none => ((0 : Int), s) | some q => readS code q s
      if (tailS code op a r.1 r.2).2.2 ≠ 0 then (zIns, 0, (tailS code op a r.1 r.2).2.2) else ((tailS code op a r.1 r.2).1, (tailS code op a r.1 r.2).2.1, 0)))) := by
  apply J_trammelref12_Decode_10_wp
  unfold J_trammelref12_Decode_10_b
  refine wp_obnd (rL_len d.parts slc_T_Strammelref12_part) ?_
  refine wp_gtt (fun hc => ?_) fun hc => ?_
  · obtain ⟨q, hq2⟩ := get_of_lt (show 1 < ps.length by omega)
    rw [hq2]
    obtain ⟨p, cs, h1, h2, h3⟩ := rL_getG (P := Try.prog) (k := .i64) d.parts slc_T_Strammelref12_part siz_T_trammelref12_part agg_T_trammelref12_part hq2
    refine wp_obnd h1 ?_
    refine wp_obnd h2 ?_
    have h3 : cs = ptCells q := h3
    subst h3
    refine wp_numE d (hq q hq2) fun h4 d4 k4 i4 => ?_
    refine wp_obnd fa_T_api_Instr_2 ?_
    refine wp_st1 d4.ins siz_T_int64 (by simp) rfl fun h5 k5 g5 l5 => ?_
    have d5 := d4.set k5 g5 d.ina i4 rLw_nil
    refine edec12 d5 fun ho => ?_
    have := ha ho
    omega
  · rw [List.getElem?_eq_none (by omega)]
    exact edec12 d fun ho => (ha ho).2
end
theorem D_ref_ok {h : Heap} {S : Nat → Prop} {cv : Value} {code : List UInt8} {at_ : Int} (hc : rBy.rep S h [cv] code) (hat : inK .i64 at_) :
    WP (callW E fn_trammelref12_Decode [cv, .int .i64 at_] h) (Rt (DecPost h (decodeS code at_))) := by
  have hlt := rBy_lt hc
  refine F_trammelref12_Decode ?_
  unfold B_trammelref12_Decode
  refine wp_new al_T_api_Instr fun h1 k1 g1 l1 => ?_
  have hc1 := rBy.keep0 hc k1
  have bad : (at_ < 0 ∨ at_ ≥ code.length) → WP (J_trammelref12_Decode_1000003 (callW E) h1 cv (.int .i64 at_) (pt h.length) (.bool true)) (Rt (DecPost h (decodeS code at_))) := by
    intro hb
    rw [show decodeS code at_ = (zIns, 0, 2) from by unfold decodeS; rw [if_pos hb]]
    apply J_trammelref12_Decode_1000003_wp
    unfold J_trammelref12_Decode_1000003_b
    simp only [condF_true]
    exact dec_bad k1 (Nat.le_refl _) g1 rfl fun h2 hl k2 => kr_trammelref12_Decode rfl rfl rfl hl (decPost_zero k2)
  refine wp_obnd bin_lss ?_
  refine wp_guard (fun hc => bad (.inl (of_decide_eq_true hc))) fun c1 => ?_
  refine wp_obnd (rBy_len hc slc_T_Suint8) ?_
  refine wp_obnd bin_geq ?_
  cases c2 : decide (at_ ≥ (code.length : Int)) with
  | true => exact bad (.inr (of_decide_eq_true c2))
  | false =>
    have c1 := of_decide_eq_false c1
    have c2 := of_decide_eq_false c2
    obtain ⟨n, rfl⟩ := Int.eq_ofNat_of_zero_le (show 0 ≤ at_ by omega)
    have hn : n < code.length := by omega
    obtain ⟨b, hb⟩ := get_of_lt hn
    have e0 : decodeS code (n : Int) = decodeAt code (b.toNat : Int) n := by
      unfold decodeS
      rw [if_neg (by omega), Int.toNat_natCast, hb]
      rfl
    rw [e0]
    apply J_trammelref12_Decode_1000003_wp
    unfold J_trammelref12_Decode_1000003_b
    simp only [condF_false]
    obtain ⟨p, hp, hp2⟩ := rBy_get (P := Try.prog) (k := .i64) hc1 slc_T_Suint8 siz_T_uint8 agg_T_uint8 hb
    refine wp_obnd hp ?_
    refine wp_obnd hp2 ?_
    refine wp_retK parts_ok ?_
    rintro v h2 ⟨lv, rfl, rl, k2⟩
    refine wp_obnd ext0 ?_
    refine wp_obnd ext1 ?_
    refine wp_obnd un_not ?_
    have l2 := k2.len
    have g1' := k2.get g1 (by simp)
    have k02 : Keep [] h h2 := k1.trans k2
    refine wp_test (fun hd => ?_) fun hd => ?_
    · have hd : (partsS (b.toNat : Int)).2 = false := by simpa using hd
      rw [show decodeAt code (b.toNat : Int) n = (zIns, 0, 120) from by unfold decodeAt; rw [if_pos hd]]
      exact dec_bad k02 (Nat.le_refl _) g1' rfl fun h2 hl k2 => kr_trammelref12_Decode rfl rfl rfl hl (decPost_zero k2)
    · have hd : (partsS (b.toNat : Int)).2 = true := by simpa using hd
      refine wp_obnd bin_add ?_
      rw [wrap_succ (show n < 9223372036854775807 by omega)]
      obtain ⟨ca, cc, hcv, _⟩ := rBy_open hc
      subst hcv
      refine wp_obnd (a := .agg ⟨[.slice ca code.length cc, .int .i64 ((n + 1 : Nat) : Int), .int .i64 0]⟩) (by kernel_rfl) ?_
      refine wp_new (X := newBlk T_trammelref12_reader [.slice ca code.length cc, .int .i64 ((n + 1 : Nat) : Int), .int .i64 0]) (f := ptrTo) rfl fun h3 k3 g3 l3 => ?_
      have hc3 := rBy.keep0 hc1 (k2.trans k3)
      obtain ⟨p', hp', hp2'⟩ := rBy_get (P := Try.prog) (k := .i64) hc3 slc_T_Suint8 siz_T_uint8 agg_T_uint8 hb
      refine wp_obnd hp' ?_
      refine wp_obnd hp2' ?_
      refine wp_obnd (a := .agg ⟨[.int .u8 b.toNat, .int .i64 0, .int .i64 0, .slice none 0 0]⟩) (by kernel_rfl) ?_
      refine wp_new al_T_api_Instr fun h4 k4 g4 l4 => ?_
      refine wp_stA g4 siz_T_api_Instr rfl fun h5 k5 g5 l5 => ?_
      have k35 : Keep [] h3 h5 := k4.trans_new k5 (by simp)
      have k25 : Keep [] h2 h5 := k3.trans k35
      have d5 : ES h h5 h.length h2.length h3.length (.slice ca code.length cc) (.slice none 0 0) lv code (b.toNat : Int) 0 0 (((n + 1 : Nat) : Int), 0) (partsS (b.toNat : Int)).1 [] :=
        { keep := k02.trans k25, o1 := Nat.le_refl _, o2 := by omega, o3 := by omega, o4 := by omega
          res := ⟨_, k25.get g1' (by simp), rfl⟩
          ins := g5
          rd := ⟨_, k35.get g3 (by simp), fun _ => ⟨rfl, by omega, by show ((n + 1 : Nat) : Int) ≤ _; omega⟩, by constructor <;> omega⟩
          code := rBy.go hc (k02.trans k25) fun x hx hl => ⟨by simp, hl⟩
          parts := (rL rPt).go rl k25 fun x hx hl => ⟨by simp, by omega, hl⟩
          arms := rLw_nil
          ina := by simp [inK], inb := by simp [inK], inop := inK_byte b }
      have e1 : decodeAt code (b.toNat : Int) (n : Int) = (if (tailS code (b.toNat : Int) (headS code (partsS (b.toNat : Int)).1 (((n + 1 : Nat) : Int), 0)).1 (headS code (partsS (b.toNat : Int)).1 (((n + 1 : Nat) : Int), 0)).2.1 (headS code (partsS (b.toNat : Int)).1 (((n + 1 : Nat) : Int), 0)).2.2).2.2 ≠ 0 then (zIns, 0, (tailS code (b.toNat : Int) (headS code (partsS (b.toNat : Int)).1 (((n + 1 : Nat) : Int), 0)).1 (headS code (partsS (b.toNat : Int)).1 (((n + 1 : Nat) : Int), 0)).2.1 (headS code (partsS (b.toNat : Int)).1 (((n + 1 : Nat) : Int), 0)).2.2).2.2) else ((tailS code (b.toNat : Int) (headS code (partsS (b.toNat : Int)).1 (((n + 1 : Nat) : Int), 0)).1 (headS code (partsS (b.toNat : Int)).1 (((n + 1 : Nat) : Int), 0)).2.1 (headS code (partsS (b.toNat : Int)).1 (((n + 1 : Nat) : Int), 0)).2.2).1, (tailS code (b.toNat : Int) (headS code (partsS (b.toNat : Int)).1 (((n + 1 : Nat) : Int), 0)).1 (headS code (partsS (b.toNat : Int)).1 (((n + 1 : Nat) : Int), 0)).2.1 (headS code (partsS (b.toNat : Int)).1 (((n + 1 : Nat) : Int), 0)).2.2).2.1, 0)) := by
        unfold decodeAt
        rw [if_neg (by simp [hd])]
        rfl
      rw [e1]
      have h49 : (b.toNat : Int) = 49 → (partsS (b.toNat : Int)).1 = [pWidth 3] := fun h => by rw [h, parts49]
      have hgood := parts_good (b.toNat : Int)
      refine wp_obnd (rL_len d5.parts slc_T_Strammelref12_part) ?_
      refine wp_gtt (fun hc => ?_) fun hc => ?_
      · obtain ⟨q, hq2⟩ := get_of_lt (show 0 < (partsS (b.toNat : Int)).1.length by omega)
        obtain ⟨p6, cs, h1, h2, h3⟩ := rL_getG (P := Try.prog) (k := .i64) d5.parts slc_T_Strammelref12_part siz_T_trammelref12_part agg_T_trammelref12_part hq2
        refine wp_obnd h1 ?_
        refine wp_obnd h2 ?_
        have h3 : cs = ptCells q := h3
        subst h3
        refine wp_numE d5 (hgood q (List.mem_of_getElem? hq2)) fun h6 d6 k6 i6 => ?_
        refine wp_obnd fa_T_api_Instr_1 ?_
        refine wp_st1 d6.ins siz_T_int64 (by simp) rfl fun h7 k7 g7 l7 => ?_
        have d7 := d6.set k7 g7 i6 d6.inb rLw_nil
        refine wp_rt (edec10 d7 (fun q hq => hgood q (List.mem_of_getElem? hq)) fun ho => ?_) ?_
        · have hp := h49 ho
          rw [hp] at hq2 ⊢
          simp at hq2
          subst hq2
          have h1 := readS_le (code := code) (p := pWidth 3) (s := (((n + 1 : Nat) : Int), 0)) (by simp [pWidth]) (by simp [pWidth])
          have h3 : (pWidth 3).hi = 3 := rfl
          rw [h3] at h1
          refine ⟨by simp, ?_, h1.1, by omega⟩
          by_cases he : (readS code (pWidth 3) (((n + 1 : Nat) : Int), 0)).2.2 = 0
          · left
            have h2 := readS_low (code := code) (p := pWidth 3) (s := (((n + 1 : Nat) : Int), 0)) he
            have h4 : (pWidth 3).lo = 1 := rfl
            omega
          · exact .inr he
        · intro v h' hp
          rcases parts_len (b.toNat : Int) with hp1 | ⟨p, hp1⟩ | ⟨p, q', hp1⟩
          · rw [hp1] at hq2; simp at hq2
          · rw [hp1] at hq2 hp ⊢
            simp at hq2
            subst hq2
            exact hp
          · rw [hp1] at hq2 hp ⊢
            simp at hq2
            subst hq2
            exact hp
      · have hnil : (partsS (b.toNat : Int)).1 = [] := by
          rcases parts_len (b.toNat : Int) with hp1 | ⟨p, hp1⟩ | ⟨p, q', hp1⟩
          · exact hp1
          · rw [hp1] at hc; simp at hc
          · rw [hp1] at hc; simp at hc
        refine wp_rt (edec10 d5 (fun q hq => by rw [hnil] at hq; simp at hq) fun ho => ?_) ?_
        · rw [h49 ho] at hnil; simp at hnil
        · intro v h' hp
          rw [hnil] at hp ⊢
          exact hp
end Go.Proofs.Ytmdffenlehcekaa

set_option maxRecDepth 100000
namespace Go.Proofs.Ytmdffenlehcekaa
open Go Go.Am

theorem A_ref_loop {h0 : Heap} {cv : Value} {code : List UInt8} {S : Nat → Prop} (hl : code.length ≤ 65536) : ∀ (n : Nat) (h : Heap) (lv pv : Value) (l : List Ins) (ps : List Int) (at_ : Int), AS h0 h lv pv l ps → rBy.rep (fun b => b < h0.length) h [cv] code → 0 ≤ at_ → at_ ≤ code.length → code.length - at_ < n →
    l.length ≤ at_ → ps.length = l.length → WP (L_trammelref12_All_4 (callW E) h cv lv pv (.int .i64 at_)) (Rt (AllPost h0 (allF code n at_ l ps))) := by
  intro n
  induction n with
  | zero => intro h lv pv l ps at_ d hc ha hb hn; omega
  | succ n ih =>
    intro h lv pv l ps at_ d hc ha hb hn hll hpl
    apply L_trammelref12_All_4_wp
    unfold L_trammelref12_All_4_b
    refine wp_obnd (rBy_len hc slc_T_Suint8) ?_
    have l0 := d.keep.len
    refine wp_ltt (fun hlt => ?_) fun hge => ?_
    · refine wp_retK (D_ref_ok hc ⟨by omega, by omega⟩) ?_
      rintro v h4 ⟨cs, rfl, hx, k4⟩
      refine wp_obnd ext0 ?_
      refine wp_obnd ext1 ?_
      refine wp_obnd ext2 ?_
      have l4 := k4.len
      refine wp_new al_T_api_Instr fun h5 k5 g5 l5 => ?_
      have hcs := rInsW.len hx
      have hcs4 : cs.length = 4 := hcs
      refine wp_stA g5 (by rw [hcs4]; exact siz_T_api_Instr) (by rw [hcs4]; rfl) fun h6 k6 g6 l6 => ?_
      have k46 : Keep [] h4 h6 := k5.trans_new k6 (by simp)
      refine wp_net (fun he => ?_) fun he => ?_
      · refine wp_some ?_
        have e : allF code (n + 1) at_ l ps = ([], [], (decodeS code at_).2.2) := by
          conv => lhs; unfold allF
          rw [if_pos hlt, if_pos he]
        rw [e]
        exact ⟨_, _, rfl, AS.nil ((d.keep.trans k4).trans k46)⟩
      · refine wp_obnd (ldA g6 agg_T_api_Instr (by rw [hcs4]; exact siz_T_api_Instr)) ?_
        obtain ⟨cells, hcl, hce⟩ := d.l
        obtain ⟨va, hcsv, _⟩ := rInsW_cells hx
        refine wp_new (X := newBlk T_api_Instr cs) (f := sliceTo 1 1) (by rw [hcsv]; kernel_rfl) fun h7 k7 g7 l7 => ?_
        have hadv := decodeS_adv he
        have nil0 : ∀ {b : Nat} {M : List Nat}, b ∈ M → b ∉ ([] : List Nat) := fun _ => by simp
        have kk7 : Keep [] h h7 := (k4.trans k46).trans k7
        refine wp_app (hcl.go kk7 (by simp)) slc_T_Sapi_Instr inf_T_api_Instr nin_T_Sapi_Instr zer_T_api_Instr rfl rfl (by omega) (src_lit (n := 1) g7 hcs4) hcs4 (by omega) (by omega) (by omega) fun lv' h8 o8 k8 b8 => ?_
        dsimp only
        refine wp_new (X := newBlk T_int [.int .i64 at_]) (f := sliceTo 1 1) (by kernel_rfl) fun h9 k9 g9 l9 => ?_
        have hp9 : OwnL h9 pv T_int 1 ps.length (ps.map (.int .i64)) := ((d.p.go kk7 (by simp)).go k8 fun b hb hm => d.ne b hm hb).go k9 (by simp)
        refine wp_app hp9 slc_T_Sint inf_T_int nin_T_Sint zer_T_int rfl rfl (by omega) (src_lit (n := 1) g9 rfl) rfl (by omega) (by omega) (by omega) fun pv' ha oa ka ba => ?_
        dsimp only
        have dn : AS h0 ha lv' pv' (l ++ [(decodeS code at_).1]) (ps ++ [at_]) := d.push k4 hx (k46.trans k7) hcl hce o8 k8 b8 k9 oa ka ba ⟨by omega, by omega⟩
        have e : allF code (n + 1) at_ l ps = allF code n (decodeS code at_).2.1 (l ++ [(decodeS code at_).1]) (ps ++ [at_]) := by
          conv => lhs; unfold allF
          rw [if_pos hlt, if_neg (by simp [he])]
        rw [e]
        have lbl := d.lb
        have hc' := rBy.keep (rBy.keep0 (rBy.keep (rBy.keep0 hc kk7) k8 fun b hb hm => by have := lbl b hm; omega) k9) ka fun b hb hm => by have := d.pb b hm; omega
        exact ih ha lv' pv' _ _ _ dn hc' (by omega) hadv.2.2.2 (by omega) (by simp; omega) (by simp; omega)
    · apply J_trammelref12_All_11_wp
      unfold J_trammelref12_All_11_b
      refine wp_some ?_
      have e : allF code (n + 1) at_ l ps = (l, ps, 0) := by
        conv => lhs; unfold allF
        rw [if_neg (by omega)]
      rw [e]
      exact ⟨_, _, rfl, d⟩
theorem A_ref_ok {h : Heap} {S : Nat → Prop} {cv : Value} {code : List UInt8} (hc : rBy.rep S h [cv] code) (hl : code.length ≤ 65536) : WP (callW E fn_trammelref12_All [cv] h) (Rt (AllPost h (allS code))) := by
  refine F_trammelref12_All ?_
  unfold B_trammelref12_All
  exact A_ref_loop (S := S) hl _ h _ _ _ _ 0 (AS.nil (Keep.refl _ _)) (rBy.sub hc fun b _ hl => hl) (by omega) (by omega) (by omega) (by simp) rfl
end Go.Proofs.Ytmdffenlehcekaa

set_option maxRecDepth 100000
namespace Go.Proofs.Ytmdffenlehcekaa
open Go Go.Am

theorem idx_sl {P : Program} {t e : TypeId} {sz b o n c : Nat} {k : IntKind} {i : Int} (ht : sliceT P t = some e) (hz : sizeT P e = some sz) (hi : 0 ≤ i ∧ i < n) : aIndexAddr P t (.slice (some ⟨b, o, none⟩) n c) (.int k i) = some (.pointer (some ⟨b, o + i.toNat * sz, none⟩)) := by
  simp only [aIndexAddr, ht, hz, Option.bind_some]
  rw [if_pos hi]
def Shape (N0 bl bp : Nat) (h : Heap) (v : Value) : Prop := ∃ a m c, v = .slice a m c ∧ m < 4611686018427387904 ∧
  (m = 0 ∨ ∃ b o e cs, a = some ⟨b, o, none⟩ ∧ N0 ≤ b ∧ b ≠ bl ∧ b ≠ bp ∧ h[b]? = some ⟨.cells e cs, true⟩ ∧ o + m * 2 ≤ cs.length)
theorem Shape.set {N0 bl bp : Nat} {h h' : Heap} {v : Value} {b : Nat} {e e' : TypeId} {cs cs' : List Value} (hs : Shape N0 bl bp h v) (hb : h[b]? = some ⟨.cells e cs, true⟩) (k : Keep [b] h h') (g : h'[b]? = some ⟨.cells e' cs', true⟩) (hl : cs'.length = cs.length) : Shape N0 bl bp h' v := by
  obtain ⟨a, m, c, rfl, h1, h2⟩ := hs
  refine ⟨a, m, c, rfl, h1, ?_⟩
  rcases h2 with h2 | ⟨b2, o, e2, cs2, q1, q2, q3, q4, q5, q6⟩
  · exact .inl h2
  · by_cases hbb : b2 = b
    · subst hbb
      rw [hb] at q5
      simp only [Option.some.injEq, Blk.mk.injEq, Body.cells.injEq] at q5
      obtain ⟨⟨rfl, rfl⟩, _⟩ := q5
      exact .inr ⟨b2, o, _, _, q1, q2, q3, q4, g, by omega⟩
    · exact .inr ⟨b2, o, e2, cs2, q1, q2, q3, q4, k.get q5 (by simpa using hbb), q6⟩
structure SP (N0 : Nat) (hA h : Heap) (bl bp n i : Nat) (cs : List Value) : Prop where
  low : ∀ b, b < N0 → h[b]? = hA[b]?
  len : h.length = hA.length
  l : ∃ e, h[bl]? = some ⟨.cells e cs, true⟩
  ll : n * 4 ≤ cs.length
  sh : ∀ j, i ≤ j → j < n → ∃ v, cs[j * 4 + 3]? = some v ∧ Shape N0 bl bp h v
  p : ∃ e ps, h[bp]? = some ⟨.cells e ps, true⟩ ∧ n ≤ ps.length
  ne : bl ≠ bp
  nl : N0 ≤ bl
  np : N0 ≤ bp
section
variable {N0 : Nat} {hA h : Heap} {bl bp n i : Nat} {cs : List Value} {cl cp : Nat} {v5 v12 v13 : Value} {Q : Ret → Heap → Prop}
theorem spoil14 (hn : n < 1152921504606846976) (hi : i < n) {a : Option Addr} {m c : Nat} (hv : cs[i * 4 + 3]? = some (.slice a m c))
    (hq : ∀ h, SP N0 hA h bl bp n i cs → WP (J_trammellaw12_OpsReads_17 (callW E) h v5 v12 v13 (.slice (some ⟨bl, 0, none⟩) n cl) (.slice (some ⟨bp, 0, none⟩) n cp) (.int .i64 i)) Q) :
    ∀ (r k : Nat) (h : Heap), m - k = r → k ≤ m → SP N0 hA h bl bp n i cs → WP (L_trammellaw12_OpsReads_14 (callW E) h v5 v12 v13 (.slice (some ⟨bl, 0, none⟩) n cl) (.slice (some ⟨bp, 0, none⟩) n cp) (.int .i64 i) (.int .i64 k)) Q := by
  intro r
  have step : ∀ (h : Heap), SP N0 hA h bl bp n i cs → m < 4611686018427387904 ∧ (m = 0 ∨ ∃ b o e cs2, a = some ⟨b, o, none⟩ ∧ N0 ≤ b ∧ b ≠ bl ∧ b ≠ bp ∧ h[b]? = some ⟨.cells e cs2, true⟩ ∧ o + m * 2 ≤ cs2.length) := by
    intro h d
    obtain ⟨v, h1, h2⟩ := d.sh i (Nat.le_refl _) hi
    rw [hv] at h1
    simp only [Option.some.injEq] at h1
    subst h1
    obtain ⟨a', m', c', h3, h4, h5⟩ := h2
    simp only [Value.slice.injEq] at h3
    obtain ⟨rfl, rfl, rfl⟩ := h3
    exact ⟨h4, h5⟩
  induction r with
  | zero =>
    intro k h hr hk d
    obtain rfl : k = m := by omega
    obtain ⟨s1, _⟩ := step h d
    obtain ⟨e, hl⟩ := d.l
    apply L_trammellaw12_OpsReads_14_wp
    unfold L_trammellaw12_OpsReads_14_b
    refine wp_obnd (idx_sl slc_T_Sapi_Instr siz_T_api_Instr ⟨by omega, by omega⟩) ?_
    refine wp_obnd fa_T_api_Instr_3 ?_
    refine wp_obnd (show aLoad Try.prog T_Sapi_Arm h (.pointer (some ⟨bl, 0 + (i : Int).toNat * 4 + 3, none⟩)) = some (.slice a k c) by rw [ld1 hl agg_T_Sapi_Arm, Int.toNat_natCast, Nat.zero_add]; exact hv) ?_
    refine wp_obnd (len_slc slc_T_Sapi_Arm) ?_
    exact wp_ltt (fun hc => absurd hc (by omega)) fun _ => hq h d
  | succ r ih =>
    intro k h hr hk d
    obtain ⟨s1, s2⟩ := step h d
    obtain ⟨e, hl⟩ := d.l
    rcases s2 with s2 | ⟨b, o, e2, cs2, rfl, q2, q3, q4, q5, q6⟩
    · omega
    apply L_trammellaw12_OpsReads_14_wp
    unfold L_trammellaw12_OpsReads_14_b
    have hld : aLoad Try.prog T_Sapi_Arm h (.pointer (some ⟨bl, 0 + (i : Int).toNat * 4 + 3, none⟩)) = some (.slice (some ⟨b, o, none⟩) m c) := by rw [ld1 hl agg_T_Sapi_Arm, Int.toNat_natCast, Nat.zero_add]; exact hv
    refine wp_obnd (idx_sl slc_T_Sapi_Instr siz_T_api_Instr ⟨by omega, by omega⟩) ?_
    refine wp_obnd fa_T_api_Instr_3 ?_
    refine wp_obnd hld ?_
    refine wp_obnd (len_slc slc_T_Sapi_Arm) ?_
    refine wp_ltt (fun _ => ?_) fun hc => absurd hc (by omega)
    refine wp_obnd (idx_sl slc_T_Sapi_Instr siz_T_api_Instr ⟨by omega, by omega⟩) ?_
    refine wp_obnd fa_T_api_Instr_3 ?_
    refine wp_obnd hld ?_
    refine wp_obnd (a := .agg ⟨[.int .i64 (-9), .int .i64 0]⟩) (by kernel_rfl) ?_
    refine wp_obnd (idx_sl slc_T_Sapi_Arm siz_T_api_Arm ⟨by omega, by omega⟩) ?_
    refine wp_stG (l := [.int .i64 (-9), .int .i64 0]) q5 siz_T_api_Arm (by simp; omega) fun h1 k1 g1 l1 => ?_
    refine wp_obnd bin_add ?_
    rw [wrap_succ (show k < 9223372036854775807 by omega)]
    have hlen : ((cs2.take (o + (k : Int).toNat * 2) ++ [Value.int .i64 (-9), .int .i64 0] ++ cs2.drop (o + (k : Int).toNat * 2 + 2))).length = cs2.length := by
      simp; omega
    refine ih (k + 1) h1 (by omega) (by omega) ?_
    exact { d with
      low := fun x hx => by rw [k1.at_ x (by have := get_lt q5; omega) (by simp; omega)]; exact d.low x hx
      len := by rw [l1]; exact d.len
      l := ⟨e, k1.get hl (by simp; omega)⟩
      sh := fun j h1 h2 => by obtain ⟨v, w1, w2⟩ := d.sh j h1 h2; exact ⟨v, w1, w2.set q5 k1 g1 hlen⟩
      p := by obtain ⟨e, ps, w1, w2⟩ := d.p; exact ⟨e, ps, k1.get w1 (by simp; omega), w2⟩ }
theorem spoil11 (hn : n < 1152921504606846976) (hq : ∀ h, (∀ b, b < N0 → h[b]? = hA[b]?) → h.length = hA.length → WP (J_trammellaw12_OpsReads_19 (callW E) h v5 v12 v13) Q) :
    ∀ (r i : Nat) (h : Heap) (cs : List Value), n - i = r → i ≤ n → SP N0 hA h bl bp n i cs → WP (L_trammellaw12_OpsReads_11 (callW E) h v5 v12 v13 (.slice (some ⟨bl, 0, none⟩) n cl) (.slice (some ⟨bp, 0, none⟩) n cp) (.int .i64 i)) Q := by
  intro r
  induction r with
  | zero =>
    intro i h cs hr hi d
    obtain rfl : i = n := by omega
    apply L_trammellaw12_OpsReads_11_wp
    unfold L_trammellaw12_OpsReads_11_b
    refine wp_obnd (len_slc slc_T_Sapi_Instr) ?_
    exact wp_ltt (fun hc => absurd hc (by omega)) fun _ => hq h d.low d.len
  | succ r ih =>
    intro i h cs hr hi d
    have hi' : i < n := by omega
    have hr' : n - (i + 1) = r := by omega
    apply L_trammellaw12_OpsReads_11_wp
    unfold L_trammellaw12_OpsReads_11_b
    refine wp_obnd (len_slc slc_T_Sapi_Instr) ?_
    refine wp_ltt (fun _ => ?_) fun hc => absurd hc (by omega)
    obtain ⟨v, hv, a, m, c, rfl, _, _⟩ := d.sh i (Nat.le_refl _) hi'
    refine spoil14 hn hi' hv (fun h1 d1 => ?_) _ 0 h rfl (Nat.zero_le _) d
    obtain ⟨e, hl⟩ := d1.l
    obtain ⟨e2, ps, hp, hpl⟩ := d1.p
    have hll := d1.ll
    apply J_trammellaw12_OpsReads_17_wp
    unfold J_trammellaw12_OpsReads_17_b
    refine wp_obnd (a := .agg ⟨[.int .u8 99, .int .i64 0, .int .i64 0, .slice none 0 0]⟩) (by kernel_rfl) ?_
    refine wp_obnd (idx_sl slc_T_Sapi_Instr siz_T_api_Instr ⟨by omega, by omega⟩) ?_
    refine wp_stG (l := [.int .u8 99, .int .i64 0, .int .i64 0, .slice none 0 0]) hl siz_T_api_Instr (by simp; omega) fun h2 k2 g2 l2 => ?_
    refine wp_obnd (idx_sl slc_T_Sint siz_T_int ⟨by omega, by omega⟩) ?_
    have ne := d1.ne
    have hp2 := k2.get hp (by simp; omega)
    refine wp_st1 hp2 siz_T_int (by simp; omega) rfl fun h3 k3 g3 l3 => ?_
    apply J_trammellaw12_OpsReads_12_wp
    unfold J_trammellaw12_OpsReads_12_b
    refine wp_obnd bin_add ?_
    rw [wrap_succ (show i < 9223372036854775807 by omega)]
    have ltl := get_lt hl
    have ltp := get_lt hp
    have nl := d1.nl
    have np := d1.np
    refine ih (i + 1) h3 (cs.take (0 + (i : Int).toNat * 4) ++ [Value.int .u8 99, .int .i64 0, .int .i64 0, .slice none 0 0] ++ cs.drop (0 + (i : Int).toNat * 4 + 4)) hr' hi' ?_
    have hcl : (cs.take (0 + (i : Int).toNat * 4) ++ [Value.int .u8 99, .int .i64 0, .int .i64 0, .slice none 0 0] ++ cs.drop (0 + (i : Int).toNat * 4 + 4)).length = cs.length := by simp; omega
    refine { low := fun x hx => ?_, len := by rw [l3, l2]; exact d1.len, l := ⟨e, k3.get g2 (by simp; omega)⟩, ll := by rw [hcl]; exact hll, sh := fun j hj1 hj2 => ?_, p := ⟨e2, _, g3, by simpa using hpl⟩, ne := ne, nl := nl, np := np }
    · rw [k3.at_ x (by omega) (by simp; omega), k2.at_ x (by omega) (by simp; omega)]
      exact d1.low x hx
    · obtain ⟨v, w1, w2⟩ := d1.sh j (by omega) hj2
      refine ⟨v, ?_, (w2.set hl k2 g2 hcl).set hp2 k3 g3 (by simp)⟩
      rw [List.getElem?_append_right (by simp; omega), List.getElem?_drop]
      rw [← w1]
      congr 1
      simp
      omega
end
end Go.Proofs.Ytmdffenlehcekaa
