/- An abstract machine that the model follows; its rules. -/
import Derived.Test.YtmdffenlehcekaaKa1
import Derived.Calls
import Derived.LoopN
import Derived.Scope
import Derived.Laws.World
import Derived.Laws.Sem
import Derived.Below
import Derived.KernelRfl
import Derived.Laws.Slices
import Derived.Orders
import Derived.Laws.StructEq
import Derived.ChangeArms
import Derived.DataReads
import Derived.SizedLaws
set_option linter.unusedVariables false
set_option linter.unusedSimpArgs false
namespace Go.Am
open Go

def SameOn (tm tm' : List Value) (xs : Array Operand) : Prop := ∀ t, Operand.tmp t ∈ xs → tm'[t]? = tm[t]?
theorem ev_same {tm tm' : List Value} {x : Operand} {xs : Array Operand} (h : SameOn tm tm' xs) (hx : x ∈ xs) : ev tm' x = ev tm x := by
  cases x with
  | tmp t => exact h t hx
  | _ => rfl
theorem evs_same {tm tm' : List Value} {xs : Array Operand} (h : SameOn tm tm' xs) : ∀ {l : List Operand}, (∀ x, x ∈ l → x ∈ xs) → evs tm' l = evs tm l
  | [], _ => rfl
  | x :: l, hl => by
    simp only [evs, ev_same h (hl x List.mem_cons_self), evs_same h fun y hy => hl y (List.mem_cons_of_mem _ hy)]
theorem evp_same {tm tm' : List Value} {xs : Array Operand} (h : SameOn tm tm' xs) : ∀ {l : List (Nat × Operand)}, (∀ x, x ∈ l → x.2 ∈ xs) → evp tm' l = evp tm l
  | [], _ => rfl
  | (i, x) :: l, hl => by
    simp only [evp, ev_same h (hl (i, x) List.mem_cons_self), evp_same h fun y hy => hl y (List.mem_cons_of_mem _ hy)]
theorem evo_same {tm tm' : List Value} {xs : Array Operand} (h : SameOn tm tm' xs) {x : Option Operand} (hx : ∀ y, x = some y → y ∈ xs) : evo tm' x = evo tm x := by
  cases x with
  | none => rfl
  | some y => simp only [evo, ev_same h (hx y rfl)]

theorem args_mem {c : Call} {x : Operand} (h : x ∈ c.args.toList) : x ∈ c.operands := by
  simp only [Call.operands, Array.mem_append]
  exact .inr (by simpa using h)
theorem opP_same {P : Program} {tm tm' : List Value} {op : Op} (h : SameOn tm tm' op.operands) : opP P tm' op = opP P tm op := by
  cases op <;> simp only [Op.operands] at h <;> try simp only [opP]
  case call c =>
    have e : ∀ x, x ∈ c.args.toList → ev tm' x = ev tm x := fun x hx => ev_same h (args_mem hx)
    generalize c.args.toList = args at e
    generalize c.argTypes.toList = ts
    split
    · simp only [e _ List.mem_cons_self]
    · rfl
  case build t ps => rw [evp_same h (fun x hx => by simpa using ⟨x.1, by simpa using hx⟩)]
  case slice t x lo hi mx =>
    rw [ev_same h (by simp), evo_same h (by intro y hy; simp [hy]), evo_same h (by intro y hy; simp [hy]), evo_same h (by intro y hy; simp [hy])]
  case makeFunc fn a b =>
    cases fn <;> simp only [opP]
    rw [evs_same h (fun x hx => by simp at hx; simp [hx]), evs_same h (fun x hx => by simp at hx; simp [hx])]
  all_goals first | rfl | (simp [ev_same h]; done)
theorem opL_same {P : Program} {tm tm' : List Value} {m : Heap} {op : Op} (h : SameOn tm tm' op.operands) : opL P tm' m op = opL P tm m op := by
  cases op <;> simp only [Op.operands] at h <;> try simp only [opL]
  case call c =>
    have e : ∀ x, x ∈ c.args.toList → ev tm' x = ev tm x := fun x hx => ev_same h (args_mem hx)
    generalize c.args.toList = args at e
    generalize c.argTypes.toList = ts
    split
    · simp only [e _ List.mem_cons_self]
    · rfl
  all_goals first | rfl | (simp [ev_same h]; done)
theorem readId_same {tm tm' : List Value} {op : Op} (h : SameOn tm tm' op.operands) : readId tm' op = readId tm op := by
  cases op <;> simp only [Op.operands] at h <;> try simp only [readId]
  case call c =>
    have e : ∀ x, x ∈ c.args.toList → ev tm' x = ev tm x := fun x hx => ev_same h (args_mem hx)
    generalize c.args.toList = args at e
    rcases args with _ | ⟨x, _ | ⟨y, l⟩⟩ <;> try simp only
    rw [e x List.mem_cons_self]
  all_goals first | rfl | (simp [ev_same h]; done)
theorem opA_same {P : Program} {tm tm' : List Value} {op : Op} (h : SameOn tm tm' op.operands) : opA P tm' op = opA P tm op := by
  cases op <;> simp only [Op.operands] at h <;> try simp only [opA]
  case buildSlice t n ps => rw [evp_same h (fun x hx => by simpa using ⟨x.1, by simpa using hx⟩)]
  case makeMap t r => cases r <;> simp only [opA]
  all_goals first | rfl | (simp [ev_same h]; done)
theorem opX_same {P : Program} {tm tm' : List Value} {m : Heap} {op : Op} (h : SameOn tm tm' op.operands) : opX P tm' m op = opX P tm m op := by
  cases op <;> simp only [Op.operands] at h <;> try simp only [opX]
  case call c =>
    have e : ∀ x, x ∈ c.args.toList → ev tm' x = ev tm x := fun x hx => ev_same h (args_mem hx)
    generalize c.args.toList = args at e
    generalize c.argTypes.toList = ts
    generalize c.callee = cl
    split
    · simp only [e _ List.mem_cons_self, e _ (List.mem_cons_of_mem _ List.mem_cons_self)]
    · simp only [e _ List.mem_cons_self]
    · simp only [e _ List.mem_cons_self]
    · rfl
  all_goals first | rfl | (simp [ev_same h]; done)
theorem opC_same {tm tm' : List Value} {op : Op} (h : SameOn tm tm' op.operands) : opC tm' op = opC tm op := by
  cases op <;> simp only [Op.operands] at h <;> try simp only [opC]
  case call c =>
    have e := evs_same (l := c.args.toList) h (fun x hx => args_mem hx)
    rw [e]
    split
    · rename_i fo hc
      rw [ev_same (x := fo) h (by simp [Call.operands, hc])]
    · rfl
end Go.Am

namespace Go.Am
open Go
variable {P : Program}

theorem set_at {h : Heap} {b c : Nat} {X : Blk} (hc : c ≠ b) : (h.set c X)[b]? = h[b]? := List.getElem?_set_ne hc
theorem lt_dead {h : Heap} {b : Nat} {X : Blk} (hb : h[b]? = some X) : b < h.length := (List.getElem?_eq_some_iff.1 hb).1
theorem at_push {h : Heap} {b : Nat} {X Y : Blk} (hb : h[b]? = some X) : (h ++ [Y])[b]? = some X := by rw [List.getElem?_append_left (lt_dead hb)]; exact hb
theorem set_push {h : Heap} {b : Nat} {X Y : Blk} (hb : b < h.length) : (h ++ [Y]).set b X = h.set b X ++ [Y] := by
  rw [List.set_append, if_pos hb]
theorem other_block {h : Heap} {b c : Nat} {X : Blk} (hb : h[b]? = some deadBlk) (hc : h[c]? = some X) (hl : X.live = true) : c ≠ b := fun e => by
  subst e; rw [hb] at hc; cases hc; simp [Blk.live, deadBlk] at hl
theorem opL_frame {tm : List Value} {op : Op} {h : Heap} {b : Nat} {v : Value} (hb : h[b]? = some deadBlk) (hv : opL P tm h op = some v) (X : Blk) : opL P tm (h.set b X) op = some v := by
  cases hr : readId tm op with
  | none => exact opL_none hr hv _
  | some c =>
    have := opL_live hr hv
    have hne : b ≠ c := fun e => this (e ▸ hb)
    rw [opL_block hr (set_at hne)]
    exact hv

theorem aStore_frame {t : TypeId} {x v : Value} {h h' : Heap} {b : Nat} (hb : h[b]? = some deadBlk) (hs : aStore P t x v h = some h') : h'[b]? = some deadBlk ∧ ∀ X, aStore P t x v (h.set b X) = some (h'.set b X) := by
  unfold aStore at hs ⊢
  split at hs
  · rename_i c o
    split at hs
    · rename_i e cs hc
      have hne := other_block hb hc rfl
      have hc' : ∀ X, (h.set b X)[c]? = some ⟨.cells e cs, true⟩ := fun X => by rw [set_at (Ne.symm hne)]; exact hc
      split at hs
      · split at hs
        · rename_i hif
          simp only [Option.some.injEq] at hs
          subst hs
          refine ⟨by rw [set_at hne]; exact hb, fun X => ?_⟩
          simp only [hc' X]
          rw [if_pos hif, List.set_comm _ _ hne]
        · simp at hs
      · simp at hs
      · rename_i hn1 hn2
        split at hs
        · rename_i hif
          simp only [Option.some.injEq] at hs
          subst hs
          refine ⟨by rw [set_at hne]; exact hb, fun X => ?_⟩
          simp only [hc' X]
          rw [if_pos hif, List.set_comm _ _ hne]
        · simp at hs
    · simp at hs
  · simp at hs
theorem aMapUpd_frame {t : TypeId} {m k v : Value} {h h' : Heap} {b : Nat} (hb : h[b]? = some deadBlk) (hs : aMapUpd P t m k v h = some h') : h'[b]? = some deadBlk ∧ ∀ X, aMapUpd P t m k v (h.set b X) = some (h'.set b X) := by
  unfold aMapUpd at hs ⊢
  split at hs
  · rename_i kt et r hu
    split at hs
    · rename_i es hc
      have hne := other_block hb hc rfl
      have hc' : ∀ X, (h.set b X)[r]? = some ⟨.map es, true⟩ := fun X => by rw [set_at (Ne.symm hne)]; exact hc
      simp only [Option.bind_eq_some_iff] at hs
      obtain ⟨d, hd, hs⟩ := hs
      cases hk : simpleKey d k with
      | false => rw [hk] at hs; simp at hs
      | true =>
        rw [hk] at hs
        simp only [cond_true, Option.map_eq_some_iff] at hs
        obtain ⟨w, hw, hs⟩ := hs
        subst hs
        refine ⟨?_, fun X => ?_⟩
        · cases w <;> simp only <;> rw [set_at hne] <;> exact hb
        · simp only [hc' X, hd, Option.bind_some, hk, cond_true, hw, Option.map_some]
          cases w <;> simp only <;> rw [List.set_comm _ _ hne]
    · simp at hs
  · simp at hs
theorem aClear_frame {x : Value} {h h' : Heap} {b : Nat} (hb : h[b]? = some deadBlk) (hs : aClear h x = some h') : h'[b]? = some deadBlk ∧ ∀ X, aClear (h.set b X) x = some (h'.set b X) := by
  unfold aClear at hs ⊢
  split at hs
  · rename_i r
    split at hs
    · rename_i es hc
      have hne := other_block hb hc rfl
      have hc' : ∀ X, (h.set b X)[r]? = some ⟨.map es, true⟩ := fun X => by rw [set_at (Ne.symm hne)]; exact hc
      simp only [Option.some.injEq] at hs
      subst hs
      refine ⟨by rw [set_at hne]; exact hb, fun X => ?_⟩
      simp only [hc' X]
      rw [List.set_comm _ _ hne]
    · simp at hs
  · simp at hs
theorem srcCells_frame {sz : Nat} {x : Value} {h : Heap} {b : Nat} {r : List Value × Nat} (hb : h[b]? = some deadBlk) (hs : srcCells sz h x = some r) (X : Blk) : srcCells sz (h.set b X) x = some r := by
  unfold srcCells at hs ⊢
  split at hs
  · exact hs
  · rename_i c o n cc
    split at hs
    · rename_i e cs own hc
      have hne := other_block hb hc rfl
      rw [set_at (Ne.symm hne), hc]
      exact hs
    · simp at hs
  · exact hs
  · simp at hs
theorem aApp_frame {e : TypeId} {sz by_ : Nat} {a : Option Addr} {n c : Nat} {new : List Value} {m : Nat} {h h' : Heap} {v : Value} {b : Nat} (hb : h[b]? = some deadBlk) (hs : aApp e sz by_ a n c new m h = some (v, h')) :
    h'[b]? = some deadBlk ∧ ∀ X, aApp e sz by_ a n c new m (h.set b X) = some (v, h'.set b X) := by
  have hlt := lt_dead hb
  unfold aApp at hs ⊢
  split at hs
  · rename_i hm
    simp only [Option.some.injEq, Prod.mk.injEq] at hs
    obtain ⟨rfl, rfl⟩ := hs
    exact ⟨hb, fun X => by rw [if_pos hm]⟩
  · rename_i hm
    split at hs
    · rename_i hsz
      cases a with
      | none =>
        simp only at hs
        split at hs
        · rename_i hn
          simp only [Option.some.injEq, Prod.mk.injEq] at hs
          obtain ⟨rfl, rfl⟩ := hs
          refine ⟨at_push hb, fun X => ?_⟩
          rw [if_neg hm, if_pos hsz]
          simp only
          rw [if_pos hn, List.length_set, set_push hlt]
        · simp at hs
      | some a =>
        obtain ⟨c0, o, sp⟩ := a
        cases sp with
        | some q => simp at hs
        | none =>
          simp only at hs
          split at hs
          · rename_i e' cs own hc
            have hne := other_block hb hc rfl
            have hc' : ∀ X, (h.set b X)[c0]? = some ⟨.cells e' cs, own⟩ := fun X => by rw [set_at (Ne.symm hne)]; exact hc
            split at hs
            · rename_i hfit
              split at hs
              · rename_i hq
                simp only [Option.some.injEq, Prod.mk.injEq] at hs
                obtain ⟨rfl, rfl⟩ := hs
                refine ⟨by rw [set_at hne]; exact hb, fun X => ?_⟩
                rw [if_neg hm, if_pos hsz]
                simp only [hc' X]
                rw [if_pos hfit, if_pos hq, List.set_comm _ _ hne]
              · simp at hs
            · rename_i hfit
              split at hs
              · rename_i hcap
                split at hs
                · rename_i hq
                  simp only [Option.some.injEq, Prod.mk.injEq] at hs
                  obtain ⟨rfl, rfl⟩ := hs
                  refine ⟨at_push (by rw [set_at hne]; exact hb), fun X => ?_⟩
                  rw [if_neg hm, if_pos hsz]
                  simp only [hc' X]
                  rw [if_neg hfit, if_pos hcap, if_pos hq, List.set_comm _ _ hne.symm, set_push (by simpa using hlt), List.length_set]
                · simp at hs
              · rename_i hcap
                split at hs
                · rename_i hq
                  simp only [Option.some.injEq, Prod.mk.injEq] at hs
                  obtain ⟨rfl, rfl⟩ := hs
                  refine ⟨at_push hb, fun X => ?_⟩
                  rw [if_neg hm, if_pos hsz]
                  simp only [hc' X]
                  rw [if_neg hfit, if_neg hcap, if_pos hq, set_push hlt, List.length_set]
                · simp at hs
          · simp at hs
    · simp at hs
theorem aAppend_frame {t0 t1 : TypeId} {s x v : Value} {h h' : Heap} {b : Nat} (hb : h[b]? = some deadBlk) (hs : aAppend P t0 t1 s x h = some (v, h')) :
    h'[b]? = some deadBlk ∧ ∀ X, aAppend P t0 t1 s x (h.set b X) = some (v, h'.set b X) := by
  unfold aAppend at hs ⊢
  cases s <;> simp only [reduceCtorEq] at hs ⊢
  simp only [Option.bind_eq_some_iff] at hs
  obtain ⟨e, he, i, hi, hs⟩ := hs
  cases hq : (notIntT P t1 && decide (0 < i.size) && zeroFits P e i.size) with
  | false => rw [hq] at hs; simp at hs
  | true =>
    rw [hq] at hs
    simp only [cond_true, Option.bind_eq_some_iff] at hs
    obtain ⟨r, hr, hs⟩ := hs
    obtain ⟨h1, h2⟩ := aApp_frame hb hs
    refine ⟨h1, fun X => ?_⟩
    simp only [he, hi, Option.bind_some, hq, cond_true, srcCells_frame hb hr X]
    exact h2 X
theorem opX_frame {tm : List Value} {op : Op} {h h' : Heap} {b : Nat} {x : XR} (hb : h[b]? = some deadBlk) (hs : opX P tm h op = some (x, h')) : h'[b]? = some deadBlk ∧ ∀ X, opX P tm (h.set b X) op = some (x, h'.set b X) := by
  have upd : ∀ t m k v, ((ev tm m).bind fun m => (ev tm k).bind fun k => (ev tm v).bind fun v => (aMapUpd P t m k v h).map fun h => (XR.skip, h)) = some (x, h') →
      h'[b]? = some deadBlk ∧ ∀ X, ((ev tm m).bind fun m => (ev tm k).bind fun k => (ev tm v).bind fun v => (aMapUpd P t m k v (h.set b X)).map fun h => (XR.skip, h)) = some (x, h'.set b X) := by
    intro t m k v hq
    simp only [Option.bind_eq_some_iff, Option.map_eq_some_iff, Prod.mk.injEq] at hq
    obtain ⟨mv, hm, kv, hk, vv, hv, h1, hq, rfl, rfl⟩ := hq
    obtain ⟨f1, f2⟩ := aMapUpd_frame hb hq
    exact ⟨f1, fun X => by simp only [hm, hk, hv, Option.bind_some, f2 X, Option.map_some]⟩
  cases op <;> simp only [opX, reduceCtorEq] at hs ⊢
  case store t a v =>
    simp only [Option.bind_eq_some_iff, Option.map_eq_some_iff, Prod.mk.injEq] at hs
    obtain ⟨av, ha, vv, hv, h1, hs, rfl, rfl⟩ := hs
    obtain ⟨f1, f2⟩ := aStore_frame hb hs
    exact ⟨f1, fun X => by simp only [ha, hv, Option.bind_some, f2 X, Option.map_some]⟩
  case panic x =>
    simp only [Option.bind_eq_some_iff] at hs
    obtain ⟨xv, h2, hs⟩ := hs
    cases xv <;> simp only [Option.some.injEq, reduceCtorEq, Prod.mk.injEq] at hs
    obtain ⟨rfl, rfl⟩ := hs
    exact ⟨hb, fun X => by simp only [h2, Option.bind_some]⟩
  case mapUpdate t m k v => exact upd t m k v hs
  case insert t m k v => exact upd t m k v hs
  case call c =>
    generalize c.args.toList = args at hs ⊢
    generalize c.argTypes.toList = ts at hs ⊢
    generalize c.callee = cl at hs ⊢
    split at hs
    · simp only [Option.bind_eq_some_iff, Option.map_eq_some_iff, Prod.mk.injEq] at hs
      obtain ⟨sv, h1, xv, h2, r, h3, rfl, rfl⟩ := hs
      obtain ⟨f1, f2⟩ := aAppend_frame hb h3
      exact ⟨f1, fun X => by simp only [h1, h2, Option.bind_some, f2 X, Option.map_some]⟩
    · simp only [Option.bind_eq_some_iff, Option.map_eq_some_iff, Prod.mk.injEq] at hs
      obtain ⟨xv, h2, r, h3, rfl, rfl⟩ := hs
      obtain ⟨f1, f2⟩ := aClear_frame hb h3
      exact ⟨f1, fun X => by simp only [h2, Option.bind_some, f2 X, Option.map_some]⟩
    · simp only [Option.bind_eq_some_iff] at hs
      obtain ⟨xv, h2, hs⟩ := hs
      cases xv <;> simp only [Option.some.injEq, reduceCtorEq, Prod.mk.injEq] at hs
      obtain ⟨rfl, rfl⟩ := hs
      exact ⟨hb, fun X => by simp only [h2, Option.bind_some]⟩
    · simp at hs

/-- What a dead block holds changes nothing of a call. -/
def CallFr (call : CallF) : Prop := ∀ g xs h r h' b, call g xs h = some (r, h') → h[b]? = some deadBlk → h'[b]? = some deadBlk ∧ ∀ X, call g xs (h.set b X) = some (r, h'.set b X)
theorem Acts.frame {call : CallF} (hf : CallFr call) {o : Oper} {tm : List Value} {h h' : Heap} {fl : Option Value} {v : Value} {b : Nat} (ha : Acts P call o tm h fl v h') (hb : h[b]? = some deadBlk) :
    h'[b]? = some deadBlk ∧ ∀ X, Acts P call o tm (h.set b X) fl v (h'.set b X) := by
  cases ha with
  | val hc hx => exact ⟨(opX_frame hb hx).1, fun X => .val hc ((opX_frame hb hx).2 X)⟩
  | skip hc hx => exact ⟨(opX_frame hb hx).1, fun X => .skip hc ((opX_frame hb hx).2 X)⟩
  | pan hc hx => exact ⟨(opX_frame hb hx).1, fun X => .pan hc ((opX_frame hb hx).2 X)⟩
  | ret hc hx hr => exact ⟨(hf _ _ _ _ _ _ hr hb).1, fun X => .ret hc hx ((hf _ _ _ _ _ _ hr hb).2 X)⟩
  | thrown hc hx hr => exact ⟨(hf _ _ _ _ _ _ hr hb).1, fun X => .thrown hc hx ((hf _ _ _ _ _ _ hr hb).2 X)⟩
end Go.Am

namespace Go.Am
open Go
section
variable {P : Program} {call : CallF} {ops : List Oper} {T : List (List Nat)} {base : Nat} {K : Kt} {r : Ret × Heap}

theorem dstAt_of {i : Nat} {o : Oper} (h : ops[i]? = some o) : dstAt ops i = o.dst := by simp [dstAt, h]
theorem nextRest_none {i : Nat} {l : List Nat} : nextRest T i none l = l := rfl

theorem RD.of_run : ∀ (n : Nat) (L : List Nat) (pend : Option Value) (H : DH) (s : St), runD P call ops T base K n L pend H s = some r → RD P call ops T base K r L pend (histOf H) s.tm s.h
  | 0, L, pend, H, s, h => by simp [runD] at h
  | n + 1, [], none, H, s, h => .done (by simpa [runD] using h)
  | n + 1, [], some v, H, s, h => .donep (by simpa [runD] using h)
  | n + 1, i :: rest, pend, H, s, h => by
    simp only [runD] at h
    split at h
    · simp at h
    · rename_i o ho
      have hd := dstAt_of ho
      rcases guarded_inv h with ⟨hg, h⟩ | ⟨hg, h⟩
      · have acts : loud (cls P o.op) = true → doOp P call none o s (fun s' => chkActs (readsOf T i H) s'.h (runD P call ops T base K n rest pend { H with xs := (i, s.h) :: H.xs } s'))
            (fun e s' => match e with
              | .pan v => chkActs (readsOf T i H) s'.h (runD P call ops T base K n (rest.filter fun j => !isAnc T i j) (some v) { H with xs := (i, s.h) :: H.xs } s')
              | _ => none) = some r → RD P call ops T base K r (i :: rest) pend (histOf H) s.tm s.h := fun hl h => by
          obtain ⟨fl, v, h', ha, hk⟩ := doOp_acts hl h
          cases fl with
          | none =>
            simp only at hk
            obtain ⟨hc, hr⟩ := chkActs_inv hk
            exact RD.step (.act ho hg ha (mem_readsOf.1 hc)) (by rw [hd]; exact RD.of_run n rest pend _ _ hr)
          | some u =>
            simp only at hk
            obtain ⟨hc, hr⟩ := chkActs_inv hk
            exact RD.step (.act ho hg ha (mem_readsOf.1 hc)) (RD.of_run n _ _ _ _ hr)
        cases hc : cls P o.op with
        | P =>
          rw [hc] at h
          simp only [doOp, hc, Option.bind_eq_some_iff] at h
          obtain ⟨v, hv, h⟩ := h
          exact RD.step (.quiet (.pure ho hg hc hv)) (by rw [hd]; exact RD.of_run n rest pend H _ h)
        | L =>
          rw [hc] at h
          simp only at h
          obtain ⟨h, hck⟩ := chkRd_inv h
          simp only [doOp, hc, Option.bind_eq_some_iff] at h
          obtain ⟨v, hv, h⟩ := h
          have ih := RD.of_run n rest pend _ _ h
          cases hb : readId s.tm o.op with
          | some b =>
            rw [hb] at ih
            exact RD.step (.read ho hg hc hb hv (hck b hb).1 (mem_actsOf.1 (hck b hb).2)) (by rw [hd]; exact ih)
          | none =>
            rw [hb] at ih
            exact RD.step (.quiet (.look ho hg hc hb (opL_none hb hv))) (by rw [hd]; exact ih)
        | A =>
          rw [hc] at h
          simp only [doOp, hc, Option.bind_eq_some_iff] at h
          obtain ⟨m, hm, h⟩ := h
          exact RD.step (.make ho hg hc hm) (by rw [hd]; exact RD.of_run n rest pend _ _ h)
        | X => rw [hc] at h; exact acts (by rw [hc]; rfl) h
        | C => rw [hc] at h; exact acts (by rw [hc]; rfl) h
        | no => rw [hc] at h; simp at h
      · exact RD.step (.quiet (.skip ho hg)) (by rw [hd]; exact RD.of_run n rest pend H _ h)

theorem nextRest_len {i : Nat} {fl : Option Value} {l : List Nat} : (nextRest T i fl l).length ≤ l.length := by
  cases fl with
  | none => exact Nat.le_refl _
  | some v => exact List.length_filter_le _ _

theorem RD.to_run {L : List Nat} {pend : Option Value} {H0 : Hist} {tm : List Value} {h : Heap} (hr : RD P call ops T base K r L pend H0 tm h) : ∀ (n : Nat) (H : DH), H0 = histOf H → L.length < n → runD P call ops T base K n L pend H ⟨tm, h⟩ = some r := by
  induction hr with
  | done hk => intro n H hH hn; cases n with | zero => simp at hn | succ n => simpa [runD] using hk
  | donep hk => intro n H hH hn; cases n with | zero => simp at hn | succ n => simpa [runD] using hk
  | @step i rest pend fl H0 H' tm v h h' hs hr ih =>
    intro n H hH hn
    subst hH
    cases n with
    | zero => simp at hn
    | succ n =>
      have hn' : rest.length < n := by simpa using hn
      have ih := fun H hH => ih n H hH (Nat.lt_of_le_of_lt nextRest_len hn')
      cases hs with
      | quiet hq =>
        cases hq with
        | skip ho hg =>
          rw [dstAt_of ho] at ih
          simp only [runD, ho]
          exact guarded_of hg (fun hb => by simp at hb) (fun _ => ih H rfl)
        | pure ho hg hc hv =>
          rw [dstAt_of ho] at ih
          simp only [runD, ho]
          refine guarded_of hg (fun _ => ?_) (fun hb => by simp at hb)
          simp only [hc, doOp, hv, Option.bind_some]
          exact ih H rfl
        | look ho hg hc hrd hv =>
          rw [dstAt_of ho] at ih
          simp only [runD, ho]
          refine guarded_of hg (fun _ => ?_) (fun hb => by simp at hb)
          simp only [hc, hrd]
          refine chkRd_of ?_ (fun b hb => by simp at hb)
          simp only [doOp, hc, hv, Option.bind_some]
          exact ih _ rfl
      | make ho hg hc hm =>
        rw [dstAt_of ho] at ih
        simp only [runD, ho]
        refine guarded_of hg (fun _ => ?_) (fun hb => by simp at hb)
        simp only [hc, doOp, hm, Option.bind_some]
        exact ih H rfl
      | read ho hg hc hrd hv hb hk =>
        rw [dstAt_of ho] at ih
        simp only [runD, ho]
        refine guarded_of hg (fun _ => ?_) (fun hb => by simp at hb)
        simp only [hc, hrd]
        refine chkRd_of ?_ (fun c hc' => by cases hc'; exact ⟨hb, mem_actsOf.2 hk⟩)
        simp only [doOp, hc, hv, Option.bind_some]
        exact ih _ rfl
      | @act o fl v h' ho hg ha hk =>
        simp only [runD, ho]
        refine guarded_of hg (fun _ => ?_) (fun hb => by simp at hb)
        have hl := ha.loud
        have key : doOp P call none o ⟨tm, h⟩ (fun s' => chkActs (readsOf T i H) s'.h (runD P call ops T base K n rest pend { H with xs := (i, h) :: H.xs } s'))
            (fun e s' => match e with
              | .pan v => chkActs (readsOf T i H) s'.h (runD P call ops T base K n (rest.filter fun j => !isAnc T i j) (some v) { H with xs := (i, h) :: H.xs } s')
              | _ => none) = some r := by
          refine doOp_of_acts ha ?_
          cases fl with
          | none => rw [dstAt_of ho] at ih; exact chkActs_of (mem_readsOf.2 hk) (ih _ rfl)
          | some u => exact chkActs_of (mem_readsOf.2 hk) (ih _ rfl)
        cases hc : cls P o.op <;> rw [hc] at hl <;> simp only [loud, Bool.false_eq_true] at hl
        · exact key
        · exact key

/-- A memory of less reads and of the same acts. -/
structure HRel (H' H : Hist) : Prop where
  ls : ∀ x, x ∈ H'.ls → x ∈ H.ls
  xs : ∀ x : Nat × Heap, x ∈ H'.xs → ∃ y : Nat × Heap, y ∈ H.xs ∧ y.1 = x.1 ∧ ∀ b : Nat, x.2[b]? = y.2[b]? ∨ y.2[b]? = some deadBlk
theorem HRel.refl (H : Hist) : HRel H H := ⟨fun _ h => h, fun x h => ⟨x, h, rfl, fun _ => .inl rfl⟩⟩
theorem HStep.less {i : Nat} {tm : List Value} {H H' H1 : Hist} {h h1 : Heap} {fl : Option Value} {v : Value} (hs : HStep P call ops T base i tm H h fl v h1 H1) (hr : HRel H' H) :
    ∃ H1', HStep P call ops T base i tm H' h fl v h1 H1' ∧ HRel H1' H1 := by
  cases hs with
  | quiet hq => exact ⟨_, .quiet hq, hr⟩
  | make ho hg hc hm => exact ⟨_, .make ho hg hc hm, hr⟩
  | @read o v b ho hg hc hrd hv hb hk =>
    refine ⟨_, .read ho hg hc hrd hv hb ?_, ⟨fun x hx => ?_, hr.xs⟩⟩
    · intro x hx
      obtain ⟨y, hy, he, hxy⟩ := hr.xs x hx
      rcases hk y hy with ha | ha
      · exact .inl (he ▸ ha)
      · rcases hxy b with h2 | h2
        · exact .inr (h2.trans ha)
        · exact absurd (ha.symm.trans h2) (opL_live hrd hv)
    · rcases List.mem_cons.1 hx with rfl | hx
      · exact List.mem_cons_self
      · exact List.mem_cons_of_mem _ (hr.ls x hx)
  | act ho hg ha hk =>
    refine ⟨_, .act ho hg ha fun x hx => hk x (hr.ls x hx), ⟨hr.ls, fun x hx => ?_⟩⟩
    rcases List.mem_cons.1 hx with rfl | hx
    · exact ⟨_, List.mem_cons_self, rfl, fun _ => .inl rfl⟩
    · obtain ⟨y, hy, h2⟩ := hr.xs x hx
      exact ⟨y, List.mem_cons_of_mem _ hy, h2⟩
theorem RD.less {L : List Nat} {pend : Option Value} {H H' : Hist} {tm : List Value} {h : Heap} (hr : RD P call ops T base K r L pend H tm h) (hh : HRel H' H) : RD P call ops T base K r L pend H' tm h := by
  induction hr generalizing H' with
  | done hk => exact .done hk
  | donep hk => exact .donep hk
  | step hs hr ih =>
    obtain ⟨H1', h1, h2⟩ := hs.less hh
    exact .step h1 (ih h2)
end
end Go.Am

namespace Go.Am
open Go
section
variable {P : Program} {call : CallF} {ops : List Oper} {T : List (List Nat)} {base : Nat} {K : Kt} {r : Ret × Heap}

def SameAt (ops : List Oper) (i : Nat) (tm tm' : List Value) : Prop := ∀ o, ops[i]? = some o → ∀ t, t ∈ opndsOf ops o → tm'[t]? = tm[t]?
theorem SameAt.on {i : Nat} {tm tm' : List Value} (h : SameAt ops i tm tm') {o : Oper} (ho : ops[i]? = some o) : SameOn tm tm' o.op.operands := fun t ht =>
  h o ho t (List.mem_append_left _ (List.mem_filterMap.2 ⟨.tmp t, by simpa using ht, rfl⟩))
theorem GSt.same {i : Nat} {tm tm' : List Value} (h : SameAt ops i tm tm') {o : Oper} (ho : ops[i]? = some o) {b : Bool} (hg : GSt ops o tm b) : GSt ops o tm' b := by
  cases hg with
  | free h => exact .free h
  | test hg hd hc => exact .test hg hd (by rw [h o ho _ (List.mem_append_right _ (by simp [hg, hd]))]; exact hc)
  | off hg hd hc => exact .off hg hd (by rw [h o ho _ (List.mem_append_right _ (by simp [hg, hd]))]; exact hc)
theorem Acts.same {o : Oper} {tm tm' : List Value} {h h' : Heap} {fl : Option Value} {v : Value} (hs : SameOn tm tm' o.op.operands) (ha : Acts P call o tm h fl v h') : Acts P call o tm' h fl v h' := by
  cases ha with
  | val hc hx => exact .val hc (by rw [opX_same hs]; exact hx)
  | skip hc hx => exact .skip hc (by rw [opX_same hs]; exact hx)
  | pan hc hx => exact .pan hc (by rw [opX_same hs]; exact hx)
  | ret hc hx hr => exact .ret hc (by rw [opC_same hs]; exact hx) hr
  | thrown hc hx hr => exact .thrown hc (by rw [opC_same hs]; exact hx) hr
theorem Quiet.same {i : Nat} {tm tm' : List Value} (h : SameAt ops i tm tm') {v : Value} (hq : Quiet P ops i tm v) : Quiet P ops i tm' v := by
  cases hq with
  | skip ho hg => exact .skip ho (hg.same h ho)
  | pure ho hg hc hv => exact .pure ho (hg.same h ho) hc (by rw [opP_same (h.on ho)]; exact hv)
  | look ho hg hc hr hv => exact .look ho (hg.same h ho) hc (by rw [readId_same (h.on ho)]; exact hr) (fun m => by rw [opL_same (h.on ho)]; exact hv m)
theorem HStep.same {i : Nat} {tm tm' : List Value} {H H1 : Hist} {h h1 : Heap} {fl : Option Value} {v : Value} (hs : SameAt ops i tm tm') (ht : HStep P call ops T base i tm H h fl v h1 H1) : HStep P call ops T base i tm' H h fl v h1 H1 := by
  cases ht with
  | quiet hq => exact .quiet (hq.same hs)
  | make ho hg hc hm => exact .make ho (hg.same hs ho) hc (by rw [opA_same (hs.on ho)]; exact hm)
  | read ho hg hc hr hv hb hk => exact .read ho (hg.same hs ho) hc (by rw [readId_same (hs.on ho)]; exact hr) (by rw [opL_same (hs.on ho)]; exact hv) hb hk
  | act ho hg ha hk => exact .act ho (hg.same hs ho) (ha.same (hs.on ho)) hk

theorem clsAt_of {i : Nat} {o : Oper} (h : ops[i]? = some o) : clsAt P ops i = cls P o.op := by simp [clsAt, h]
def DeadAt (P : Program) (ops : List Oper) (base i : Nat) (h : Heap) : Prop := clsAt P ops i = .A → h[base + slotOf P ops i]? = some deadBlk
theorem slot_lt {i j : Nat} (hi : clsAt P ops i = .A) (hij : i < j) : slotOf P ops i < slotOf P ops j := by
  have e : slotOf P ops (i + 1) = slotOf P ops i + 1 := by
    unfold slotOf
    rw [List.range_succ, List.filter_append, List.length_append]
    simp [hi]
  have m : ∀ n, slotOf P ops (i + 1) ≤ slotOf P ops (i + 1 + n) := by
    intro n
    induction n with
    | zero => exact Nat.le_refl _
    | succ n ih =>
      refine Nat.le_trans ih ?_
      unfold slotOf
      rw [show i + 1 + (n + 1) = (i + 1 + n) + 1 by omega, List.range_succ (n := i + 1 + n), List.filter_append, List.length_append]
      omega
  have := m (j - (i + 1))
  rw [show i + 1 + (j - (i + 1)) = j by omega] at this
  omega
theorem slot_ne {i j : Nat} (hi : clsAt P ops i = .A) (hj : clsAt P ops j = .A) (h : i ≠ j) : slotOf P ops i ≠ slotOf P ops j := by
  rcases Nat.lt_or_gt_of_ne h with hl | hl
  · have := slot_lt hi hl; omega
  · have := slot_lt hj hl; omega
theorem slot_bound {i : Nat} (hi : clsAt P ops i = .A) (hlt : i < ops.length) : slotOf P ops i < nSlots P ops := by
  exact slot_lt hi hlt

/-- Two that may change places. -/
structure Free (P : Program) (ops : List Oper) (T : List (List Nat)) (j i : Nat) : Prop where
  ne : j ≠ i
  ji : isAnc T j i = false
  ij : isAnc T i j = false
  dst : ∀ d, dstAt ops i = some d → dstAt ops j ≠ some d
  si : ∀ tm d v, dstAt ops j = some d → SameAt ops i tm (tm.set d v) ∧ SameAt ops i (tm.set d v) tm
  sj : ∀ tm d v, dstAt ops i = some d → SameAt ops j tm (tm.set d v) ∧ SameAt ops j (tm.set d v) tm
  ll : ¬ (loud (clsAt P ops j) = true ∧ loud (clsAt P ops i) = true)
  ml : ¬ (clsAt P ops j = .A ∧ loud (clsAt P ops i) = true)

theorem HStep.loudAt {i : Nat} {tm : List Value} {o : Oper} {h h' : Heap} {fl : Option Value} {v : Value} (ho : ops[i]? = some o) (ha : Acts P call o tm h fl v h') : loud (clsAt P ops i) = true := by
  rw [clsAt_of ho]; exact ha.loud
theorem anc_slot {i j b : Nat} (hA : clsAt P ops j = .A) (hji : isAnc T j i = false) (hb : b ∉ slotsFree P ops T base i) : base + slotOf P ops j ≠ b := by
  intro e
  apply hb
  unfold slotsFree
  refine List.mem_map.2 ⟨j, ?_, e⟩
  have hlt : j < ops.length := by
    rcases Nat.lt_or_ge j ops.length with h | h
    · exact h
    · simp [clsAt, List.getElem?_eq_none h] at hA
  simp [hlt, hji, hA]
theorem HStep.dead (hf : CallFr call) {j k : Nat} {tm : List Value} {H H1 : Hist} {h h1 : Heap} {fl : Option Value} {v : Value} (hs : HStep P call ops T base j tm H h fl v h1 H1) (hjk : j ≠ k) (hd : DeadAt P ops base k h) : DeadAt P ops base k h1 := by
  intro hA
  cases hs with
  | quiet hq => exact hd hA
  | make ho hg hc hm => rw [set_at (by have := slot_ne (by rw [clsAt_of ho]; exact hc) hA hjk; omega)]; exact hd hA
  | read => exact hd hA
  | act ho hg ha hk => exact (ha.frame hf (hd hA)).1

def LsLive (H : Hist) : Prop := ∀ x : Nat × Nat × Option Blk, x ∈ H.ls → x.2.2 ≠ some deadBlk
theorem HStep.lsLive {j : Nat} {tm : List Value} {H H1 : Hist} {h h1 : Heap} {fl : Option Value} {v : Value} (hs : HStep P call ops T base j tm H h fl v h1 H1) (hl : LsLive H) : LsLive H1 := by
  cases hs with
  | quiet hq => exact hl
  | make ho hg hc hm => exact hl
  | read ho hg hc hr hv hb hk =>
    intro x hx
    rcases List.mem_cons.1 hx with rfl | hx
    · exact opL_live hr hv
    · exact hl x hx
  | act ho hg ha hk => exact hl
theorem swap (hf : CallFr call) {j i : Nat} {tm : List Value} {H H1 H2 : Hist} {h h1 h2 : Heap} {fl1 fl2 : Option Value} {v1 v2 : Value} (hfr : Free P ops T j i) (hdj : DeadAt P ops base j h) (hdi : DeadAt P ops base i h) (hll : LsLive H)
    (h1s : HStep P call ops T base j tm H h fl1 v1 h1 H1) (h2s : HStep P call ops T base i tm H1 h1 fl2 v2 h2 H2) :
    ∃ k1 G1 G2, HStep P call ops T base i tm H h fl2 v2 k1 G1 ∧ HStep P call ops T base j tm G1 k1 fl1 v1 h2 G2 ∧ HRel G2 H2 ∧ (fl1 = none ∨ fl2 = none) := by
  cases h1s with
  | quiet hq => exact ⟨_, _, _, h2s, .quiet hq, HRel.refl _, .inl rfl⟩
  | @make o m ho hg hc hm =>
    have hAj : clsAt P ops j = .A := by rw [clsAt_of ho]; exact hc
    cases h2s with
    | quiet hq => exact ⟨_, _, _, .quiet hq, .make ho hg hc hm, HRel.refl _, .inl rfl⟩
    | @make o' m' ho' hg' hc' hm' =>
      have hAi : clsAt P ops i = .A := by rw [clsAt_of ho']; exact hc'
      refine ⟨_, _, _, .make ho' hg' hc' hm', ?_, HRel.refl _, .inl rfl⟩
      rw [List.set_comm _ _ (by have := slot_ne hAj hAi hfr.ne; omega)]
      exact .make ho hg hc hm
    | @read o' v b ho' hg' hc' hr' hv' hb' hk' =>
      have hne := anc_slot hAj hfr.ji hb'
      refine ⟨_, _, _, .read ho' hg' hc' hr' ?_ hb' ?_, .make ho hg hc hm, ?_, .inl rfl⟩
      · rw [← opL_block hr' (set_at hne)]; exact hv'
      · intro x hx; rw [← set_at (h := h) (X := m.1) hne]; exact hk' x hx
      · rw [set_at hne]; exact HRel.refl _
    | act ho' hg' ha' hk' => exact absurd ⟨hAj, HStep.loudAt ho' ha'⟩ hfr.ml
  | @read o v b ho hg hc hr hv hb hk =>
    cases h2s with
    | quiet hq => exact ⟨_, _, _, .quiet hq, .read ho hg hc hr hv hb hk, HRel.refl _, .inl rfl⟩
    | @make o' m' ho' hg' hc' hm' =>
      have hAi : clsAt P ops i = .A := by rw [clsAt_of ho']; exact hc'
      have hne := anc_slot hAi hfr.ij hb
      refine ⟨_, _, _, .make ho' hg' hc' hm', .read ho hg hc hr ?_ hb ?_, ?_, .inl rfl⟩
      · rw [opL_block hr (set_at hne)]; exact hv
      · intro x hx; rw [set_at hne]; exact hk x hx
      · rw [set_at hne]; exact HRel.refl _
    | @read o' v' b' ho' hg' hc' hr' hv' hb' hk' =>
      refine ⟨_, _, _, .read ho' hg' hc' hr' hv' hb' hk', .read ho hg hc hr hv hb hk, ⟨fun x hx => ?_, (HRel.refl _).xs⟩, .inl rfl⟩
      rcases List.mem_cons.1 hx with rfl | hx
      · exact List.mem_cons_of_mem _ List.mem_cons_self
      · rcases List.mem_cons.1 hx with rfl | hx
        · exact List.mem_cons_self
        · exact List.mem_cons_of_mem _ (List.mem_cons_of_mem _ hx)
    | @act o' fl' v' h'' ho' hg' ha' hk' =>
      have he : h2[b]? = h[b]? := (hk' _ List.mem_cons_self).resolve_left (by rw [hfr.ji]; simp)
      refine ⟨_, _, _, .act ho' hg' ha' (fun x hx => hk' x (List.mem_cons_of_mem _ hx)), .read ho hg hc hr (by rw [opL_block hr he]; exact hv) hb ?_, ?_, .inl rfl⟩
      · intro x hx
        rcases List.mem_cons.1 hx with rfl | hx
        · exact .inr he.symm
        · rw [he]; exact hk x hx
      · rw [he]; exact HRel.refl _
  | @act o fl v h' ho hg ha hk =>
    cases h2s with
    | quiet hq => exact ⟨_, _, _, .quiet hq, .act ho hg ha hk, HRel.refl _, .inr rfl⟩
    | @make o' m' ho' hg' hc' hm' =>
      have hAi : clsAt P ops i = .A := by rw [clsAt_of ho']; exact hc'
      obtain ⟨f1, f2⟩ := ha.frame hf (hdi hAi)
      refine ⟨_, _, _, .make ho' hg' hc' hm', .act ho hg (f2 _) ?_, ⟨fun x hx => hx, fun x hx => ?_⟩, .inr rfl⟩
      · intro x hx
        rcases hk x hx with hx' | hx'
        · exact .inl hx'
        · refine .inr ?_
          rw [set_at ?_]
          · exact hx'
          · intro e
            rw [← e, f1] at hx'
            exact hll x hx hx'.symm
      · rcases List.mem_cons.1 hx with rfl | hx
        · refine ⟨_, List.mem_cons_self, rfl, fun b => ?_⟩
          by_cases hb : base + slotOf P ops i = b
          · subst hb; exact .inr (hdi hAi)
          · exact .inl (set_at hb)
        · exact ⟨x, List.mem_cons_of_mem _ hx, rfl, fun b => .inl rfl⟩
    | @read o' v' b' ho' hg' hc' hr' hv' hb' hk' =>
      have he : h[b']? = h1[b']? := (hk' _ List.mem_cons_self).resolve_left (by rw [hfr.ji]; simp)
      refine ⟨_, _, _, .read ho' hg' hc' hr' (by rw [opL_block hr' he]; exact hv') hb' (fun x hx => by rw [he]; exact hk' x (List.mem_cons_of_mem _ hx)), .act ho hg ha ?_, ?_, .inr rfl⟩
      · intro x hx
        rcases List.mem_cons.1 hx with rfl | hx
        · exact .inr he.symm
        · exact hk x hx
      · rw [he]; exact HRel.refl _
    | act ho' hg' ha' hk' => exact absurd ⟨HStep.loudAt ho ha, HStep.loudAt ho' ha'⟩ hfr.ll
end
end Go.Am

namespace Go.Am
open Go
section
variable {P : Program} {call : CallF} {ops : List Oper} {T : List (List Nat)} {base : Nat} {K : Kt} {r : Ret × Heap}

theorem nextRest_append {j : Nat} {fl : Option Value} {a b : List Nat} : nextRest T j fl (a ++ b) = nextRest T j fl a ++ nextRest T j fl b := by
  cases fl with
  | none => rfl
  | some v => simp [nextRest]
theorem nextRest_cons {j i : Nat} {fl : Option Value} {l : List Nat} (h : isAnc T j i = false) : nextRest T j fl (i :: l) = i :: nextRest T j fl l := by
  cases fl with
  | none => rfl
  | some v => simp [nextRest, h]
theorem nextRest_comm {j i : Nat} {fl fl' : Option Value} {l : List Nat} : nextRest T j fl (nextRest T i fl' l) = nextRest T i fl' (nextRest T j fl l) := by
  cases fl <;> cases fl' <;> simp only [nextRest]
  rw [List.filter_filter, List.filter_filter]
  congr 1
  funext x
  rw [Bool.and_comm]
theorem nextRest_sub {j : Nat} {fl : Option Value} {l : List Nat} : (nextRest T j fl l).Sublist l := by
  cases fl with
  | none => exact List.Sublist.refl _
  | some v => exact List.filter_sublist
theorem nextPend_comm {a b p : Option Value} (h : a = none ∨ b = none) : nextPend a (nextPend b p) = nextPend b (nextPend a p) := by
  rcases h with rfl | rfl <;> rfl
theorem outD_comm {d e : Option Tmp} {a b : Option Value} {tm : List Value} {u v : Value} (h : ∀ x, e = some x → d ≠ some x) : outD d a (outD e b tm v) u = outD e b (outD d a tm u) v := by
  cases a <;> cases b <;> simp only [outD]
  cases d with
  | none => cases e <;> rfl
  | some d =>
    cases e with
    | none => rfl
    | some e =>
      have : d ≠ e := fun he => h e rfl (by rw [he])
      simp only [putA]
      exact (List.set_comm _ _ this).symm
theorem SameAt.refl {i : Nat} {tm : List Value} : SameAt ops i tm tm := fun _ _ _ _ => rfl
theorem Free.atI {j i : Nat} (h : Free P ops T j i) (fl : Option Value) (tm : List Value) (v : Value) : SameAt ops i (outD (dstAt ops j) fl tm v) tm := by
  cases fl with
  | some u => exact SameAt.refl
  | none =>
    cases hd : dstAt ops j with
    | none => exact SameAt.refl
    | some d => exact (h.si tm d v hd).2
theorem Free.atJ {j i : Nat} (h : Free P ops T j i) (fl : Option Value) (tm : List Value) (v : Value) : SameAt ops j tm (outD (dstAt ops i) fl tm v) := by
  cases fl with
  | some u => exact SameAt.refl
  | none =>
    cases hd : dstAt ops i with
    | none => exact SameAt.refl
    | some d => exact (h.sj tm d v hd).1

theorem RD.front (hf : CallFr call) : ∀ (n : Nat) (pre : List Nat), pre.length ≤ n → ∀ (post : List Nat) (i : Nat) (pend : Option Value) (H : Hist) (tm : List Value) (h : Heap), RD P call ops T base K r (pre ++ i :: post) pend H tm h →
    (pre ++ i :: post).Nodup → (∀ k, k ∈ pre ++ i :: post → DeadAt P ops base k h) → LsLive H → (∀ j, j ∈ pre → Free P ops T j i) → RD P call ops T base K r (i :: (pre ++ post)) pend H tm h
  | n, [], _, post, i, pend, H, tm, h, hr, _, _, _, _ => hr
  | 0, j :: pre, hn, _, _, _, _, _, _, _, _, _, _, _ => by simp at hn
  | n + 1, j :: pre, hn, post, i, pend, H, tm, h, hr, hnd, hdead, hll, hfree => by
    cases hr with
    | @step _ _ _ fl1 _ H1 _ v1 _ h1 hs hr =>
      have hfr := hfree j List.mem_cons_self
      have hnd' : (pre ++ i :: post).Nodup := (List.nodup_cons.1 hnd).2
      have hj : j ∉ pre ++ i :: post := (List.nodup_cons.1 hnd).1
      change RD P call ops T base K r (nextRest T j fl1 (pre ++ i :: post)) _ _ _ _ at hr
      rw [nextRest_append, nextRest_cons hfr.ji] at hr
      have hsub : (nextRest T j fl1 pre ++ i :: nextRest T j fl1 post).Sublist (pre ++ i :: post) := by
        have := nextRest_sub (T := T) (j := j) (fl := fl1) (l := pre ++ i :: post)
        rwa [nextRest_append, nextRest_cons hfr.ji] at this
      have h3 := RD.front hf n (nextRest T j fl1 pre) (Nat.le_trans nextRest_len (by simpa using hn)) _ i _ _ _ _ hr (hnd'.sublist hsub)
        (fun k hk => hs.dead hf (fun e => hj (e ▸ hsub.subset hk)) (hdead k (List.mem_cons_of_mem _ (hsub.subset hk)))) (hs.lsLive hll)
        (fun k hk => hfree k (List.mem_cons_of_mem _ (nextRest_sub.subset hk)))
      cases h3 with
      | @step _ _ _ fl2 _ H2 _ v2 _ h2 hs2 hr2 =>
        obtain ⟨k1, G1, G2, q1, q2, q3, q4⟩ := swap hf hfr (hdead j List.mem_cons_self) (hdead i (by simp)) hll hs (hs2.same (hfr.atI fl1 tm v1))
        refine RD.step q1 ?_
        rw [List.cons_append, nextRest_cons hfr.ij]
        refine RD.step (q2.same (hfr.atJ fl2 tm v2)) ?_
        rw [nextRest_comm, nextRest_append (j := j), outD_comm (fun x hx => hfr.dst x hx), nextPend_comm q4]
        exact hr2.less q3

theorem killSlots_len : ∀ (n base : Nat) (h : Heap), (killSlots base n h).length = h.length
  | 0, base, h => rfl
  | n + 1, base, h => by simp [killSlots, killSlots_len n]
theorem killSlots_set : ∀ (n base s : Nat) (h : Heap) (X : Blk), s < n → killSlots base n (h.set (base + s) X) = killSlots base n h
  | 0, base, s, h, X, hs => by omega
  | n + 1, base, s, h, X, hs => by
    simp only [killSlots]
    by_cases he : s = n
    · subst he; rw [List.set_set]
    · rw [List.set_comm _ _ (by omega), killSlots_set n base s _ X (by omega)]
theorem putA_len {tm : List Value} {d : Option Tmp} {v : Value} : (putA tm d v).length = tm.length := by cases d <;> simp [putA]
theorem RD.panned {L : List Nat} {u : Value} {p : Option Value} {H : Hist} {tm : List Value} {h : Heap} (hr : RD P call ops T base K r L p H tm h) (hp : p = some u) (hl : ∀ k, k ∈ L → loud (clsAt P ops k) = false) (hb : ∀ k, k ∈ L → k < ops.length) :
    K (.pan u) (panSt base (nSlots P ops) ⟨tm, h⟩) = some r := by
  induction hr with
  | done hk => simp at hp
  | donep hk => cases hp; exact hk
  | @step i rest pend fl H H' tm v h h' hs hr ih =>
    have hl' : ∀ k, k ∈ nextRest T i fl rest → loud (clsAt P ops k) = false := fun k hk => hl k (List.mem_cons_of_mem _ (nextRest_sub.subset hk))
    have hb' : ∀ k, k ∈ nextRest T i fl rest → k < ops.length := fun k hk => hb k (List.mem_cons_of_mem _ (nextRest_sub.subset hk))
    cases hs with
    | quiet hq =>
      have := ih hp hl' hb'
      simpa [panSt, outD, putA_len] using this
    | make ho hg hc hm =>
      have := ih hp hl' hb'
      have hi : slotOf P ops i < nSlots P ops := slot_bound (by rw [clsAt_of ho]; exact hc) (hb i List.mem_cons_self)
      simpa [panSt, outD, putA_len, killSlots_set _ _ _ _ _ hi] using this
    | read ho hg hc hrd hv hb hk =>
      have := ih hp hl' hb'
      simpa [panSt, outD, putA_len] using this
    | act ho hg ha hk =>
      have h1 := HStep.loudAt (P := P) ho ha
      rw [hl i List.mem_cons_self] at h1
      simp at h1
end
end Go.Am

namespace Go.Am
open Go
section
variable {P : Program} {call : CallF} {w0 : World} {prot : Nat → Prop} {N : Nat}

/-- What 'drawOk' tells. -/
structure Stat (P : Program) (ops : List Oper) (T : List (List Nat)) (C : List Nat) : Prop where
  all : ∀ i, i < ops.length → i ∈ C
  bound : ∀ i, i ∈ C → i < ops.length
  pairs : C.Pairwise fun j i => pairOk P ops T j i = true
  bef : ∀ i o, ops[i]? = some o → ∀ j, j ∈ befores o → j < i ∧ isAnc T j i = true
  anc : ∀ i o, ops[i]? = some o → ∀ a, isAnc T a i = true → a ∈ befores o ∨ ∃ k, k ∈ befores o ∧ isAnc T a k = true
  ll : ∀ i j, i < ops.length → j < ops.length → i ≠ j → loud (clsAt P ops i) = true → loud (clsAt P ops j) = true → isAnc T i j = true ∨ isAnc T j i = true
  dst : ∀ i j o o', i ≠ j → ops[i]? = some o → ops[j]? = some o' → ∀ d, o.dst = some d → o'.dst ≠ some d ∧ (d ∈ opndsOf ops o' → isAnc T i j = true ∨ isAnc T j i = true)
theorem pairsOk_inv {ops : List Oper} {T : List (List Nat)} : ∀ {l : List Nat}, pairsOk P ops T l = true → l.Pairwise fun j i => pairOk P ops T j i = true
  | [], _ => .nil
  | j :: l, h => by
    simp only [pairsOk, Bool.and_eq_true, List.all_eq_true] at h
    exact .cons h.1 (pairsOk_inv h.2)
theorem stat_of {ops : List Oper} {T : List (List Nat)} {C : List Nat} (h : drawOk P ops T C = true) : Stat P ops T C := by
  simp only [drawOk, Bool.and_eq_true] at h
  obtain ⟨⟨⟨⟨⟨h1, h2⟩, h3⟩, h4⟩, h5⟩, h6⟩ := h
  simp only [List.all_eq_true, List.mem_range, decide_eq_true_eq, List.elem_eq_mem] at h1 h2 h4 h5 h6
  refine ⟨h1, h2, pairsOk_inv h3, ?_, ?_, ?_, ?_⟩
  · intro i o ho j hj
    have h := h4 i (List.getElem?_eq_some_iff.1 ho).1
    simp only [ho, Bool.and_eq_true, List.all_eq_true, decide_eq_true_eq] at h
    exact h.1.1 j hj
  · intro i o ho a ha
    have h := h4 i (List.getElem?_eq_some_iff.1 ho).1
    simp only [ho, Bool.and_eq_true, List.all_eq_true, decide_eq_true_eq, Bool.or_eq_true, List.any_eq_true] at h
    exact h.1.2 a (by simpa [isAnc] using ha)
  · intro i j hi hj hne li lj
    have h := h5 i hi j hj
    simpa [hne, li, lj] using h
  · intro i j o o' hne ho ho' d hd
    have h := h6 i (List.getElem?_eq_some_iff.1 ho).1 j (List.getElem?_eq_some_iff.1 ho').1
    simp only [ho, ho', hd, Bool.or_eq_true, beq_iff_eq, hne, false_or, Bool.and_eq_true, Bool.not_eq_true', decide_eq_false_iff_not] at h
    refine ⟨fun e => ?_, fun hm => ?_⟩
    · have := h.1
      rw [e] at this
      simp at this
    · exact h.2.resolve_left (fun hn => hn hm)

theorem dstAt_some {ops : List Oper} {i : Nat} {d : Tmp} (h : dstAt ops i = some d) : ∃ o, ops[i]? = some o ∧ o.dst = some d := by
  cases ho : ops[i]? with
  | none => simp [dstAt, ho] at h
  | some o => exact ⟨o, rfl, by simpa [dstAt, ho] using h⟩
theorem same_set {ops : List Oper} {i : Nat} {tm : List Value} {d : Nat} {v : Value} (h : ∀ o, ops[i]? = some o → d ∉ opndsOf ops o) : SameAt ops i tm (tm.set d v) ∧ SameAt ops i (tm.set d v) tm := by
  have key : ∀ o, ops[i]? = some o → ∀ t, t ∈ opndsOf ops o → (tm.set d v)[t]? = tm[t]? := fun o ho t ht => List.getElem?_set_ne (fun e : d = t => h o ho (by rw [e]; exact ht))
  exact ⟨key, fun o ho t ht => (key o ho t ht).symm⟩
theorem Stat.free {ops : List Oper} {T : List (List Nat)} {C : List Nat} (h : Stat P ops T C) {i j : Nat} (hi : i < ops.length) (hj : j < ops.length) (hp : pairOk P ops T j i = true) (hji : isAnc T j i = false) : Free P ops T j i := by
  simp only [pairOk, Bool.and_eq_true, Bool.not_eq_true', beq_eq_false_iff_ne, Bool.or_eq_true] at hp
  obtain ⟨⟨hne, hij⟩, hm⟩ := hp
  have apart : ∀ a b, a ≠ b → isAnc T a b = false → isAnc T b a = false → ∀ d, dstAt ops a = some d → dstAt ops b ≠ some d ∧ ∀ o, ops[b]? = some o → d ∉ opndsOf ops o := by
    intro a b hab h1 h2 d hd
    obtain ⟨o, ho, hod⟩ := dstAt_some hd
    refine ⟨fun e => ?_, fun o' ho' hm => ?_⟩
    · obtain ⟨o', ho', hod'⟩ := dstAt_some e
      exact (h.dst a b o o' hab ho ho' d hod).1 hod'
    · rcases (h.dst a b o o' hab ho ho' d hod).2 hm with h3 | h3
      · rw [h1] at h3; simp at h3
      · rw [h2] at h3; simp at h3
  refine ⟨hne, hji, hij, fun d hd => (apart i j (Ne.symm hne) hij hji d hd).1, fun tm d v hd => same_set (apart j i hne hji hij d hd).2, fun tm d v hd => same_set (apart i j (Ne.symm hne) hij hji d hd).2, ?_, ?_⟩
  · rintro ⟨l1, l2⟩
    rcases h.ll j i hj hi hne l1 l2 with h3 | h3
    · rw [hji] at h3; simp at h3
    · rw [hij] at h3; simp at h3
  · rintro ⟨l1, l2⟩
    rcases hm with h3 | h3
    · simp [l1, l2] at h3
    · rw [hji] at h3; simp at h3

theorem GSt.wanted {ops : Array Oper} {o : Oper} {tm : List Value} {a : Act} {f : Ren} {b : Bool} (hg : GSt ops.toList o tm b) (ht : VRs f tm a.tmps.toList) : Region.wanted o (yielded ops a.tmps) = b := by
  cases hg with
  | free h => simp [Region.wanted, h]
  | @test j want d c h hd hc =>
    obtain ⟨y, hy, hv⟩ := ht.get d _ hc
    have hy' : a.tmps[d]? = some y := by rw [← Array.getElem?_toList]; exact hy
    have hdst : (ops[j]?).bind (·.dst) = some d := by rw [← Array.getElem?_toList]; exact hd
    cases hv
    have hyl : yielded ops a.tmps j = some c := by simp [yielded, hdst, hy']
    simp only [Region.wanted, h, hyl]
    cases c <;> cases want <;> rfl
  | @off j want d h hd hc =>
    obtain ⟨y, hy, hv⟩ := ht.get d _ hc
    have hy' : a.tmps[d]? = some y := by rw [← Array.getElem?_toList]; exact hy
    have hdst : (ops[j]?).bind (·.dst) = some d := by rw [← Array.getElem?_toList]; exact hd
    cases hv with
    | tuple xs xs' h hl => exact absurd rfl hl
    | skipped =>
      have hyl : yielded ops a.tmps j = none := by simp [yielded, hdst, hy']
      simp [Region.wanted, h, hyl]

open Classical in
theorem Acts.sim (hcall : CallOk P w0 prot call) {o : Oper} (hop : OperOk P o) {f : Ren} {tm : List Value} {h h' : Heap} {a : Act} {w : World} {fl : Option Value} {v : Value} {next : Act → World → Prop} {Q : Exit → Act → World → Prop}
    (ha : Acts P call o tm h fl v h') (hs : SR P w0 prot N f ⟨tm, h⟩ a w)
    (hk : fl = none → ∀ a1 w1 f1, Ext h.length f f1 → SR P w0 prot N f1 ⟨putA tm o.dst v, h'⟩ a1 w1 → a1.defers = a.defers → next a1 w1)
    (hK : ∀ u, fl = some u → ∀ v' w1 f1, Ext h.length f f1 → VR f1 u v' → SR P w0 prot N f1 ⟨tm, h'⟩ a w1 → Q (.panic [{ v := v', recovered := false }]) a w1) :
    o.upon P a next Q ((execOp a.eval o).run P w) := by
  let r0 : Ret × Heap := (.ret undefA, [])
  have hd : doOp P call none o ⟨tm, h⟩ (fun s => if fl = none ∧ s = ⟨putA tm o.dst v, h'⟩ then some r0 else none) (fun e s => match e with | .pan u => if fl = some u ∧ s = ⟨tm, h'⟩ then some r0 else none | _ => none) = some r0 := by
    refine doOp_of_acts ha ?_
    cases fl with
    | none => simp [outTm]
    | some u => simp
  refine doOp_sim hcall hop.1 hop.2 hd hs ?_ ?_
  · intro s1 a1 w1 f1 he hle hs1 hdf
    split at he
    case isFalse => simp at he
    rename_i he1
    obtain ⟨he1, rfl⟩ := he1
    exact hk he1 a1 w1 f1 hle hs1 hdf
  · intro u u' s1 w1 f1 he hle hv hs1
    simp only at he
    split at he
    case isFalse => simp at he
    rename_i he1
    obtain ⟨he1, rfl⟩ := he1
    exact hK u he1 u' w1 f1 hle hv hs1

theorem Inv.kill {f : Ren} {h : Heap} {w : World} (hinv : Inv P w0 prot f h w) (b : Nat) : Inv P w0 prot f (h.set b ⟨.dead, false⟩) w := by
  have hget : ∀ (j : Nat) (c : Blk), (h.set b (⟨.dead, false⟩ : Blk))[j]? = some c → c = (⟨.dead, false⟩ : Blk) ∨ h[j]? = some c := by
    intro j c hj
    by_cases hjb : b = j
    · subst hjb
      have hlt := (List.getElem?_eq_some_iff.1 hj).1
      rw [List.getElem?_set_self (by simpa using hlt)] at hj
      cases hj; exact .inl rfl
    · rw [set_at hjb] at hj; exact .inr hj
  refine ⟨⟨?_, ?_, ?_⟩, ⟨hinv.fr.os, hinv.fr.tape, hinv.fr.output, hinv.fr.size, hinv.fr.keep, ?_⟩⟩
  · intro i p hp; rw [List.length_set]; exact hinv.sim.dom i p hp
  · intro i c hc
    rcases hget i c hc with rfl | hc
    · trivial
    · exact hinv.sim.blk i c hc
  · intro i j bi bj pi pj hne hbi hbj hli hlj ho hpi hpj
    rcases hget i bi hbi with rfl | hbi
    · simp [Blk.live] at hli
    · rcases hget j bj hbj with rfl | hbj
      · simp [Blk.live] at hlj
      · exact hinv.sim.inj i j bi bj pi pj hne hbi hbj hli hlj ho hpi hpj
  · intro i c p hc ho hp
    rcases hget i c hc with rfl | hc
    · simp at ho
    · exact hinv.fr.owns i c p hc ho hp
theorem Inv.kills {f : Ren} {w : World} : ∀ (n base : Nat) {h : Heap}, Inv P w0 prot f h w → Inv P w0 prot f (killSlots base n h) w
  | 0, base, h, hi => hi
  | n + 1, base, h, hi => Inv.kills n base (hi.kill (base + n))

theorem ready_anc {ops : Array Oper} {T : List (List Nat)} {C L : List Nat} {listed : Array Bool} (hst : Stat P ops.toList T C) (hmem : ∀ k, k < ops.size → (listed.getD k true = false ↔ k ∈ L)) (hsz : listed.size = ops.size)
    (hdown : ∀ k, k < ops.size → k ∉ L → ∀ a, isAnc T a k = true → a ∉ L) {i : Nat} (hi : i ∈ Region.ready .any ops listed) : i < ops.size ∧ i ∈ L ∧ ∀ a, isAnc T a i = true → a ∉ L := by
  obtain ⟨h0, o, ho, hall⟩ := mem_ready.1 hi
  have hlt : i < ops.size := (Array.getElem?_eq_some_iff.1 ho).1
  have hbef : ∀ k, k ∈ befores o → k ∉ L := by
    intro k hk
    simp only [befores, List.mem_map, List.mem_filter] at hk
    obtain ⟨e, ⟨he, hb⟩, rfl⟩ := hk
    have h1 := hall e (by simpa using he) hb
    intro hL
    have hkl : e.on < ops.size := by
      rcases Nat.lt_or_ge e.on listed.size with h' | h'
      · omega
      · simp [Array.getElem?_eq_none h'] at h1
    have h2 := (hmem e.on hkl).2 hL
    have : e.on < listed.size := by omega
    simp [this] at h1 h2
    rw [h1] at h2; simp at h2
  have hkb : ∀ k, k ∈ befores o → k < ops.size := fun k hk => by
    have := (hst.bef i o (by simpa using ho) k hk).1
    omega
  refine ⟨hlt, (hmem i hlt).1 h0, fun a ha => ?_⟩
  rcases hst.anc i o (by simpa using ho) a ha with h1 | ⟨k, hk, hak⟩
  · exact hbef a h1
  · exact hdown k (hkb k hk) (hbef k hk) a hak
theorem ready_some {ops : Array Oper} {T : List (List Nat)} {C L : List Nat} {listed : Array Bool} (hst : Stat P ops.toList T C) (hmem : ∀ k, k < ops.size → (listed.getD k true = false ↔ k ∈ L)) (hsz : listed.size = ops.size)
    (hL : ∀ k, k ∈ L → k < ops.size) : ∀ (n m : Nat), m ≤ n → m ∈ L → ∃ i, i ∈ Region.ready .any ops listed := by
  intro n
  induction n with
  | zero =>
    intro m hm hmL
    have : m = 0 := by omega
    subst this
    refine ⟨0, mem_ready.2 ⟨(hmem 0 (hL 0 hmL)).2 hmL, ops[0]'(hL 0 hmL), Array.getElem?_eq_getElem _, fun e he hb => ?_⟩⟩
    have := (hst.bef 0 (ops[0]'(hL 0 hmL)) (by simp) e.on (by simp only [befores, List.mem_map, List.mem_filter]; exact ⟨e, ⟨by simpa using he, hb⟩, rfl⟩)).1
    omega
  | succ n ih =>
    intro m hm hmL
    have hlt := hL m hmL
    by_cases hall : ∀ e ∈ (ops[m]'hlt).after, Region.binds .any e = true → listed.getD e.on false = true
    · exact ⟨m, mem_ready.2 ⟨(hmem m hlt).2 hmL, ops[m]'hlt, Array.getElem?_eq_getElem _, hall⟩⟩
    · simp only [Classical.not_forall] at hall
      obtain ⟨e, he, hb, hne⟩ := hall
      have hon := (hst.bef m (ops[m]'hlt) (by simp) e.on (by simp only [befores, List.mem_map, List.mem_filter]; exact ⟨e, ⟨by simpa using he, hb⟩, rfl⟩)).1
      refine ih e.on (by omega) ((hmem e.on (by omega)).1 ?_)
      have h1 : e.on < listed.size := by omega
      simp [h1] at hne ⊢
      exact hne
end
end Go.Am

namespace Go.Am
open Go
section
variable {P : Program} {call : CallF} {w0 : World} {prot : Nat → Prop} {N base : Nat}

theorem getD_set {listed : Array Bool} {i k : Nat} (hi : i < listed.size) : (listed.setIfInBounds i true).getD k true = false ↔ k ≠ i ∧ listed.getD k true = false := by
  by_cases h : i = k
  · subst h; simp [hi]
  · rw [getD_set_ne true h]
    exact ⟨fun h1 => ⟨Ne.symm h, h1⟩, fun h1 => h1.2⟩
theorem wpOp_at {ops : Array Oper} {Q : Exit → Act → World → Prop} {i : Nat} {o : Oper} {X : Act → World → Prop} {a : Act} {w : World} (ho : ops[i]? = some o)
    (h : (Region.wanted o (yielded ops a.tmps) = true ∧ o.upon P a X Q ((execOp a.eval o).run P w)) ∨ (Region.wanted o (yielded ops a.tmps) = false ∧ X (a.put o.dst undef) w)) : wpOp P ops Q i X a w := by
  unfold wpOp
  rw [ho]
  simp only
  rcases h with ⟨h1, h2⟩ | ⟨h1, h2⟩
  · rw [if_pos h1]; exact .inl h2
  · rw [if_neg (by rw [h1]; simp)]; exact h2

theorem wpAny_of (hcall : CallOk P w0 prot call) (hf : CallFr call) {ops : Array Oper} {T : List (List Nat)} {C : List Nat} (hst : Stat P ops.toList T C) (hops : ∀ o, o ∈ ops.toList → OperOk P o) {K : Kt} {r : Ret × Heap} {Q : Exit → Act → World → Prop} (hN : N ≤ base) :
    ∀ (n : Nat) (L : List Nat) (listed : Array Bool) (a : Act) (w : World) (f : Ren) (tm : List Value) (h : Heap) (H : Hist), L.length = n → listed.size = ops.size → L.Sublist C → (∀ k, k < ops.size → (listed.getD k true = false ↔ k ∈ L)) →
      (∀ k, k < ops.size → k ∉ L → ∀ a, isAnc T a k = true → a ∉ L) → RD P call ops.toList T base K r L none H tm h → (∀ k, k ∈ L → DeadAt P ops.toList base k h) → LsLive H →
      (∀ k, k ∈ L → clsAt P ops.toList k = .A → f (base + slotOf P ops.toList k) = none) → SR P w0 prot N f ⟨tm, h⟩ a w → KOk P w0 prot N K r f a.defers Q → wpAny P .any ops Q n listed a w := by
  have hnodup : C.Nodup := hst.pairs.imp fun {j i} h => by
    simp only [pairOk, Bool.and_eq_true, Bool.not_eq_true', beq_eq_false_iff_ne] at h
    exact h.1.1
  intro n
  induction n with
  | zero =>
    intro L listed a w f tm h H hl hsz hsub hmem hdown hr hdead hll hslot hs hK
    have : L = [] := List.length_eq_zero_iff.1 hl
    subst this
    refine ⟨?_, ?_⟩
    · cases hrd : Region.ready .any ops listed with
      | nil => rfl
      | cons i l =>
        have := ready_anc (L := []) hst hmem hsz hdown (i := i) (by rw [hrd]; exact List.mem_cons_self)
        simp at this
    · cases hr with
      | done hk => exact hK .normal .normal _ a w f hk (Ext.refl _ f) .normal hs rfl
  | succ n ih =>
    intro L listed a w f tm h H hl hsz hsub hmem hdown hr hdead hll hslot hs hK
    have hLb : ∀ k, k ∈ L → k < ops.size := fun k hk => by have := hst.bound k (hsub.subset hk); simpa using this
    refine ⟨fun h0 => ?_, fun i hi => ?_⟩
    · cases L with
      | nil => simp at hl
      | cons m L =>
        obtain ⟨i, hi⟩ := ready_some hst hmem hsz hLb m m (Nat.le_refl _) List.mem_cons_self
        rw [h0] at hi
        simp at hi
    · obtain ⟨hilt, hiL, hianc⟩ := ready_anc hst hmem hsz hdown hi
      obtain ⟨pre, post, hLe⟩ := List.append_of_mem hiL
      have hLn : L.Nodup := hnodup.sublist hsub
      have hpw : L.Pairwise fun j i => pairOk P ops.toList T j i = true := hst.pairs.sublist hsub
      have hfree : ∀ j, j ∈ pre → Free P ops.toList T j i := fun j hj => by
        have hjL : j ∈ L := by rw [hLe]; exact List.mem_append_left _ hj
        have hji : isAnc T j i = false := by
          cases hc : isAnc T j i with
          | false => rfl
          | true => exact absurd hjL (hianc j hc)
        have hp : pairOk P ops.toList T j i = true := by
          rw [hLe] at hpw
          exact (List.pairwise_append.1 hpw).2.2 j hj i List.mem_cons_self
        exact hst.free (by simpa using hilt) (by have := hLb j hjL; simpa using this) hp hji
      have hr' : RD P call ops.toList T base K r (i :: (pre ++ post)) none H tm h :=
        RD.front hf pre.length pre (Nat.le_refl _) post i none H tm h (hLe ▸ hr) (hLe ▸ hLn) (fun k hk => hdead k (by rw [hLe]; exact hk)) hll hfree
      have hmemL : ∀ k, k ∈ pre ++ post ↔ k ∈ L ∧ k ≠ i := fun k => by
        rw [hLe] at hLn ⊢
        have h1 : i ∉ pre := fun hm => (List.nodup_append.1 hLn).2.2 i hm i List.mem_cons_self rfl
        have h2 : i ∉ post := (List.nodup_cons.1 (List.nodup_append.1 hLn).2.1).1
        simp only [List.mem_append, List.mem_cons]
        constructor
        · rintro (hk | hk)
          · exact ⟨.inl hk, fun e => h1 (e ▸ hk)⟩
          · exact ⟨.inr (.inr hk), fun e => h2 (e ▸ hk)⟩
        · rintro ⟨hk | rfl | hk, hne⟩
          · exact .inl hk
          · exact absurd rfl hne
          · exact .inr hk
      have hlen' : (pre ++ post).length = n := by rw [hLe] at hl; simp at hl ⊢; omega
      have hsub' : (pre ++ post).Sublist C := by
        refine List.Sublist.trans ?_ hsub
        rw [hLe]
        exact List.Sublist.append (List.Sublist.refl _) (List.sublist_cons_self _ _)
      have hilt' : i < listed.size := by omega
      have hmem' : ∀ k, k < ops.size → ((listed.setIfInBounds i true).getD k true = false ↔ k ∈ pre ++ post) := fun k hk => by
        rw [getD_set hilt', hmem k hk, hmemL k]
        exact And.comm
      have hdown' : ∀ k, k < ops.size → k ∉ pre ++ post → ∀ a, isAnc T a k = true → a ∉ pre ++ post := by
        intro k hk hkn b hb hbm
        obtain ⟨hbL, hbi⟩ := (hmemL b).1 hbm
        by_cases hki : k = i
        · subst hki; exact hianc b hb hbL
        · exact hdown k hk (fun hkL => hkn ((hmemL k).2 ⟨hkL, hki⟩)) b hb hbL
      have ih := fun a w f tm h H => ih (pre ++ post) (listed.setIfInBounds i true) a w f tm h H hlen' (by simpa using hsz) hsub' hmem' hdown'
      have hsubL : ∀ k, k ∈ pre ++ post → k ∈ L ∧ k ≠ i := fun k hk => (hmemL k).1 hk
      cases hr' with
      | @step _ _ _ fl _ H1 _ v _ h1 hst1 hr1 =>
        have hd1 : ∀ k, k ∈ pre ++ post → DeadAt P ops.toList base k h1 := fun k hk => hst1.dead hf (Ne.symm (hsubL k hk).2) (hdead k (hsubL k hk).1)
        have hll1 := hst1.lsLive hll
        have hslot' : ∀ k, k ∈ pre ++ post → clsAt P ops.toList k = .A → f (base + slotOf P ops.toList k) = none := fun k hk => hslot k (hsubL k hk).1
        cases hst1 with
        | quiet hq =>
          have go : ∀ (o : Oper) (v' : Value), ops[i]? = some o → VR f v v' → wpAny P .any ops Q n (listed.setIfInBounds i true) (a.put o.dst v') w := fun o v' ho hv => by
            rw [dstAt_of (o := o) (by simpa using ho)] at hr1
            exact ih _ w f _ h H hr1 hd1 hll1 hslot' (hs.put (Ren.le_refl f) hs.inv (Nat.le_refl _) hv) (by rw [defers_put]; exact hK)
          cases hq with
          | @skip o ho hg =>
            have ho' : ops[i]? = some o := by simpa using ho
            exact wpOp_at ho' (.inr ⟨hg.wanted hs.tm, go o _ ho' .skipped⟩)
          | @pure o v ho hg hc hv =>
            have ho' : ops[i]? = some o := by simpa using ho
            obtain ⟨v', hrun, hvv⟩ := opP_sim (w := w) hc hv hs.tm (hops o (by rw [Array.mem_toList_iff]; exact Array.mem_of_getElem? ho')).1
            refine wpOp_at ho' (.inl ⟨hg.wanted hs.tm, ?_⟩)
            rw [hrun, Oper.upon_value]
            exact go o _ ho' hvv
          | @look o v ho hg hc hrd hv =>
            have ho' : ops[i]? = some o := by simpa using ho
            obtain ⟨v', hrun, hvv⟩ := opL_sim hs.inv.sim hc (hv h) hs.tm
            refine wpOp_at ho' (.inl ⟨hg.wanted hs.tm, ?_⟩)
            rw [hrun, Oper.upon_value]
            exact go o _ ho' hvv
        | @make o m ho hg hc hm =>
          have ho' : ops[i]? = some o := by simpa using ho
          obtain ⟨v', w', hrun, hmade⟩ := opA_sim (w := w) hc hm hs.tm
          have hA : clsAt P ops.toList i = .A := by rw [clsAt_of ho]; exact hc
          have hsl := hdead i hiL hA
          obtain ⟨f', hle, hoth, hvv, hi'⟩ := hs.inv.newAt (i := base + slotOf P ops.toList i) (hslot i hiL hA) hmade (.inr ⟨lt_dead hsl, rfl⟩)
          refine wpOp_at ho' (.inl ⟨hg.wanted hs.tm, ?_⟩)
          rw [hrun, Oper.upon_value]
          rw [dstAt_of ho] at hr1
          refine ih _ w' f' _ _ H hr1 hd1 hll1 ?_ (hs.put hle hi' (by simp) hvv) (by rw [defers_put]; exact hK.le ⟨hle, fun j hj => hoth j (by omega)⟩)
          intro k hk hkA
          rw [hoth _ (by have := slot_ne hkA hA (hsubL k hk).2; omega)]
          exact hslot' k hk hkA
        | @read o v b ho hg hc hrd hv hb hk =>
          have ho' : ops[i]? = some o := by simpa using ho
          obtain ⟨v', hrun, hvv⟩ := opL_sim hs.inv.sim hc hv hs.tm
          refine wpOp_at ho' (.inl ⟨hg.wanted hs.tm, ?_⟩)
          rw [hrun, Oper.upon_value]
          rw [dstAt_of ho] at hr1
          exact ih _ w f _ h _ hr1 hd1 hll1 hslot' (hs.put (Ren.le_refl f) hs.inv (Nat.le_refl _) hvv) (by rw [defers_put]; exact hK)
        | @act o fl v h' ho hg ha hk =>
          have ho' : ops[i]? = some o := by simpa using ho
          have hlo := HStep.loudAt (P := P) ho ha
          refine wpOp_at ho' (.inl ⟨hg.wanted hs.tm, ?_⟩)
          refine Acts.sim hcall (hops o (by rw [Array.mem_toList_iff]; exact Array.mem_of_getElem? ho')) ha hs ?_ ?_
          · intro hfl a1 w1 f1 hle hs1 hdf
            subst hfl
            rw [dstAt_of ho] at hr1
            refine ih a1 w1 f1 _ _ _ hr1 hd1 hll1 ?_ hs1 (by rw [hdf]; exact hK.le (hle.lower (by have := hs.len; simpa using this)))
            intro k hk hkA
            rw [hle.2 _ (lt_dead (hdead k (hsubL k hk).1 hkA))]
            exact hslot' k hk hkA
          · intro u hfl v' w1 f1 hle hvv hs1
            subst hfl
            have hpan := hr1.panned (u := u) rfl (fun k hk => ?_) (fun k hk => ?_)
            · refine hK _ _ _ a w1 f1 hpan (hle.lower (by have := hs.len; simpa using this)) (.pan u v' hvv) ⟨?_, ?_, ?_⟩ rfl
              · exact hs1.inv.kills _ _
              · have := VRs.replicate_any (f := f1) a.tmps.toList
                rw [hs1.tm.length] at this
                simpa [panSt, undefA, outD] using this
              · have := hs1.len
                simpa [panSt, killSlots_len] using this
            · cases hlk : loud (clsAt P ops.toList k) with
              | false => rfl
              | true =>
                have hk1 := nextRest_sub.subset hk
                obtain ⟨hkL, hki⟩ := hsubL k hk1
                have hkb := hLb k hkL
                rcases hst.ll i k (by simpa using hilt) (by simpa using hkb) (Ne.symm hki) hlo hlk with h3 | h3
                · simp only [nextRest, List.mem_filter, h3] at hk
                  simp at hk
                · exact absurd hkL (hianc k h3)
            · have := hLb k (hsubL k (nextRest_sub.subset hk)).1
              simpa using this

theorem regionK_sim (hm : P.follows .mixedOrders = true) (hcall : CallOk P w0 prot call) (hf : CallFr call) {id : Nat} {ops : Array Oper} {draw : Bool} {K : Kt} {r : Ret × Heap} {Q : Exit → Act → World → Prop} {s : St} {a : Act} {w : World} {f : Ren}
    (hops : ∀ o, o ∈ ops.toList → OperOk P o) (hr : regionK P call ops.toList draw s K = some r) (hs : SR P w0 prot N f s a w) (hK : KOk P w0 prot N K r f a.defers Q) : (Code.region id ops draw).wp P Q a w := by
  unfold regionK at hr
  cases draw with
  | false =>
    simp only [cond_false] at hr
    refine wp_region ?_
    rw [List.range_eq_range']
    exact runL_sim hcall hops ops.size 0 (by omega) s a w f (by simpa using hr) hs hK
  | true =>
    simp only [cond_true] at hr
    cases hd : drawOk P ops.toList (ancs ops.toList) (canon P ops.toList (ancs ops.toList)) with
    | false => rw [hd] at hr; simp at hr
    | true =>
      rw [hd] at hr
      simp only [cond_true] at hr
      have hst := stat_of hd
      have hrd := RD.of_run _ _ _ _ _ hr
      simp only [resv_eq] at hrd
      have hn : (canon P ops.toList (ancs ops.toList)).Nodup := hst.pairs.imp fun {j i} h => by
        simp only [pairOk, Bool.and_eq_true, Bool.not_eq_true', beq_eq_false_iff_ne] at h
        exact h.1.1
      have hlen : (canon P ops.toList (ancs ops.toList)).length = ops.size := by
        have hp : (canon P ops.toList (ancs ops.toList)).Perm (List.range ops.size) := by
          refine (List.perm_ext_iff_of_nodup hn List.nodup_range).2 fun k => ?_
          rw [List.mem_range]
          exact ⟨fun h => by have := hst.bound k h; simpa using this, fun h => hst.all k (by simpa using h)⟩
        simpa using hp.length_eq
      refine wp_region_any hm ?_
      have hinv := hs.inv.reserve (nSlots P ops.toList)
      have hinv' : Inv P w0 prot f (s.h ++ List.replicate (nSlots P ops.toList) deadBlk) { w with drawn := w.drawn + 1 } := by
        refine ⟨⟨hinv.sim.dom, hinv.sim.blk, hinv.sim.inj⟩, ⟨hinv.fr.os, hinv.fr.tape, hinv.fr.output, hinv.fr.size, hinv.fr.keep, hinv.fr.owns⟩⟩
      refine wpAny_of hcall hf hst hops hs.len ops.size (canon P ops.toList (ancs ops.toList)) (Array.replicate ops.size false) a _ f s.tm _ ⟨[], []⟩ hlen (by simp) (List.Sublist.refl _) ?_ ?_ hrd ?_ ?_ ?_ ⟨hinv', hs.tm, by have := hs.len; simp; omega⟩ hK
      · intro k hk
        simp [hk, hst.all k (by simpa using hk)]
      · intro k hk hkn
        exact absurd (hst.all k (by simpa using hk)) hkn
      · intro k hk hA
        have := slot_bound hA (hst.bound k hk)
        rw [List.getElem?_append_right (by omega), List.getElem?_replicate, if_pos (by omega)]
      · intro x hx; simp at hx
      · intro k hk hA
        cases hfk : f (s.h.length + slotOf P ops.toList k) with
        | none => rfl
        | some p => have := hs.inv.sim.dom _ _ hfk; omega
end
end Go.Am

namespace Go.Am
open Go
section
variable {P : Program} {call : CallF} {b : Nat}

/-- What comes behind asks nothing of the block, and leaves it. -/
def KFr (b : Nat) (K : Kt) : Prop := ∀ e s r h', K e s = some (r, h') → s.h[b]? = some deadBlk → h'[b]? = some deadBlk ∧ ∀ X, K e ⟨s.tm, s.h.set b X⟩ = some (r, h'.set b X)
def KsFr (b : Nat) (k : St → R) : Prop := ∀ s r h', k s = some (r, h') → s.h[b]? = some deadBlk → h'[b]? = some deadBlk ∧ ∀ X, k ⟨s.tm, s.h.set b X⟩ = some (r, h'.set b X)

theorem doOp_frame (hf : CallFr call) {o : Oper} {k : St → R} {K : Kt} (hk : KsFr b k) (hK : KFr b K) : KsFr b fun s => doOp P call none o s k K := by
  intro s r h' hd hb
  cases hc : cls P o.op with
  | P =>
    simp only [doOp, hc, Option.bind_eq_some_iff] at hd ⊢
    obtain ⟨v, hv, hd⟩ := hd
    obtain ⟨h1, h2⟩ := hk _ r h' hd hb
    exact ⟨h1, fun X => ⟨v, hv, h2 X⟩⟩
  | L =>
    simp only [doOp, hc, Option.bind_eq_some_iff] at hd ⊢
    obtain ⟨v, hv, hd⟩ := hd
    obtain ⟨h1, h2⟩ := hk _ r h' hd hb
    exact ⟨h1, fun X => ⟨v, opL_frame hb hv X, h2 X⟩⟩
  | A =>
    simp only [doOp, hc, Option.bind_eq_some_iff] at hd ⊢
    obtain ⟨m, hm, hd⟩ := hd
    obtain ⟨h1, h2⟩ := hk _ r h' hd (at_push hb)
    refine ⟨h1, fun X => ⟨m, hm, ?_⟩⟩
    have := h2 X
    simp only [List.length_set]
    rw [← set_push (lt_dead hb)]
    exact this
  | X =>
    obtain ⟨fl, v, h1, ha, hd⟩ := doOp_acts (by rw [hc]; rfl) hd
    obtain ⟨f1, f2⟩ := ha.frame hf hb
    cases fl with
    | none =>
      obtain ⟨g1, g2⟩ := hk _ r h' hd f1
      exact ⟨g1, fun X => doOp_of_acts (f2 X) (g2 X)⟩
    | some u =>
      obtain ⟨g1, g2⟩ := hK _ _ r h' hd f1
      exact ⟨g1, fun X => doOp_of_acts (f2 X) (g2 X)⟩
  | C =>
    obtain ⟨fl, v, h1, ha, hd⟩ := doOp_acts (by rw [hc]; rfl) hd
    obtain ⟨f1, f2⟩ := ha.frame hf hb
    cases fl with
    | none =>
      obtain ⟨g1, g2⟩ := hk _ r h' hd f1
      exact ⟨g1, fun X => doOp_of_acts (f2 X) (g2 X)⟩
    | some u =>
      obtain ⟨g1, g2⟩ := hK _ _ r h' hd f1
      exact ⟨g1, fun X => doOp_of_acts (f2 X) (g2 X)⟩
  | no => simp [doOp, hc] at hd
theorem guarded_frame {ops : List Oper} {o : Oper} {yes no : St → R} (hy : KsFr b yes) (hn : KsFr b no) : KsFr b fun s => guarded ops o s yes no := by
  intro s r h' hg hb
  rcases guarded_inv hg with ⟨h1, h2⟩ | ⟨h1, h2⟩
  · obtain ⟨g1, g2⟩ := hy _ r h' h2 hb
    exact ⟨g1, fun X => guarded_of (s := ⟨s.tm, s.h.set b X⟩) h1 (fun _ => g2 X) (fun hx => by simp at hx)⟩
  · obtain ⟨g1, g2⟩ := hn _ r h' h2 hb
    exact ⟨g1, fun X => guarded_of (s := ⟨s.tm, s.h.set b X⟩) h1 (fun hx => by simp at hx) (fun _ => g2 X)⟩
theorem runL_frame (hf : CallFr call) {ops : List Oper} {K : Kt} (hK : KFr b K) : ∀ (l : List Oper), KsFr b fun s => runL P call ops l s K
  | [] => fun s r h' hr hb => hK .normal s r h' hr hb
  | o :: l => fun s r h' hr hb => by
    have ih := runL_frame (ops := ops) hf hK l
    exact guarded_frame (doOp_frame hf ih hK) ih s r h' hr hb

/-! a drawn one -/
def hset (b : Nat) (X : Blk) (H : Hist) : Hist := ⟨H.ls, H.xs.map fun x => (x.1, x.2.set b X)⟩
def HOld (b : Nat) (H : Hist) : Prop := ∀ x : Nat × Nat × Option Blk, x ∈ H.ls → x.2.1 ≠ b
theorem HStep.frame (hf : CallFr call) {ops : List Oper} {T : List (List Nat)} {base i : Nat} {tm : List Value} {H H1 : Hist} {h h1 : Heap} {fl : Option Value} {v : Value} (hs : HStep P call ops T base i tm H h fl v h1 H1) (hb : h[b]? = some deadBlk) (hlt : b < base) (hold : HOld b H) :
    h1[b]? = some deadBlk ∧ HOld b H1 ∧ ∀ X, HStep P call ops T base i tm (hset b X H) (h.set b X) fl v (h1.set b X) (hset b X H1) := by
  cases hs with
  | quiet hq => exact ⟨hb, hold, fun X => .quiet hq⟩
  | make ho hg hc hm =>
    refine ⟨by rw [set_at (by omega)]; exact hb, hold, fun X => ?_⟩
    rw [List.set_comm _ _ (by omega)]
    exact .make ho hg hc hm
  | @read o v c ho hg hc hr hv hbb hk =>
    have hne : b ≠ c := fun e => opL_live hr hv (e ▸ hb)
    refine ⟨hb, ?_, fun X => ?_⟩
    · intro x hx
      rcases List.mem_cons.1 hx with rfl | hx
      · exact Ne.symm hne
      · exact hold x hx
    · have := HStep.read (call := call) (H := hset b X H) ho hg hc hr (opL_frame hb hv X) hbb (fun x hx => ?_)
      · rw [set_at hne] at this; exact this
      · obtain ⟨y, hy, rfl⟩ := List.mem_map.1 hx
        simp only
        rw [set_at hne, set_at hne]
        exact hk y hy
  | act ho hg ha hk =>
    obtain ⟨f1, f2⟩ := ha.frame hf hb
    refine ⟨f1, hold, fun X => ?_⟩
    exact .act (H := hset b X H) ho hg (f2 X) fun x hx => by rw [set_at (Ne.symm (hold x hx))]; exact hk x hx
theorem killSlots_at : ∀ (n base : Nat) (h : Heap), b < base → (killSlots base n h)[b]? = h[b]?
  | 0, base, h, _ => rfl
  | n + 1, base, h, hb => by rw [killSlots, killSlots_at n base _ hb, set_at (by omega)]
theorem killSlots_swap (X : Blk) : ∀ (n base : Nat) (h : Heap), b < base → killSlots base n (h.set b X) = (killSlots base n h).set b X
  | 0, base, h, _ => rfl
  | n + 1, base, h, hb => by rw [killSlots, killSlots, List.set_comm _ _ (by omega), killSlots_swap X n base _ hb]
theorem RD.frame (hf : CallFr call) {ops : List Oper} {T : List (List Nat)} {base : Nat} {K : Kt} (hK : KFr b K) (hlt : b < base) {r : Ret} {h' : Heap} {L : List Nat} {p : Option Value} {H : Hist} {tm : List Value} {h : Heap} {R' : Ret × Heap} (hr : RD P call ops T base K R' L p H tm h) (hR : R' = (r, h')) :
    h[b]? = some deadBlk → HOld b H → h'[b]? = some deadBlk ∧ ∀ X, RD P call ops T base K (r, h'.set b X) L p (hset b X H) tm (h.set b X) := by
  induction hr with
  | done hk =>
    intro hb _
    subst hR
    obtain ⟨g1, g2⟩ := hK _ _ _ _ hk hb
    exact ⟨g1, fun X => .done (g2 X)⟩
  | @donep v H tm h hk =>
    intro hb _
    subst hR
    obtain ⟨g1, g2⟩ := hK _ _ _ _ hk (by simp only [panSt]; rw [killSlots_at _ _ _ hlt]; exact hb)
    refine ⟨g1, fun X => .donep ?_⟩
    have := g2 X
    simp only [panSt] at this ⊢
    rw [killSlots_swap X _ _ _ hlt]
    exact this
  | step hs hr ih =>
    intro hb ho
    obtain ⟨f1, f2, f3⟩ := hs.frame hf hb hlt ho
    obtain ⟨g1, g2⟩ := ih f1 f2
    exact ⟨g1, fun X => .step (f3 X) (g2 X)⟩

theorem regionK_frame (hf : CallFr call) {ops : List Oper} {draw : Bool} {K : Kt} (hK : KFr b K) : KsFr b fun s => regionK P call ops draw s K := by
  intro s r h' hr hb
  unfold regionK at hr
  cases draw with
  | false => exact runL_frame hf hK ops s r h' hr hb
  | true =>
    simp only [cond_true] at hr
    cases hd : drawOk P ops (ancs ops) (canon P ops (ancs ops)) with
    | false => rw [hd] at hr; simp at hr
    | true =>
      rw [hd] at hr
      simp only [cond_true] at hr
      have hlt := lt_dead hb
      rw [resv_eq] at hr
      obtain ⟨g1, g2⟩ := RD.frame hf hK hlt (RD.of_run _ _ _ _ _ hr) rfl (by simp only [List.getElem?_append_left hlt]; exact hb) (by intro x hx; simp [histOf] at hx)
      refine ⟨g1, fun X => ?_⟩
      simp only [regionK, cond_true, hd]
      have h3 := (g2 X).to_run _ ⟨[], []⟩ rfl (Nat.lt_succ_self _)
      simp only [List.length_set, resv_eq]
      simp only [List.set_append, if_pos hlt] at h3
      exact h3
theorem mask_h {l : Option (List Nat)} {s : St} : (maskS l s).h = s.h := by cases l <;> rfl
theorem mask_set {l : Option (List Nat)} {s : St} {X : Blk} : maskS l ⟨s.tm, s.h.set b X⟩ = ⟨(maskS l s).tm, (maskS l s).h.set b X⟩ := by cases l <;> rfl
theorem runK_frame (hf : CallFr call) {kp : Nat → Option (List Nat)} {n : Nat} : ∀ (c : Code) {K : Kt}, KFr b K → KsFr b fun s => runK P call kp n c s K
  | .skip, K, hK => fun s r h' hr hb => hK _ s r h' hr hb
  | .label _, K, hK => fun s r h' hr hb => hK _ s r h' hr hb
  | .ret, K, hK => fun s r h' hr hb => hK _ s r h' hr hb
  | .exit id, K, hK => fun s r h' hr hb => hK _ s r h' hr hb
  | .region id ops draw, K, hK => regionK_frame hf hK
  | .seq x y, K, hK => by
    have hy := runK_frame hf (kp := kp) (n := n) y hK
    refine fun s r h' hr hb => runK_frame hf x (K := fun e s' => match e with
      | .normal => runK P call kp n y (maskS (kp (firstReg y)) s') K
      | e => K e s') ?_ s r h' hr hb
    intro e s r h' hr hb
    cases e with
    | normal =>
      obtain ⟨g1, g2⟩ := hy _ r h' hr (by rw [mask_h]; exact hb)
      refine ⟨g1, fun X => ?_⟩
      simp only
      rw [mask_set]
      exact g2 X
    | exit id => exact hK _ _ _ _ hr hb
    | ret => exact hK _ _ _ _ hr hb
    | pan v => exact hK _ _ _ _ hr hb
  | .cond c x y, K, hK => by
    have hx := runK_frame hf (kp := kp) (n := n) x hK
    have hy := runK_frame hf (kp := kp) (n := n) y hK
    intro s r h' hr hb
    simp only [runK, Option.bind_eq_some_iff] at hr ⊢
    obtain ⟨v, hv, hr⟩ := hr
    unfold condV at hr
    split at hr
    · rename_i t
      cases t with
      | true =>
        obtain ⟨g1, g2⟩ := hx s r h' hr hb
        exact ⟨g1, fun X => ⟨_, hv, g2 X⟩⟩
      | false =>
        obtain ⟨g1, g2⟩ := hy s r h' hr hb
        exact ⟨g1, fun X => ⟨_, hv, g2 X⟩⟩
    · simp at hr
  | .block id c, K, hK => by
    refine fun s r h' hr hb => runK_frame hf c (K := fun e s' => match e with
      | .exit i => bif i == id then K .normal s' else K (.exit i) s'
      | e => K e s') ?_ s r h' hr hb
    intro e s r h' hr hb
    cases e with
    | normal => exact hK _ _ _ _ hr hb
    | exit i =>
      simp only at hr ⊢
      cases hi : i == id with
      | true => rw [hi] at hr; exact hK _ _ _ _ hr hb
      | false => rw [hi] at hr; exact hK _ _ _ _ hr hb
    | ret => exact hK _ _ _ _ hr hb
    | pan v => exact hK _ _ _ _ hr hb
  | .scope c, K, hK => runK_frame hf c hK
  | .loop c, K, hK => by
    have key : ∀ m, KsFr b fun s => iterK (runK P call kp n c) (maskS (kp (firstReg c))) m s K := by
      intro m
      induction m with
      | zero => intro s r h' hr; simp [iterK] at hr
      | succ m ih =>
        refine fun s r h' hr hb => runK_frame hf c (K := fun e s' => match e with
          | .normal => iterK (runK P call kp n c) (maskS (kp (firstReg c))) m (maskS (kp (firstReg c)) s') K
          | e => K e s') ?_ s r h' hr hb
        intro e s r h' hr hb
        cases e with
        | normal =>
          obtain ⟨g1, g2⟩ := ih _ r h' hr (by rw [mask_h]; exact hb)
          refine ⟨g1, fun X => ?_⟩
          simp only
          rw [mask_set]
          exact g2 X
        | exit id => exact hK _ _ _ _ hr hb
        | ret => exact hK _ _ _ _ hr hb
        | pan v => exact hK _ _ _ _ hr hb
    intro s r h' hr hb
    obtain ⟨g1, g2⟩ := key n _ r h' hr (by rw [mask_h]; exact hb)
    refine ⟨g1, fun X => ?_⟩
    simp only [runK]
    rw [mask_set]
    exact g2 X
  | .rangeFunc .., K, hK => fun s r h' hr hb => by simp [runK] at hr
  | .goto _, K, hK => fun s r h' hr hb => by simp [runK] at hr
  | .refuse _, K, hK => fun s r h' hr hb => by simp [runK] at hr

theorem aLoad_frame {t : TypeId} {x v : Value} {h : Heap} (hb : h[b]? = some deadBlk) (hl : aLoad P t h x = some v) (X : Blk) : aLoad P t (h.set b X) x = some v := by
  unfold aLoad at hl ⊢
  split at hl
  · rename_i c o
    split at hl
    · rename_i e cs own hc
      have hne := other_block hb hc rfl
      rw [set_at (Ne.symm hne), hc]
      exact hl
    · simp at hl
  · simp at hl
theorem resV_frame {tm : List Value} {h : Heap} (hb : h[b]? = some deadBlk) (X : Blk) : ∀ {l : List ResultVar} {vs : List Value}, resV P tm h l = some vs → resV P tm (h.set b X) l = some vs
  | [], vs, hr => hr
  | .tmp t :: l, vs, hr => by
    simp only [resV, Option.bind_eq_some_iff, Option.map_eq_some_iff] at hr ⊢
    obtain ⟨v, hv, us, hus, rfl⟩ := hr
    exact ⟨v, hv, us, resV_frame hb X hus, rfl⟩
  | .cell a t :: l, vs, hr => by
    simp only [resV, Option.bind_eq_some_iff, Option.map_eq_some_iff] at hr ⊢
    obtain ⟨p, hp, v, hv, us, hus, rfl⟩ := hr
    exact ⟨p, hp, v, aLoad_frame hb hv X, us, resV_frame hb X hus, rfl⟩
theorem endK_frame (fn : Func) : KFr b (endK P fn) := by
  have fin : ∀ (s : St) r h', ((resV P s.tm s.h fn.results.toList).bind retV).map (fun v => (Ret.ret v, s.h)) = some (r, h') → s.h[b]? = some deadBlk →
      h'[b]? = some deadBlk ∧ ∀ X, ((resV P s.tm (s.h.set b X) fn.results.toList).bind retV).map (fun v => (Ret.ret v, s.h.set b X)) = some (r, h'.set b X) := by
    intro s r h' hr hb
    simp only [Option.map_eq_some_iff, Option.bind_eq_some_iff, Prod.mk.injEq] at hr ⊢
    obtain ⟨v, ⟨vs, hvs, hv⟩, rfl, rfl⟩ := hr
    exact ⟨hb, fun X => ⟨v, ⟨vs, resV_frame hb X hvs, hv⟩, rfl, rfl⟩⟩
  intro e s r h' hr hb
  cases e with
  | normal => exact fin s r h' hr hb
  | ret => exact fin s r h' hr hb
  | exit id => simp [endK] at hr
  | pan v =>
    simp only [endK, Option.some.injEq, Prod.mk.injEq] at hr
    obtain ⟨rfl, rfl⟩ := hr
    exact ⟨hb, fun X => rfl⟩
theorem acall_frame {E : Env} (hext : ∀ g F, E.ext g = some F → CallFr fun _ => F) : ∀ n, CallFr (acall E n)
  | 0 => by intro g xs h r h' b hr; simp [acall] at hr
  | n + 1 => by
    intro g xs h r h' b hr hb
    simp only [acall] at hr ⊢
    split at hr
    · rename_i F hF
      exact hext g F hF g xs h r h' b hr hb
    · split at hr
      · rename_i fn hfn
        split at hr
        · rename_i c hc
          split at hr
          · rename_i hle
            obtain ⟨g1, g2⟩ := runK_frame (acall_frame hext n) c (endK_frame fn) _ r h' hr hb
            refine ⟨g1, fun X => ?_⟩
            rw [if_pos hle]
            exact g2 X
          · simp at hr
        · simp at hr
      · simp at hr
end
end Go.Am

namespace Go.Am
open Go
/-- Each operation of a code is of a form that the machine takes. -/
def CodeOk (P : Program) : Code → Prop
  | .region _ ops _ => ∀ o, o ∈ ops.toList → OperOk P o
  | .seq a b => CodeOk P a ∧ CodeOk P b
  | .cond _ a b => CodeOk P a ∧ CodeOk P b
  | .block _ b => CodeOk P b
  | .loop b => CodeOk P b
  | .scope b => CodeOk P b
  | _ => True
section
variable {P : Program} {w0 : World} {prot : Nat → Prop} {N : Nat} {call : CallF} {kp : Nat → Option (List Nat)} {n : Nat}

theorem KOk.defers {K : Kt} {r : Ret × Heap} {f : Ren} {a a' : Act} {Q : Exit → Act → World → Prop} (h : KOk P w0 prot N K r f a.defers Q) (hd : a'.defers = a.defers) : KOk P w0 prot N K r f a'.defers Q := by rw [hd]; exact h

theorem runK_sim (hm : P.follows .mixedOrders = true) (hfr : CallFr call) (hcall : CallOk P w0 prot call) {r : Ret × Heap} : ∀ (c : Code) (hc : CodeOk P c) (s : St) (K : Kt) (a : Act) (w : World) (f : Ren) (Q : Exit → Act → World → Prop),
    runK P call kp n c s K = some r → SR P w0 prot N f s a w → KOk P w0 prot N K r f a.defers Q → c.wp P Q a w
  | .skip, _, s, K, a, w, f, Q, hr, hs, hK => wp_skip (hK .normal .normal s a w f hr (Ext.refl _ f) .normal hs rfl)
  | .label _, _, s, K, a, w, f, Q, hr, hs, hK => wp_label (hK .normal .normal s a w f hr (Ext.refl _ f) .normal hs rfl)
  | .ret, _, s, K, a, w, f, Q, hr, hs, hK => wp_ret (hK .ret .ret s a w f hr (Ext.refl _ f) .ret hs rfl)
  | .exit id, _, s, K, a, w, f, Q, hr, hs, hK => wp_exit (hK (.exit id) (.exit id) s a w f hr (Ext.refl _ f) (.exit id) hs rfl)
  | .region id ops draw, hc, s, K, a, w, f, Q, hr, hs, hK => regionK_sim hm hcall hfr hc hr hs hK
  | .seq x y, hc, s, K, a, w, f, Q, hr, hs, hK => by
    refine wp_seq (runK_sim hm hfr hcall x hc.1 s _ a w f _ hr hs ?_)
    intro e e' s' a' w' f' hk hle hex hs' hd
    cases hex with
    | normal => exact runK_sim hm hfr hcall y hc.2 _ K a' w' f' Q hk (hs'.mask _) ((hK.le hle).defers hd)
    | exit id => exact hK _ _ s' a' w' f' hk hle (.exit id) hs' hd
    | ret => exact hK _ _ s' a' w' f' hk hle .ret hs' hd
    | pan v v' hv => exact hK _ _ s' a' w' f' hk hle (.pan v v' hv) hs' hd
  | .cond c x y, hc, s, K, a, w, f, Q, hr, hs, hK => by
    simp only [runK, Option.bind_eq_some_iff] at hr
    obtain ⟨v, hv, hr⟩ := hr
    have hvv := ev_sim hv hs.tm
    unfold condV at hr
    split at hr
    · rename_i b
      generalize hce : a.eval c = c' at hvv
      cases hvv
      refine wp_cond hce ?_
      cases b with
      | true => exact runK_sim hm hfr hcall x hc.1 s K a w f Q hr hs hK
      | false => exact runK_sim hm hfr hcall y hc.2 s K a w f Q hr hs hK
    · simp at hr
  | .block id c, hc, s, K, a, w, f, Q, hr, hs, hK => by
    refine wp_block (runK_sim hm hfr hcall c hc s _ a w f _ hr hs ?_)
    intro e e' s' a' w' f' hk hle hex hs' hd
    cases hex with
    | normal => exact hK _ _ s' a' w' f' hk hle .normal hs' hd
    | exit i =>
      simp only at hk
      simp only [Exit.inBlock]
      by_cases hi : i = id
      · subst hi
        rw [if_pos rfl]
        simp only [beq_self_eq_true, cond_true] at hk
        exact hK _ _ s' a' w' f' hk hle .normal hs' hd
      · rw [if_neg hi]
        have : (i == id) = false := by simpa using hi
        rw [this] at hk
        exact hK _ _ s' a' w' f' hk hle (.exit i) hs' hd
    | ret => exact hK _ _ s' a' w' f' hk hle .ret hs' hd
    | pan v v' hv => exact hK _ _ s' a' w' f' hk hle (.pan v v' hv) hs' hd
  | .scope c, hc, s, K, a, w, f, Q, hr, hs, hK => by
    refine wp_scope_straight (runK_sim hm hfr hcall c hc s K a w f _ hr hs ?_)
    intro e e' s' a' w' f' hk hle hex hs' hd
    have := hK e e' s' a' w' f' hk hle hex hs' hd
    cases hex <;> exact this
  | .loop c, hc, s, K, a, w, f, Q, hr, hs, hK => by
    have key : ∀ m (s : St) (a : Act) (w : World) (f : Ren), iterK (runK P call kp n c) (maskS (kp (firstReg c))) m s K = some r → SR P w0 prot N f s a w → KOk P w0 prot N K r f a.defers Q → Code.rounds P c Q m a w := by
      intro m
      induction m with
      | zero => intro s a w f hr _ _; simp [iterK] at hr
      | succ m ih =>
        intro s a w f hr hs hK
        rw [rounds_succ]
        refine runK_sim hm hfr hcall c hc s _ a w f _ hr hs ?_
        intro e e' s' a' w' f' hk hle hex hs' hd
        cases hex with
        | normal => exact ih _ a' w' f' hk (hs'.mask _) ((hK.le hle).defers hd)
        | exit id => exact hK _ _ s' a' w' f' hk hle (.exit id) hs' hd
        | ret => exact hK _ _ s' a' w' f' hk hle .ret hs' hd
        | pan v v' hv => exact hK _ _ s' a' w' f' hk hle (.pan v v' hv) hs' hd
    exact wp_loop_rounds n (key n _ a w f hr (hs.mask _) hK)

def resSem (tmps : Array Value) : ResultVar → Sem Value
  | .tmp t => pure (tmps.getD t undef)
  | .cell x t => do loadVar t (← asAddr (tmps.getD x undef))
theorem results_eq (fn : Func) (tmps : Array Value) : results fn tmps = (do
    let vs ← fn.results.mapM (resSem tmps)
    pure (if h : vs.size = 1 then vs[0] else .tuple vs)) := by
  have e : (resSem tmps) = (fun x => match x with
    | .tmp t => pure (tmps.getD t undef)
    | .cell a t => do loadVar t (← asAddr (tmps.getD a undef))) := by
    funext x; cases x <;> rfl
  rw [e]
  rfl
theorem resV_sim {f : Ren} {tm : List Value} {h : Heap} {a : Act} {w : World} (hs : Sim P f h w) (ht : VRs f tm a.tmps.toList) : ∀ {rs : List ResultVar} {vs : List Value}, resV P tm h rs = some vs →
    ∃ vs', (rs.mapM (resSem a.tmps)).run P w = .ok vs' w ∧ VRs f vs vs'
  | [], vs, hr => by simp [resV] at hr; subst hr; exact ⟨[], rfl, .nil⟩
  | .tmp t :: rs, vs, hr => by
    simp only [resV, Option.bind_eq_some_iff, Option.map_eq_some_iff] at hr
    obtain ⟨v, hv, us, hus, rfl⟩ := hr
    obtain ⟨us', h1, h2⟩ := resV_sim hs ht hus
    have hvv := ev_sim (f := f) (x := .tmp t) (v := v) hv ht
    refine ⟨a.tmps.getD t undef :: us', ?_, .cons hvv h2⟩
    simp only [List.mapM_cons, resSem, Sem.run_bind, Sem.run_pure, Result.andThen_ok, h1]
  | .cell x t :: rs, vs, hr => by
    simp only [resV, Option.bind_eq_some_iff, Option.map_eq_some_iff] at hr
    obtain ⟨p, hp, v, hv, us, hus, rfl⟩ := hr
    obtain ⟨us', h1, h2⟩ := resV_sim hs ht hus
    have hvp := ev_sim (f := f) (x := .tmp x) (v := p) hp ht
    obtain ⟨v', h3, h4, _⟩ := aLoad_sim hs hv hvp
    refine ⟨v' :: us', ?_, .cons h4 h2⟩
    have hpe : a.eval (.tmp x) = a.tmps.getD x undef := rfl
    rw [hpe] at h3 hvp
    generalize hq : a.tmps.getD x undef = q at h3 hvp
    have h5 : (do loadVar t (← asAddr q) : Sem Value).run P w = .ok v' w := by
      cases hvp <;> simp only [aLoad, reduceCtorEq] at hv
      simpa [Instr.loadAt, Instr.sureAddr, asAddr] using h3
    simp only [List.mapM_cons, resSem, Sem.run_bind] at h5 ⊢
    rw [hq, h5]
    simp only [Result.andThen_ok, h1, Sem.run_pure]

structure EnvOk (E : Env) (w0 : World) (prot : Nat → Prop) : Prop where
  mixed : E.P.follows .mixedOrders = true
  still : ∀ g F, E.ext g = some F → CallFr fun _ => F
  fn : ∀ g fn, E.fn g = some fn → E.P.funcs[g]? = some fn ∧ fn.name ≠ "runtime.NumGoroutine" ∧ ∀ c, fn.body = some c → CodeOk E.P c
  ext : ∀ g F, E.ext g = some F → ∀ xs h res, F xs h = some res → FnOk E.P g ∧ ∀ f w (xs' : Array Value), Inv E.P w0 prot f h w → VRs f xs xs'.toList → Calls E.P g xs' w (CR E.P w0 prot h.length f res)

theorem acall_ok {E : Env} (hE : EnvOk E w0 prot) : ∀ n, CallOk E.P w0 prot (acall E n)
  | 0 => by intro g xs h res hr; simp [acall] at hr
  | n + 1 => by
    intro g xs h res hr
    simp only [acall] at hr
    split at hr
    · rename_i F hF
      exact hE.ext g F hF xs h res hr
    · split at hr
      · rename_i fn hfn
        obtain ⟨h1, h2, h3⟩ := hE.fn g fn hfn
        split at hr
        · rename_i c hc
          split at hr
          · rename_i hle
            refine ⟨⟨fn, h1, h2, by rw [hc]; simp⟩, fun f w xs' hinv hxs => ?_⟩
            have hl := hxs.length
            refine calls_of_wp h1 hc ?_
            refine runK_sim (N := h.length) hE.mixed (acall_frame hE.still n) (acall_ok hE n) c (h3 c hc) _ _ _ w f _ hr ⟨hinv, ?_, Nat.le_refl _⟩ ?_
            · simp only [Array.toList_append, Array.toList_replicate]
              rw [show xs'.size = xs.length by rw [← Array.length_toList, hl]]
              refine hxs.append ?_
              have := VRs.replicate_any (f := f) (List.replicate (fn.ntmps - xs.length) undef)
              simpa [undefA] using this
            · intro e e' s a w' f' hk hle' hex hs hd
              have fin : ∀ vs v, resV E.P s.tm s.h fn.results.toList = some vs → retV vs = some v → res = (.ret v, s.h) →
                  ∃ v', (results fn a.tmps).run E.P w' = .ok v' w' ∧ CR E.P w0 prot h.length f res (.returned v') w' := by
                intro vs v hvs hv hres
                obtain ⟨vs', q1, q2⟩ := resV_sim hs.inv.sim hs.tm hvs
                have q1' : (fn.results.mapM (resSem a.tmps)).run E.P w' = .ok ⟨vs'⟩ w' := by
                  rw [Array.mapM_eq_mapM_toList]
                  simp only [Sem.run_map, q1, Result.andThen_ok]
                have hlen := q2.length
                rw [results_eq]
                simp only [Sem.run_bind, q1', Result.andThen_ok]
                unfold retV at hv
                split at hv
                · rename_i u
                  simp only [Option.some.injEq] at hv
                  subst hv
                  rcases vs' with _ | ⟨u', _ | ⟨u2, l⟩⟩
                  · simp at hlen
                  · cases q2 with
                    | cons hu _ =>
                      exact ⟨u', by simp, by rw [hres]; exact ⟨u', f', rfl, hle', hu, hs.inv, hs.len⟩⟩
                  · simp at hlen
                · rename_i hne
                  simp only [Option.some.injEq] at hv
                  subst hv
                  have hl1 : vs.length ≠ 1 := fun h1 => by
                    obtain ⟨u, rfl⟩ := List.length_eq_one_iff.1 h1
                    exact hne u rfl
                  refine ⟨.tuple ⟨vs'⟩, ?_, by rw [hres]; exact ⟨_, f', rfl, hle', .tuple _ _ q2 hl1, hs.inv, hs.len⟩⟩
                  have : ¬ (vs'.length = 1) := by omega
                  simp [this]
              cases hex with
              | normal =>
                simp only [endK, Option.map_eq_some_iff, Option.bind_eq_some_iff] at hk
                obtain ⟨v, ⟨vs, hvs, hv⟩, hres⟩ := hk
                obtain ⟨v', q1, q2⟩ := fin vs v hvs hv hres.symm
                exact ⟨hd, v', q1, q2⟩
              | ret =>
                simp only [endK, Option.map_eq_some_iff, Option.bind_eq_some_iff] at hk
                obtain ⟨v, ⟨vs, hvs, hv⟩, hres⟩ := hk
                obtain ⟨v', q1, q2⟩ := fin vs v hvs hv hres.symm
                exact ⟨hd, v', q1, q2⟩
              | exit id => simp [endK] at hk
              | pan v v' hv =>
                simp only [endK, Option.some.injEq] at hk
                subst hk
                exact ⟨hd, v', f', rfl, hle', hv, hs.inv, hs.len⟩
          · simp at hr
        · simp at hr
      · simp at hr
end
end Go.Am

namespace Go.Am
open Go

/-- Each end is an end of what comes behind. -/
def Tail (F : Kt → R) : Prop := ∀ K r, F K = some r → ∃ e s, K e s = some r ∧ ∀ K' r', K' e s = some r' → F K' = some r'
def CallLe (c c' : CallF) : Prop := ∀ g xs h r, c g xs h = some r → c' g xs h = some r
section
variable {P : Program} {call : CallF}

def Tail' (F : (St → R) → Kt → R) : Prop := ∀ k K r, F k K = some r → (∃ s, k s = some r ∧ ∀ k' K' r', k' s = some r' → F k' K' = some r') ∨ (∃ e s, K e s = some r ∧ ∀ k' K' r', K' e s = some r' → F k' K' = some r')
theorem doOp_tail {o : Oper} {s : St} {at_ : Option Nat} : Tail' fun k K => doOp P call at_ o s k K := by
  intro k K r hd
  simp only [doOp] at hd ⊢
  cases hc : cls P o.op with
  | P =>
    simp only [hc, Option.bind_eq_some_iff] at hd ⊢
    obtain ⟨v, hv, hd⟩ := hd
    exact .inl ⟨_, hd, fun k' K' r' h => ⟨v, hv, h⟩⟩
  | L =>
    simp only [hc, Option.bind_eq_some_iff] at hd ⊢
    obtain ⟨v, hv, hd⟩ := hd
    exact .inl ⟨_, hd, fun k' K' r' h => ⟨v, hv, h⟩⟩
  | A =>
    simp only [hc, Option.bind_eq_some_iff] at hd ⊢
    obtain ⟨v, hv, hd⟩ := hd
    cases at_ with
    | none => exact .inl ⟨_, hd, fun k' K' r' h => ⟨v, hv, h⟩⟩
    | some i => exact .inl ⟨_, hd, fun k' K' r' h => ⟨v, hv, h⟩⟩
  | X =>
    simp only [hc, Option.bind_eq_some_iff] at hd ⊢
    obtain ⟨⟨x, h1⟩, hv, hd⟩ := hd
    cases x with
    | val v => exact .inl ⟨_, hd, fun k' K' r' h => ⟨_, hv, h⟩⟩
    | skip => exact .inl ⟨_, hd, fun k' K' r' h => ⟨_, hv, h⟩⟩
    | pan v => exact .inr ⟨_, _, hd, fun k' K' r' h => ⟨_, hv, h⟩⟩
  | C =>
    simp only [hc, Option.bind_eq_some_iff] at hd ⊢
    obtain ⟨c, hv, hd⟩ := hd
    unfold retK at hd
    split at hd
    · rename_i v h1 hr
      exact .inl ⟨_, hd, fun k' K' r' h => ⟨_, hv, by rw [hr]; exact h⟩⟩
    · rename_i v h1 hr
      exact .inr ⟨_, _, hd, fun k' K' r' h => ⟨_, hv, by rw [hr]; exact h⟩⟩
    · simp at hd
  | no => simp [hc] at hd
theorem guarded_tail {ops : List Oper} {o : Oper} {s : St} {k k' : St → R} {r : Ret × Heap} (h : guarded ops o s k k' = some r) : (k s = some r ∧ ∀ q q' r', q s = some r' → guarded ops o s q q' = some r') ∨
    (∃ s', k' s' = some r ∧ ∀ q q' r', q' s' = some r' → guarded ops o s q q' = some r') := by
  rcases guarded_inv h with ⟨h1, h2⟩ | ⟨h1, h2⟩
  · exact .inl ⟨h2, fun q q' r' hq => guarded_of h1 (fun _ => hq) (fun hx => by simp at hx)⟩
  · exact .inr ⟨_, h2, fun q q' r' hq => guarded_of h1 (fun hx => by simp at hx) (fun _ => hq)⟩
theorem runL_tail {ops : List Oper} : ∀ (l : List Oper) (s : St), Tail fun K => runL P call ops l s K
  | [], s => fun K r h => ⟨.normal, s, h, fun K' r' h' => h'⟩
  | o :: l, s => fun K r h => by
    simp only [runL] at h ⊢
    rcases guarded_tail h with ⟨h1, h2⟩ | ⟨s', h1, h2⟩
    · rcases doOp_tail _ _ _ h1 with ⟨s2, h3, h4⟩ | ⟨e, s2, h3, h4⟩
      · obtain ⟨e, s3, h5, h6⟩ := runL_tail l s2 K r h3
        exact ⟨e, s3, h5, fun K' r' h' => h2 _ _ _ (h4 _ _ _ (h6 K' r' h'))⟩
      · exact ⟨e, s2, h3, fun K' r' h' => h2 _ _ _ (h4 _ _ _ h')⟩
    · obtain ⟨e, s3, h5, h6⟩ := runL_tail l s' K r h1
      exact ⟨e, s3, h5, fun K' r' h' => h2 _ _ _ (h6 K' r' h')⟩
theorem RD.tail {ops : List Oper} {T : List (List Nat)} {base : Nat} {K : Kt} {r : Ret × Heap} {L : List Nat} {p : Option Value} {H : Hist} {tm : List Value} {h : Heap} (hr : RD P call ops T base K r L p H tm h) :
    ∃ e s, K e s = some r ∧ ∀ K' r', K' e s = some r' → RD P call ops T base K' r' L p H tm h := by
  induction hr with
  | done hk => exact ⟨_, _, hk, fun K' r' h' => .done h'⟩
  | donep hk => exact ⟨_, _, hk, fun K' r' h' => .donep h'⟩
  | step hs hr ih =>
    obtain ⟨e, s, h1, h2⟩ := ih
    exact ⟨e, s, h1, fun K' r' h' => .step hs (h2 K' r' h')⟩
theorem regionK_tail {ops : List Oper} {draw : Bool} {s : St} : Tail fun K => regionK P call ops draw s K := by
  intro K r hr
  cases draw with
  | false => exact runL_tail ops s K r hr
  | true =>
    simp only [regionK, cond_true] at hr ⊢
    cases hd : drawOk P ops (ancs ops) (canon P ops (ancs ops)) with
    | false => rw [hd] at hr; simp at hr
    | true =>
      rw [hd] at hr
      obtain ⟨e, s', h1, h2⟩ := (RD.of_run _ _ _ _ _ hr).tail
      exact ⟨e, s', h1, fun K' r' h' => (h2 K' r' h').to_run _ ⟨[], []⟩ rfl (Nat.lt_succ_self _)⟩
theorem iterK_tail {f : St → Kt → R} {m : St → St} (hf : ∀ s, Tail (f s)) : ∀ (n : Nat) (s : St), Tail fun K => iterK f m n s K
  | 0, s => fun K r h => by simp [iterK] at h
  | n + 1, s => fun K r h => by
    simp only [iterK] at h ⊢
    obtain ⟨e, s', h1, h2⟩ := hf s _ r h
    cases e with
    | normal =>
      obtain ⟨e, s2, h3, h4⟩ := iterK_tail hf n (m s') K r h1
      exact ⟨e, s2, h3, fun K' r' h' => h2 _ _ (h4 K' r' h')⟩
    | exit id => exact ⟨_, _, h1, fun K' r' h' => h2 _ _ h'⟩
    | ret => exact ⟨_, _, h1, fun K' r' h' => h2 _ _ h'⟩
    | pan v => exact ⟨_, _, h1, fun K' r' h' => h2 _ _ h'⟩

/-! with more steps and more calls -/
theorem Acts.more {c c' : CallF} (hc : CallLe c c') {o : Oper} {tm : List Value} {h h' : Heap} {fl : Option Value} {v : Value} (ha : Acts P c o tm h fl v h') : Acts P c' o tm h fl v h' := by
  cases ha with
  | val hcl hx => exact .val hcl hx
  | skip hcl hx => exact .skip hcl hx
  | pan hcl hx => exact .pan hcl hx
  | ret hcl hx hr => exact .ret hcl hx (hc _ _ _ _ hr)
  | thrown hcl hx hr => exact .thrown hcl hx (hc _ _ _ _ hr)
theorem doOp_more {c c' : CallF} (hc : CallLe c c') {o : Oper} {s : St} {k k' : St → R} {K : Kt} {r : Ret × Heap} (hk : ∀ s r, k s = some r → k' s = some r) (hd : doOp P c none o s k K = some r) : doOp P c' none o s k' K = some r := by
  cases hl : loud (cls P o.op) with
  | true =>
    obtain ⟨fl, v, h', ha, h1⟩ := doOp_acts hl hd
    refine doOp_of_acts (ha.more hc) ?_
    cases fl with
    | none => exact hk _ _ h1
    | some u => exact h1
  | false =>
    simp only [doOp] at hd ⊢
    cases hcl : cls P o.op <;> rw [hcl] at hl <;> simp only [loud, Bool.true_eq_false] at hl <;> simp only [hcl, Option.bind_eq_some_iff, reduceCtorEq] at hd ⊢
    all_goals
      obtain ⟨v, hv, hd⟩ := hd
      exact ⟨v, hv, hk _ _ hd⟩
theorem runL_more {c c' : CallF} (hc : CallLe c c') {ops : List Oper} {K : Kt} : ∀ (l : List Oper) (s : St) (r : Ret × Heap), runL P c ops l s K = some r → runL P c' ops l s K = some r
  | [], s, r, h => h
  | o :: l, s, r, h => by
    simp only [runL] at h ⊢
    rcases guarded_tail h with ⟨h1, h2⟩ | ⟨s', h1, h2⟩
    · rcases guarded_inv h with ⟨g, h3⟩ | ⟨g, h3⟩
      · exact guarded_of g (fun _ => doOp_more hc (fun s r hh => runL_more hc l s r hh) h3) (fun hx => by simp at hx)
      · exact guarded_of g (fun hx => by simp at hx) (fun _ => runL_more hc l _ r h3)
    · rcases guarded_inv h with ⟨g, h3⟩ | ⟨g, h3⟩
      · exact guarded_of g (fun _ => doOp_more hc (fun s r hh => runL_more hc l s r hh) h3) (fun hx => by simp at hx)
      · exact guarded_of g (fun hx => by simp at hx) (fun _ => runL_more hc l _ r h3)
theorem RD.more {c c' : CallF} (hc : CallLe c c') {ops : List Oper} {T : List (List Nat)} {base : Nat} {K : Kt} {r : Ret × Heap} {L : List Nat} {p : Option Value} {H : Hist} {tm : List Value} {h : Heap} (hr : RD P c ops T base K r L p H tm h) : RD P c' ops T base K r L p H tm h := by
  induction hr with
  | done hk => exact .done hk
  | donep hk => exact .donep hk
  | step hs hr ih =>
    refine .step ?_ ih
    cases hs with
    | quiet hq => exact .quiet hq
    | make ho hg hcl hm => exact .make ho hg hcl hm
    | read ho hg hcl hrd hv hb hk => exact .read ho hg hcl hrd hv hb hk
    | act ho hg ha hk => exact .act ho hg (ha.more hc) hk
theorem regionK_more {c c' : CallF} (hc : CallLe c c') {ops : List Oper} {draw : Bool} {s : St} {K : Kt} {r : Ret × Heap} (hr : regionK P c ops draw s K = some r) : regionK P c' ops draw s K = some r := by
  cases draw with
  | false => exact runL_more hc ops s r hr
  | true =>
    simp only [regionK, cond_true] at hr ⊢
    cases hd : drawOk P ops (ancs ops) (canon P ops (ancs ops)) with
    | false => rw [hd] at hr; simp at hr
    | true =>
      rw [hd] at hr
      exact ((RD.of_run _ _ _ _ _ hr).more hc).to_run _ ⟨[], []⟩ rfl (Nat.lt_succ_self _)
end
end Go.Am

namespace Go.Am
open Go
section
variable {P : Program} {call : CallF} {kp : Nat → Option (List Nat)}

theorem iterK_up {f : St → Kt → R} {m : St → St} (hf : ∀ s, Tail (f s)) : ∀ (n k : Nat) (s : St) (K : Kt) (r : Ret × Heap), n ≤ k → iterK f m n s K = some r → iterK f m k s K = some r
  | 0, k, s, K, r, _, h => by simp [iterK] at h
  | n + 1, 0, s, K, r, hk, h => by omega
  | n + 1, k + 1, s, K, r, hk, h => by
    simp only [iterK] at h ⊢
    obtain ⟨e, s', h1, h2⟩ := hf s _ r h
    cases e with
    | normal => exact h2 _ _ (iterK_up hf n k (m s') K r (by omega) h1)
    | exit id => exact h2 _ _ h1
    | ret => exact h2 _ _ h1
    | pan v => exact h2 _ _ h1
open Classical in
noncomputable def iterW (f : St → Kt → R) (m : St → St) (s : St) (K : Kt) : R :=
  if h : ∃ r, ∃ n, iterK f m n s K = some r then some h.choose else none
theorem iterW_inv {f : St → Kt → R} {m : St → St} {s : St} {K : Kt} {r : Ret × Heap} (h : iterW f m s K = some r) : ∃ n, iterK f m n s K = some r := by
  unfold iterW at h
  split at h
  · rename_i hx
    cases h
    exact hx.choose_spec
  · simp at h
theorem iterW_of {f : St → Kt → R} {m : St → St} (hf : ∀ s, Tail (f s)) {s : St} {K : Kt} {r : Ret × Heap} {n : Nat} (h : iterK f m n s K = some r) : iterW f m s K = some r := by
  unfold iterW
  have hx : ∃ r, ∃ n, iterK f m n s K = some r := ⟨r, n, h⟩
  rw [dif_pos hx]
  obtain ⟨k, hk⟩ := hx.choose_spec
  have h1 := iterK_up hf n (n + k) s K r (by omega) h
  have h2 := iterK_up hf k (n + k) s K _ (by omega) hk
  rw [h1] at h2
  exact h2.symm
theorem iterW_tail {f : St → Kt → R} {m : St → St} (hf : ∀ s, Tail (f s)) (s : St) : Tail fun K => iterW f m s K := by
  intro K r h
  obtain ⟨n, hn⟩ := iterW_inv h
  obtain ⟨e, s', h1, h2⟩ := iterK_tail hf n s K r hn
  exact ⟨e, s', h1, fun K' r' h' => iterW_of hf (h2 K' r' h')⟩
theorem iterW_step {f : St → Kt → R} {m : St → St} (hf : ∀ s, Tail (f s)) {s : St} {K : Kt} {r : Ret × Heap} (h : f s (fun e s' => match e with
    | .normal => iterW f m (m s') K
    | e => K e s') = some r) : iterW f m s K = some r := by
  obtain ⟨e, s', h1, h2⟩ := hf s _ r h
  cases e with
  | normal =>
    obtain ⟨n, hn⟩ := iterW_inv h1
    exact iterW_of hf (n := n + 1) (h2 _ _ hn)
  | exit id => exact iterW_of hf (n := 1) (h2 _ _ h1)
  | ret => exact iterW_of hf (n := 1) (h2 _ _ h1)
  | pan v => exact iterW_of hf (n := 1) (h2 _ _ h1)

noncomputable def runW (P : Program) (call : CallF) (kp : Nat → Option (List Nat)) : Code → St → Kt → R
  | .skip, s, K => K .normal s
  | .label _, s, K => K .normal s
  | .ret, s, K => K .ret s
  | .exit id, s, K => K (.exit id) s
  | .seq a b, s, K => runW P call kp a s fun e s' => match e with
    | .normal => runW P call kp b (maskS (kp (firstReg b)) s') K
    | e => K e s'
  | .cond c t e, s, K => (ev s.tm c).bind fun v => condV v (runW P call kp t s K) (runW P call kp e s K)
  | .block id b, s, K => runW P call kp b s fun e s' => match e with
    | .exit i => bif i == id then K .normal s' else K (.exit i) s'
    | e => K e s'
  | .scope b, s, K => runW P call kp b s K
  | .loop b, s, K => iterW (runW P call kp b) (maskS (kp (firstReg b))) (maskS (kp (firstReg b)) s) K
  | .region _ ops draw, s, K => regionK P call ops.toList draw s K
  | _, _, _ => none

theorem runW_tail : ∀ (c : Code) (s : St), Tail (runW P call kp c s)
  | .skip, s => fun K r h => ⟨_, _, h, fun K' r' h' => h'⟩
  | .label _, s => fun K r h => ⟨_, _, h, fun K' r' h' => h'⟩
  | .ret, s => fun K r h => ⟨_, _, h, fun K' r' h' => h'⟩
  | .exit id, s => fun K r h => ⟨_, _, h, fun K' r' h' => h'⟩
  | .region _ ops draw, s => regionK_tail
  | .scope b, s => runW_tail b s
  | .loop b, s => iterW_tail (runW_tail b) _
  | .seq a b, s => fun K r h => by
    simp only [runW] at h ⊢
    obtain ⟨e, s', h1, h2⟩ := runW_tail a s _ r h
    cases e with
    | normal =>
      obtain ⟨e, s2, h3, h4⟩ := runW_tail b _ K r h1
      exact ⟨e, s2, h3, fun K' r' h' => h2 _ _ (h4 K' r' h')⟩
    | exit id => exact ⟨_, _, h1, fun K' r' h' => h2 _ _ h'⟩
    | ret => exact ⟨_, _, h1, fun K' r' h' => h2 _ _ h'⟩
    | pan v => exact ⟨_, _, h1, fun K' r' h' => h2 _ _ h'⟩
  | .cond c x y, s => fun K r h => by
    simp only [runW, Option.bind_eq_some_iff] at h ⊢
    obtain ⟨v, hv, h⟩ := h
    unfold condV at h
    split at h
    · rename_i b
      cases b with
      | true =>
        obtain ⟨e, s2, h3, h4⟩ := runW_tail x s K r h
        exact ⟨e, s2, h3, fun K' r' h' => ⟨_, hv, h4 K' r' h'⟩⟩
      | false =>
        obtain ⟨e, s2, h3, h4⟩ := runW_tail y s K r h
        exact ⟨e, s2, h3, fun K' r' h' => ⟨_, hv, h4 K' r' h'⟩⟩
    · simp at h
  | .block id c, s => fun K r h => by
    simp only [runW] at h ⊢
    obtain ⟨e, s', h1, h2⟩ := runW_tail c s _ r h
    cases e with
    | normal => exact ⟨_, _, h1, fun K' r' h' => h2 _ _ h'⟩
    | exit i =>
      simp only at h1
      cases hi : i == id with
      | true => rw [hi] at h1; exact ⟨_, _, h1, fun K' r' h' => h2 _ _ (by simp only [hi]; exact h')⟩
      | false => rw [hi] at h1; exact ⟨_, _, h1, fun K' r' h' => h2 _ _ (by simp only [hi]; exact h')⟩
    | ret => exact ⟨_, _, h1, fun K' r' h' => h2 _ _ h'⟩
    | pan v => exact ⟨_, _, h1, fun K' r' h' => h2 _ _ h'⟩
  | .rangeFunc .., s => fun K r h => by simp [runW] at h
  | .goto _, s => fun K r h => by simp [runW] at h
  | .refuse _, s => fun K r h => by simp [runW] at h
theorem runK_tail {n : Nat} : ∀ (c : Code) (s : St), Tail (runK P call kp n c s)
  | .skip, s => fun K r h => ⟨_, _, h, fun K' r' h' => h'⟩
  | .label _, s => fun K r h => ⟨_, _, h, fun K' r' h' => h'⟩
  | .ret, s => fun K r h => ⟨_, _, h, fun K' r' h' => h'⟩
  | .exit id, s => fun K r h => ⟨_, _, h, fun K' r' h' => h'⟩
  | .region _ ops draw, s => regionK_tail
  | .scope b, s => runK_tail b s
  | .loop b, s => iterK_tail (runK_tail b) _ _
  | .seq a b, s => fun K r h => by
    simp only [runK] at h ⊢
    obtain ⟨e, s', h1, h2⟩ := runK_tail a s _ r h
    cases e with
    | normal =>
      obtain ⟨e, s2, h3, h4⟩ := runK_tail b _ K r h1
      exact ⟨e, s2, h3, fun K' r' h' => h2 _ _ (h4 K' r' h')⟩
    | exit id => exact ⟨_, _, h1, fun K' r' h' => h2 _ _ h'⟩
    | ret => exact ⟨_, _, h1, fun K' r' h' => h2 _ _ h'⟩
    | pan v => exact ⟨_, _, h1, fun K' r' h' => h2 _ _ h'⟩
  | .cond c x y, s => fun K r h => by
    simp only [runK, Option.bind_eq_some_iff] at h ⊢
    obtain ⟨v, hv, h⟩ := h
    unfold condV at h
    split at h
    · rename_i b
      cases b with
      | true =>
        obtain ⟨e, s2, h3, h4⟩ := runK_tail x s K r h
        exact ⟨e, s2, h3, fun K' r' h' => ⟨_, hv, h4 K' r' h'⟩⟩
      | false =>
        obtain ⟨e, s2, h3, h4⟩ := runK_tail y s K r h
        exact ⟨e, s2, h3, fun K' r' h' => ⟨_, hv, h4 K' r' h'⟩⟩
    · simp at h
  | .block id c, s => fun K r h => by
    simp only [runK] at h ⊢
    obtain ⟨e, s', h1, h2⟩ := runK_tail c s _ r h
    cases e with
    | normal => exact ⟨_, _, h1, fun K' r' h' => h2 _ _ h'⟩
    | exit i =>
      simp only at h1
      cases hi : i == id with
      | true => rw [hi] at h1; exact ⟨_, _, h1, fun K' r' h' => h2 _ _ (by simp only [hi]; exact h')⟩
      | false => rw [hi] at h1; exact ⟨_, _, h1, fun K' r' h' => h2 _ _ (by simp only [hi]; exact h')⟩
    | ret => exact ⟨_, _, h1, fun K' r' h' => h2 _ _ h'⟩
    | pan v => exact ⟨_, _, h1, fun K' r' h' => h2 _ _ h'⟩
  | .rangeFunc .., s => fun K r h => by simp [runK] at h
  | .goto _, s => fun K r h => by simp [runK] at h
  | .refuse _, s => fun K r h => by simp [runK] at h

/-- More steps, more calls, more behind. -/
theorem runK_more {c c' : CallF} (hc : CallLe c c') {n k : Nat} (hn : n ≤ k) : ∀ (x : Code) (s : St) (K K' : Kt) (r : Ret × Heap), (∀ e s r, K e s = some r → K' e s = some r) → runK P c kp n x s K = some r → runK P c' kp k x s K' = some r
  | .skip, s, K, K', r, hK, h => hK _ _ _ h
  | .label _, s, K, K', r, hK, h => hK _ _ _ h
  | .ret, s, K, K', r, hK, h => hK _ _ _ h
  | .exit id, s, K, K', r, hK, h => hK _ _ _ h
  | .region _ ops draw, s, K, K', r, hK, h => by
    obtain ⟨e, s', h1, h2⟩ := regionK_tail K r h
    exact regionK_more hc (h2 _ _ (hK _ _ _ h1))
  | .scope b, s, K, K', r, hK, h => runK_more hc hn b s K K' r hK h
  | .loop b, s, K, K', r, hK, h => by
    have key : ∀ i s r, iterK (runK P c kp n b) (maskS (kp (firstReg b))) i s K = some r → iterK (runK P c' kp k b) (maskS (kp (firstReg b))) i s K' = some r := by
      intro i
      induction i with
      | zero => intro s r h; simp [iterK] at h
      | succ i ih =>
        intro s r h
        refine runK_more hc hn b s _ _ r ?_ h
        intro e s' r' h'
        cases e with
        | normal => exact ih _ _ h'
        | exit id => exact hK _ _ _ h'
        | ret => exact hK _ _ _ h'
        | pan v => exact hK _ _ _ h'
    exact iterK_up (runK_tail b) n k _ _ _ hn (key n _ r h)
  | .seq a b, s, K, K', r, hK, h => by
    refine runK_more hc hn a s _ _ r ?_ h
    intro e s' r' h'
    cases e with
    | normal => exact runK_more hc hn b _ K K' r' hK h'
    | exit id => exact hK _ _ _ h'
    | ret => exact hK _ _ _ h'
    | pan v => exact hK _ _ _ h'
  | .cond g x y, s, K, K', r, hK, h => by
    simp only [runK, Option.bind_eq_some_iff] at h ⊢
    obtain ⟨v, hv, h⟩ := h
    refine ⟨v, hv, ?_⟩
    unfold condV at h ⊢
    split at h
    · rename_i b
      cases b with
      | true => exact runK_more hc hn x s K K' r hK h
      | false => exact runK_more hc hn y s K K' r hK h
    · simp at h
  | .block id b, s, K, K', r, hK, h => by
    refine runK_more hc hn b s _ _ r ?_ h
    intro e s' r' h'
    cases e with
    | normal => exact hK _ _ _ h'
    | exit i =>
      simp only at h' ⊢
      cases hi : i == id with
      | true => rw [hi] at h'; exact hK _ _ _ h'
      | false => rw [hi] at h'; exact hK _ _ _ h'
    | ret => exact hK _ _ _ h'
    | pan v => exact hK _ _ _ h'
  | .rangeFunc .., s, K, K', r, hK, h => by simp [runK] at h
  | .goto _, s, K, K', r, hK, h => by simp [runK] at h
  | .refuse _, s, K, K', r, hK, h => by simp [runK] at h
end

theorem acall_up (E : Env) : ∀ (n k : Nat), n ≤ k → CallLe (acall E n) (acall E k)
  | 0, k, _ => fun g xs h r hr => by simp [acall] at hr
  | n + 1, 0, hn => by omega
  | n + 1, k + 1, hn => fun g xs h r hr => by
    simp only [acall] at hr ⊢
    split at hr
    · exact hr
    · split at hr
      · split at hr
        · split at hr
          · rename_i hle
            rw [if_pos hle]
            exact runK_more (acall_up E n k (by omega)) (by omega) _ _ _ _ _ (fun _ _ _ h => h) hr
          · simp at hr
        · simp at hr
      · simp at hr
open Classical in
noncomputable def callW (E : Env) : CallF := fun g xs h => if hx : ∃ r, ∃ n, acall E n g xs h = some r then some hx.choose else none
theorem callW_inv {E : Env} {g : FuncId} {xs : List Value} {h : Heap} {r : Ret × Heap} (hr : callW E g xs h = some r) : ∃ n, acall E n g xs h = some r := by
  unfold callW at hr
  split at hr
  · rename_i hx
    cases hr
    exact hx.choose_spec
  · simp at hr
theorem callW_of {E : Env} {g : FuncId} {xs : List Value} {h : Heap} {r : Ret × Heap} {n : Nat} (hr : acall E n g xs h = some r) : callW E g xs h = some r := by
  unfold callW
  have hx : ∃ r, ∃ n, acall E n g xs h = some r := ⟨r, n, hr⟩
  rw [dif_pos hx]
  obtain ⟨k, hk⟩ := hx.choose_spec
  have h1 := acall_up E n (n + k) (by omega) _ _ _ _ hr
  have h2 := acall_up E k (n + k) (by omega) _ _ _ _ hk
  rw [h1] at h2
  exact h2.symm
theorem acall_callW (E : Env) (n : Nat) : CallLe (acall E n) (callW E) := fun g xs h r hr => callW_of hr

section
variable {E : Env} {kp : Nat → Option (List Nat)}
theorem runL_calls {ops : List Oper} {K : Kt} : ∀ (l : List Oper) (s : St) (r : Ret × Heap), runL E.P (callW E) ops l s K = some r → ∃ n, runL E.P (acall E n) ops l s K = some r
  | [], s, r, h => ⟨0, h⟩
  | o :: l, s, r, h => by
    simp only [runL] at h
    rcases guarded_inv h with ⟨g, h3⟩ | ⟨g, h3⟩
    · cases hl : loud (cls E.P o.op) with
      | true =>
        obtain ⟨fl, v, h', ha, h1⟩ := doOp_acts hl h3
        have ha' : ∃ n, Acts E.P (acall E n) o s.tm s.h fl v h' := by
          cases ha with
          | val hcl hx => exact ⟨0, .val hcl hx⟩
          | skip hcl hx => exact ⟨0, .skip hcl hx⟩
          | pan hcl hx => exact ⟨0, .pan hcl hx⟩
          | ret hcl hx hr => obtain ⟨n, hn⟩ := callW_inv hr; exact ⟨n, .ret hcl hx hn⟩
          | thrown hcl hx hr => obtain ⟨n, hn⟩ := callW_inv hr; exact ⟨n, .thrown hcl hx hn⟩
        obtain ⟨n, hn⟩ := ha'
        cases fl with
        | none =>
          obtain ⟨k, hk⟩ := runL_calls l _ r h1
          refine ⟨n + k, ?_⟩
          simp only [runL]
          refine guarded_of g (fun _ => doOp_of_acts (hn.more (acall_up E n (n + k) (by omega))) ?_) (fun hx => by simp at hx)
          exact runL_more (acall_up E k (n + k) (by omega)) l _ r hk
        | some u =>
          refine ⟨n, ?_⟩
          simp only [runL]
          exact guarded_of g (fun _ => doOp_of_acts hn h1) (fun hx => by simp at hx)
      | false =>
        rcases doOp_tail _ _ _ h3 with ⟨s2, h4, h5⟩ | ⟨e, s2, h4, h5⟩
        · obtain ⟨k, hk⟩ := runL_calls l s2 r h4
          refine ⟨k, ?_⟩
          simp only [runL]
          refine guarded_of g (fun _ => ?_) (fun hx => by simp at hx)
          have h6 := h5 (fun s => runL E.P (acall E k) ops l s K) K r hk
          simp only [doOp] at h6 ⊢
          cases hcl : cls E.P o.op <;> rw [hcl] at hl <;> simp only [loud, Bool.true_eq_false] at hl <;> simp only [hcl] at h6 ⊢
          all_goals exact h6
        · simp only [doOp] at h3
          refine ⟨0, ?_⟩
          simp only [runL]
          refine guarded_of g (fun _ => ?_) (fun hx => by simp at hx)
          have h6 := h5 (fun s => runL E.P (acall E 0) ops l s K) K r h4
          simp only [doOp] at h6 ⊢
          cases hcl : cls E.P o.op <;> rw [hcl] at hl <;> simp only [loud, Bool.true_eq_false] at hl <;> simp only [hcl] at h6 ⊢
          all_goals exact h6
    · obtain ⟨k, hk⟩ := runL_calls l _ r h3
      exact ⟨k, guarded_of g (fun hx => by simp at hx) (fun _ => hk)⟩
theorem RD.calls {ops : List Oper} {T : List (List Nat)} {base : Nat} {K : Kt} {r : Ret × Heap} {L : List Nat} {p : Option Value} {H : Hist} {tm : List Value} {h : Heap} (hr : RD E.P (callW E) ops T base K r L p H tm h) : ∃ n, RD E.P (acall E n) ops T base K r L p H tm h := by
  induction hr with
  | done hk => exact ⟨0, .done hk⟩
  | donep hk => exact ⟨0, .donep hk⟩
  | step hs hr ih =>
    obtain ⟨k, hk⟩ := ih
    cases hs with
    | quiet hq => exact ⟨k, .step (.quiet hq) hk⟩
    | make ho hg hcl hm => exact ⟨k, .step (.make ho hg hcl hm) hk⟩
    | read ho hg hcl hrd hv hb hck => exact ⟨k, .step (.read ho hg hcl hrd hv hb hck) hk⟩
    | act ho hg ha hck =>
      cases ha with
      | val hcl hx => exact ⟨k, .step (.act ho hg (.val hcl hx) hck) hk⟩
      | skip hcl hx => exact ⟨k, .step (.act ho hg (.skip hcl hx) hck) hk⟩
      | pan hcl hx => exact ⟨k, .step (.act ho hg (.pan hcl hx) hck) hk⟩
      | ret hcl hx hr =>
        obtain ⟨n, hn⟩ := callW_inv hr
        exact ⟨n + k, .step (.act ho hg (.ret hcl hx (acall_up E n (n + k) (by omega) _ _ _ _ hn)) hck) (hk.more (acall_up E k (n + k) (by omega)))⟩
      | thrown hcl hx hr =>
        obtain ⟨n, hn⟩ := callW_inv hr
        exact ⟨n + k, .step (.act ho hg (.thrown hcl hx (acall_up E n (n + k) (by omega) _ _ _ _ hn)) hck) (hk.more (acall_up E k (n + k) (by omega)))⟩
theorem regionK_calls {ops : List Oper} {draw : Bool} {s : St} {K : Kt} {r : Ret × Heap} (hr : regionK E.P (callW E) ops draw s K = some r) : ∃ n, regionK E.P (acall E n) ops draw s K = some r := by
  cases draw with
  | false => exact runL_calls ops s r hr
  | true =>
    simp only [regionK, cond_true] at hr ⊢
    cases hd : drawOk E.P ops (ancs ops) (canon E.P ops (ancs ops)) with
    | false => rw [hd] at hr; simp at hr
    | true =>
      rw [hd] at hr
      obtain ⟨n, hn⟩ := (RD.of_run _ _ _ _ _ hr).calls
      exact ⟨n, hn.to_run _ ⟨[], []⟩ rfl (Nat.lt_succ_self _)⟩

theorem runW_calls : ∀ (c : Code) (s : St) (K : Kt) (r : Ret × Heap), runW E.P (callW E) kp c s K = some r → ∃ n, runK E.P (acall E n) kp n c s K = some r
  | .skip, s, K, r, h => ⟨0, h⟩
  | .label _, s, K, r, h => ⟨0, h⟩
  | .ret, s, K, r, h => ⟨0, h⟩
  | .exit id, s, K, r, h => ⟨0, h⟩
  | .region _ ops draw, s, K, r, h => by
    obtain ⟨n, hn⟩ := regionK_calls h
    exact ⟨n, hn⟩
  | .scope b, s, K, r, h => runW_calls b s K r h
  | .loop b, s, K, r, h => by
    obtain ⟨i, hi⟩ := iterW_inv h
    have key : ∀ i s, iterK (runW E.P (callW E) kp b) (maskS (kp (firstReg b))) i s K = some r → ∃ n, iterK (runK E.P (acall E n) kp n b) (maskS (kp (firstReg b))) n s K = some r := by
      intro i
      induction i with
      | zero => intro s h; simp [iterK] at h
      | succ i ih =>
        intro s h
        obtain ⟨n, hn⟩ := runW_calls b s _ r h
        obtain ⟨e, s', h1, h2⟩ := runK_tail b s _ r hn
        have fin : ∀ (e : Ex), (e ≠ .normal) → (∀ K' : Kt, K' e s' = some r → runK E.P (acall E n) kp n b s K' = some r) → K e s' = some r → ∃ n, iterK (runK E.P (acall E n) kp n b) (maskS (kp (firstReg b))) n s K = some r := by
          intro e hne hk hK
          refine ⟨n + 1, ?_⟩
          simp only [iterK]
          refine runK_more (acall_up E n (n + 1) (by omega)) (Nat.le_succ n) b s _ _ r (fun _ _ _ h => h) (hk _ ?_)
          cases e with
          | normal => exact absurd rfl hne
          | exit id => exact hK
          | ret => exact hK
          | pan v => exact hK
        cases e with
        | normal =>
          obtain ⟨k, hk⟩ := ih _ h1
          refine ⟨n + k + 1, ?_⟩
          simp only [iterK]
          refine runK_more (acall_up E n (n + k + 1) (by omega)) (by omega) b s _ _ r (fun _ _ _ h => h) (h2 _ _ ?_)
          simp only
          have h5 : iterK (runK E.P (acall E (n + k + 1)) kp (n + k + 1) b) (maskS (kp (firstReg b))) k (maskS (kp (firstReg b)) s') K = some r := by
            clear h2 h1 hn h
            revert hk
            generalize maskS (kp (firstReg b)) s' = s1
            have : ∀ j s1, iterK (runK E.P (acall E k) kp k b) (maskS (kp (firstReg b))) j s1 K = some r → iterK (runK E.P (acall E (n + k + 1)) kp (n + k + 1) b) (maskS (kp (firstReg b))) j s1 K = some r := by
              intro j
              induction j with
              | zero => intro s1 h; simp [iterK] at h
              | succ j ihj =>
                intro s1 h
                simp only [iterK] at h ⊢
                obtain ⟨e, s2, q1, q2⟩ := runK_tail b s1 _ r h
                refine runK_more (acall_up E k (n + k + 1) (by omega)) (by omega) b s1 _ _ r (fun _ _ _ h => h) (q2 _ _ ?_)
                cases e with
                | normal => exact ihj _ q1
                | exit id => exact q1
                | ret => exact q1
                | pan v => exact q1
            exact this k s1
          exact iterK_up (runK_tail b) k (n + k) _ _ _ (by omega) h5
        | exit id => exact fin _ (by simp) (fun K' h' => h2 K' r h') h1
        | ret => exact fin _ (by simp) (fun K' h' => h2 K' r h') h1
        | pan v => exact fin _ (by simp) (fun K' h' => h2 K' r h') h1
    exact key i _ hi
  | .seq a b, s, K, r, h => by
    obtain ⟨n, hn⟩ := runW_calls a s _ r h
    obtain ⟨e, s', h1, h2⟩ := runK_tail a s _ r hn
    cases e with
    | normal =>
      obtain ⟨k, hk⟩ := runW_calls b _ K r h1
      refine ⟨n + k, ?_⟩
      refine runK_more (acall_up E n (n + k) (by omega)) (by omega) a s _ _ r (fun _ _ _ h => h) (h2 _ _ ?_)
      exact runK_more (acall_up E k (n + k) (by omega)) (by omega) b _ _ _ r (fun _ _ _ h => h) hk
    | exit id => exact ⟨n, h2 _ _ h1⟩
    | ret => exact ⟨n, h2 _ _ h1⟩
    | pan v => exact ⟨n, h2 _ _ h1⟩
  | .cond c x y, s, K, r, h => by
    simp only [runW, runK, Option.bind_eq_some_iff] at h ⊢
    obtain ⟨v, hv, h⟩ := h
    unfold condV at h
    split at h
    · rename_i b
      cases b with
      | true => obtain ⟨n, hn⟩ := runW_calls x s K r h; exact ⟨n, _, hv, hn⟩
      | false => obtain ⟨n, hn⟩ := runW_calls y s K r h; exact ⟨n, _, hv, hn⟩
    · simp at h
  | .block id c, s, K, r, h => by
    obtain ⟨n, hn⟩ := runW_calls c s _ r h
    exact ⟨n, hn⟩
  | .rangeFunc .., s, K, r, h => by simp [runW] at h
  | .goto _, s, K, r, h => by simp [runW] at h
  | .refuse _, s, K, r, h => by simp [runW] at h
end
/-- A function's call comes to what its body comes to. -/
theorem callW_body {E : Env} {g : FuncId} {fn : Func} {c : Code} {xs : List Value} {h : Heap} {r : Ret × Heap} (h1 : E.ext g = none) (h2 : E.fn g = some fn) (h3 : fn.body = some c) (h4 : xs.length ≤ fn.ntmps)
    (hr : runW E.P (callW E) (E.keep g) c ⟨xs ++ List.replicate (fn.ntmps - xs.length) undefA, h⟩ (endK E.P fn) = some r) : callW E g xs h = some r := by
  obtain ⟨n, hn⟩ := runW_calls c _ _ r hr
  refine callW_of (n := n + 1) ?_
  simp only [acall, h1, h2, h3]
  rw [if_pos h4]
  exact hn
theorem callW_ext {E : Env} {g : FuncId} {F : List Value → Heap → R} {xs : List Value} {h : Heap} (h1 : E.ext g = some F) {r : Ret × Heap} (hr : F xs h = some r) : callW E g xs h = some r :=
  callW_of (n := 1) (by simp only [acall, h1]; exact hr)
theorem callW_ok {E : Env} {w0 : World} {prot : Nat → Prop} (hE : EnvOk E w0 prot) : CallOk E.P w0 prot (callW E) := fun g xs h res hr => by
  obtain ⟨n, hn⟩ := callW_inv hr
  exact acall_ok hE n g xs h res hn
end Go.Am

namespace Go.Am
open Go
def bodyOf (f : Func) : Code := match f.body with | some c => c | none => .skip
def sA : Code → Code | .seq a _ => a | _ => .skip
def sB : Code → Code | .seq _ b => b | _ => .skip
def sL : Code → Code | .loop b => b | _ => .skip
def sK : Code → Code | .block _ b => b | _ => .skip
def sS : Code → Code | .scope b => b | _ => .skip
def cT : Code → Code | .cond _ a _ => a | _ => .skip
def cE : Code → Code | .cond _ _ b => b | _ => .skip
noncomputable def kSeq (P : Program) (call : CallF) (kp : Nat → Option (List Nat)) (b : Code) (K : Kt) : Kt := fun e s' => match e with
    | .normal => runW P call kp b (maskS (kp (firstReg b)) s') K
    | e => K e s'
/-! names that the kernel opens ahead of others -/
def up0 (x : R) : R := x
def up1 (x : R) : R := up0 x
def up2 (x : R) : R := up1 x
def up3 (x : R) : R := up2 x
def up4 (x : R) : R := up3 x
def up5 (x : R) : R := up4 x
def up6 (x : R) : R := up5 x
def up7 (x : R) : R := up6 x
def up8 (x : R) : R := up7 x
def up9 (x : R) : R := up8 x
def up10 (x : R) : R := up9 x
def up11 (x : R) : R := up10 x
def up12 (x : R) : R := up11 x
def up13 (x : R) : R := up12 x
def up14 (x : R) : R := up13 x
def up15 (x : R) : R := up14 x
def up16 (x : R) : R := up15 x
def up17 (x : R) : R := up16 x
def up18 (x : R) : R := up17 x
def up19 (x : R) : R := up18 x
def up20 (x : R) : R := up19 x
def up21 (x : R) : R := up20 x
def up22 (x : R) : R := up21 x
def up23 (x : R) : R := up22 x
def up24 (x : R) : R := up23 x
def up25 (x : R) : R := up24 x
def up26 (x : R) : R := up25 x
def up27 (x : R) : R := up26 x
def up28 (x : R) : R := up27 x
def up29 (x : R) : R := up28 x
def up30 (x : R) : R := up29 x
def up31 (x : R) : R := up30 x
def up32 (x : R) : R := up31 x
def up33 (x : R) : R := up32 x
def up34 (x : R) : R := up33 x
def up35 (x : R) : R := up34 x
def up36 (x : R) : R := up35 x
def up37 (x : R) : R := up36 x
def up38 (x : R) : R := up37 x
def up39 (x : R) : R := up38 x
def up40 (x : R) : R := up39 x
def up41 (x : R) : R := up40 x
def up42 (x : R) : R := up41 x
def up43 (x : R) : R := up42 x
def up44 (x : R) : R := up43 x
def up45 (x : R) : R := up44 x
def up46 (x : R) : R := up45 x
def up47 (x : R) : R := up46 x
def up48 (x : R) : R := up47 x
def up49 (x : R) : R := up48 x
def up50 (x : R) : R := up49 x
def up51 (x : R) : R := up50 x
def up52 (x : R) : R := up51 x
def up53 (x : R) : R := up52 x
def up54 (x : R) : R := up53 x
def up55 (x : R) : R := up54 x
def up56 (x : R) : R := up55 x
def up57 (x : R) : R := up56 x
def up58 (x : R) : R := up57 x
def up59 (x : R) : R := up58 x
def hi (x : R) : R := (fun _ : R → R => x) up59
def obnd {α : Type} (e : Option α) (k : α → R) : R := match e with
  | some a => hi (k a)
  | none => none
theorem obnd_eq {α : Type} (e : Option α) (k : α → R) : obnd e k = e.bind k := by cases e <;> rfl
/-- New memory behind all other; at a place laid out for it. -/
def anew (e : Option (Blk × (Nat → Value))) (h : Heap) (k : Value → Heap → R) : R := match e with
  | some r => hi (k (r.2 h.length) (h ++ [r.1]))
  | none => none
def aput (e : Option (Blk × (Nat → Value))) (i : Nat) (h : Heap) (k : Value → Heap → R) : R := match e with
  | some r => hi (k (r.2 i) (h.set i r.1))
  | none => none
theorem anew_eq (e : Option (Blk × (Nat → Value))) (h : Heap) (k : Value → Heap → R) : anew e h k = e.bind fun r => k (r.2 h.length) (h ++ [r.1]) := by cases e <;> rfl
theorem aput_eq (e : Option (Blk × (Nat → Value))) (i : Nat) (h : Heap) (k : Value → Heap → R) : aput e i h k = e.bind fun r => k (r.2 i) (h.set i r.1) := by cases e <;> rfl
def condF (v : Value) (A B : R) : R := match v with
  | .bool b => (match b with
    | true => hi A
    | false => hi B)
  | _ => none
theorem condF_eq (v : Value) (A B : R) : condF v A B = condV v A B := by
  cases v <;> first | rfl | (rename_i b; cases b <;> rfl)
def kBlk (id : Nat) (K : Kt) : Kt := fun e s' => hi (match e with
    | .exit i => (match i == id with
      | true => K .normal s'
      | false => K (.exit i) s')
    | .normal => K .normal s'
    | .ret => K .ret s'
    | .pan v => K (.pan v) s')
theorem kBlk_eq (id : Nat) (K : Kt) : kBlk id K = fun e s' => match e with
    | .exit i => bif i == id then K .normal s' else K (.exit i) s'
    | e => K e s' := by
  funext e s'
  cases e with
  | exit i =>
    simp only [kBlk, hi]
    cases i == id <;> rfl
  | _ => rfl
noncomputable def kLoop (P : Program) (call : CallF) (kp : Nat → Option (List Nat)) (b : Code) (K : Kt) : Kt := fun e s' => match e with
    | .normal => iterW (runW P call kp b) (maskS (kp (firstReg b))) (maskS (kp (firstReg b)) s') K
    | e => K e s'
def guardV3 (v : Value) (A B C : R) : R :=
  match v with
  | .bool b => bif b then A else B
  | .tuple ⟨[.bool false]⟩ => C
  | _ => none
def xK (o : Option (XR × Heap)) (f g : Value → Heap → R) : R := o.bind fun r => match r.1 with
    | .val v => f v r.2
    | .skip => f undefA r.2
    | .pan v => g v r.2
def opCv (f : Value) (xs : List Value) : Option (FuncId × List Value) := match f with
  | .func (.func g) ⟨first⟩ ⟨cap⟩ => some (g, first ++ xs ++ cap)
  | _ => none
def aPanic (x : Value) (h : Heap) : Option (XR × Heap) := match x with
  | .iface t v => some (.pan (.iface t v), h)
  | _ => none
end Go.Am

namespace Go.Am
open Go
noncomputable def forceL (l : List Value) : (List Value → R) → R :=
  List.rec (motive := fun _ => (List Value → R) → R) (fun k => k []) (fun v _ ih k => ih fun l => k (v :: l)) l
theorem forceL_eq : ∀ (l : List Value) (k : List Value → R), forceL l k = k l
  | [], k => rfl
  | v :: vs, k => forceL_eq vs fun l => k (v :: l)
noncomputable def forceS (s : St) (k : St → R) : R := forceL s.tm fun l => k ⟨l, s.h⟩
theorem forceS_eq (s : St) (k : St → R) : forceS s k = k s := by unfold forceS; rw [forceL_eq]
noncomputable def forceLT (l : List Value) : (List Value → R) → R :=
  List.rec (motive := fun _ => (List Value → R) → R) (fun k => hi (k [])) (fun v _ ih k => ih fun l => k (v :: l)) l
theorem forceLT_eq : ∀ (l : List Value) (k : List Value → R), forceLT l k = k l
  | [], k => rfl
  | v :: vs, k => forceLT_eq vs fun l => k (v :: l)
noncomputable def forceT (s : St) (k : St → R) : R := forceLT s.tm fun l => k ⟨l, s.h⟩
theorem forceT_eq (s : St) (k : St → R) : forceT s k = k s := by unfold forceT; rw [forceLT_eq]
def guardedF (ops : List Oper) (o : Oper) (s : St) (yes : St → R) (no : St → R) : R :=
  match o.guard with
  | none => hi (yes s)
  | some (j, want) => match (ops[j]?).bind (·.dst) with
    | none => none
    | some d => match s.tm[d]? with
      | none => none
      | some v => match v with
        | .bool b => (match want with
          | true => (match b with
            | true => hi (yes ⟨s.tm.set d (.bool want), s.h⟩)
            | false => hi (no ⟨putA (s.tm.set d (.bool !want)) o.dst skipV, s.h⟩))
          | false => (match b with
            | true => hi (no ⟨putA (s.tm.set d (.bool !want)) o.dst skipV, s.h⟩)
            | false => hi (yes ⟨s.tm.set d (.bool want), s.h⟩)))
        | .tuple ⟨[.bool false]⟩ => hi (no ⟨putA (s.tm.set d skipV) o.dst skipV, s.h⟩)
        | _ => none
theorem guardedF_eq {ops : List Oper} {o : Oper} {s : St} {yes no : St → R} : guardedF ops o s yes no = guarded ops o s yes no := by
  unfold guardedF guarded
  cases o.guard with
  | none => rfl
  | some p =>
    obtain ⟨j, want⟩ := p
    simp only
    cases (ops[j]?).bind (·.dst) with
    | none => rfl
    | some d =>
      simp only
      cases s.tm[d]? with
      | none => rfl
      | some v =>
        simp only
        split
        · rename_i b
          cases want <;> cases b <;> rfl
        · rfl
        · rename_i h1 h2
          split
          · exact absurd rfl (h1 _)
          · exact absurd rfl h2
          · rfl
/-- What acts, each case by itself. -/
def opXF (P : Program) (tm : List Value) (h : Heap) (op : Op) (k g : Value → Heap → R) : R :=
  match op with
  | .store t a v => obnd (ev tm a) fun a => obnd (ev tm v) fun v => obnd (aStore P t a v h) fun h => k undefA h
  | .mapUpdate t m q v | .insert t m q v => obnd (ev tm m) fun m => obnd (ev tm q) fun q => obnd (ev tm v) fun v => obnd (aMapUpd P t m q v h) fun h => k undefA h
  | .panic x => obnd (ev tm x) fun x => match x with
    | .iface t v => g (.iface t v) h
    | _ => none
  | .call c => match c.callee, c.args.toList, c.argTypes.toList with
    | .builtin .append, [s, x], [t0, t1] => obnd (ev tm s) fun s => obnd (ev tm x) fun x => obnd (aAppend P t0 t1 s x h) fun r => k r.1 r.2
    | .builtin .clear, [x], [t] => obnd (ev tm x) fun x => obnd (aClear h x) fun h => k undefA h
    | .builtin .panic, [x], _ => obnd (ev tm x) fun x => match x with
      | .iface t v => g (.iface t v) h
      | _ => none
    | _, _, _ => none
  | _ => none
theorem opXF_eq {P : Program} {tm : List Value} {h : Heap} {op : Op} {k g : Value → Heap → R} : opXF P tm h op k g = (opX P tm h op).bind fun r => match r.1 with
    | .val v => k v r.2
    | .skip => k undefA r.2
    | .pan v => g v r.2 := by
  cases op <;> simp only [opXF, opX, Option.bind_none, obnd_eq]
  case store t a v => cases ev tm a <;> simp; cases ev tm v <;> simp; cases aStore P t _ _ h <;> simp
  case mapUpdate t m q v => cases ev tm m <;> simp; cases ev tm q <;> simp; cases ev tm v <;> simp; cases aMapUpd P t _ _ _ h <;> simp
  case insert t m q v => cases ev tm m <;> simp; cases ev tm q <;> simp; cases ev tm v <;> simp; cases aMapUpd P t _ _ _ h <;> simp
  case panic x => cases ev tm x <;> simp; rename_i v; cases v <;> simp
  case call c =>
    generalize c.args.toList = args
    generalize c.argTypes.toList = ts
    generalize c.callee = cl
    split
    · rename_i s x t0 t1
      dsimp only
      rcases ev tm s with _ | a
      · rfl
      rcases ev tm x with _ | b
      · rfl
      rcases h1 : aAppend P t0 t1 a b h with _ | r <;> simp [h1]
    · rename_i x t
      dsimp only
      rcases ev tm x with _ | b
      · rfl
      rcases h1 : aClear h b with _ | r <;> simp [h1]
    · rename_i x
      dsimp only
      rcases ev tm x with _ | b
      · rfl
      cases b <;> rfl
    · rename_i n1 n2 n3
      split
      · exact absurd rfl (fun e => n2 _ _ _ _ rfl rfl e)
      · exact absurd rfl (fun e => n3 _ _ rfl rfl e)
      · exact absurd rfl (fun e => n1 _ rfl e)
      · rfl
def doOpF (P : Program) (call : CallF) (at_ : Option Nat) (o : Oper) (s : St) (k : St → R) (K : Kt) : R :=
  match cls P o.op with
  | .P => obnd (opP P s.tm o.op) fun v => k ⟨putA s.tm o.dst v, s.h⟩
  | .L => obnd (opL P s.tm s.h o.op) fun v => k ⟨putA s.tm o.dst v, s.h⟩
  | .A => match at_ with
    | none => anew (opA P s.tm o.op) s.h fun v h => k ⟨putA s.tm o.dst v, h⟩
    | some i => aput (opA P s.tm o.op) i s.h fun v h => k ⟨putA s.tm o.dst v, h⟩
  | .X => opXF P s.tm s.h o.op (fun v h => k ⟨putA s.tm o.dst v, h⟩) (fun v h => K (.pan v) ⟨s.tm, h⟩)
  | .C => obnd (opC s.tm o.op) fun c => retK (call c.1 c.2 s.h) (fun v h => k ⟨putA s.tm o.dst v, h⟩) (fun v h => K (.pan v) ⟨s.tm, h⟩)
  | .no => none
theorem doOpF_eq {P : Program} {call : CallF} {at_ : Option Nat} {o : Oper} {s : St} {k : St → R} {K : Kt} : doOpF P call at_ o s k K = doOp P call at_ o s k K := by
  unfold doOpF doOp
  simp only [obnd_eq, anew_eq, aput_eq]
  cases cls P o.op <;> first | rfl | exact opXF_eq | (cases at_ <;> rfl)
noncomputable def runLF (P : Program) (call : CallF) (ops : List Oper) (l : List Oper) : St → Kt → R :=
  List.rec (motive := fun _ => St → Kt → R) (fun s K => K .normal s)
    (fun o _ ih s K => guardedF ops o s (fun s => doOpF P call none o s (fun s => forceT s fun s => ih s K) K) (fun s => forceT s fun s => ih s K)) l
theorem runLF_cons {P : Program} {call : CallF} {ops : List Oper} {o : Oper} {rest : List Oper} {s : St} {K : Kt} : runLF P call ops (o :: rest) s K =
    guardedF ops o s (fun s => doOpF P call none o s (fun s => forceT s fun s => runLF P call ops rest s K) K) (fun s => forceT s fun s => runLF P call ops rest s K) := rfl
theorem runLF_eq {P : Program} {call : CallF} {ops : List Oper} : ∀ (l : List Oper) (s : St) (K : Kt), runLF P call ops l s K = runL P call ops l s K
  | [], s, K => rfl
  | o :: rest, s, K => by simp only [runLF_cons, runL, forceT_eq, runLF_eq rest, doOpF_eq, guardedF_eq]
noncomputable def runDF (P : Program) (call : CallF) (ops : List Oper) (T : List (List Nat)) (base : Nat) (K : Kt) : Nat → List Nat → Option Value → DH → St → R
  | 0, _, _, _, _ => none
  | _ + 1, [], none, _, s => K .normal s
  | _ + 1, [], some v, _, s => K (.pan v) (panSt base (nSlots P ops) s)
  | n + 1, i :: rest, pend, H, s => match ops[i]? with
    | none => none
    | some o => guardedF ops o s (fun s => match cls P o.op with
        | .L => chkRd (slotsFree P ops T base i) (actsOf T i H) s.h (doOpF P call none o s (fun s' => forceT s' fun s' => runDF P call ops T base K n rest pend { H with ls := (i, readId s.tm o.op, s.h) :: H.ls } s') (fun _ _ => none)) (readId s.tm o.op)
        | .A => doOpF P call (some (base + slotOf P ops i)) o s (fun s' => forceT s' fun s' => runDF P call ops T base K n rest pend H s') (fun _ _ => none)
        | .P => doOpF P call none o s (fun s' => forceT s' fun s' => runDF P call ops T base K n rest pend H s') (fun _ _ => none)
        | .no => none
        | _ => doOpF P call none o s (fun s' => forceT s' fun s' => chkActs (readsOf T i H) s'.h (runDF P call ops T base K n rest pend { H with xs := (i, s.h) :: H.xs } s'))
            (fun e s' => match e with
              | .pan v => chkActs (readsOf T i H) s'.h (runDF P call ops T base K n (rest.filter fun j => !isAnc T i j) (some v) { H with xs := (i, s.h) :: H.xs } s')
              | _ => none)) (fun s => forceT s fun s => runDF P call ops T base K n rest pend H s)

theorem runDF_eq {P : Program} {call : CallF} {ops : List Oper} {T : List (List Nat)} {base : Nat} {K : Kt} : ∀ (n : Nat) (l : List Nat) (p : Option Value) (H : DH) (s : St), runDF P call ops T base K n l p H s = runD P call ops T base K n l p H s
  | 0, _, _, _, _ => by simp only [runDF, runD]
  | n + 1, [], none, _, s => by simp only [runDF, runD]
  | n + 1, [], some v, _, s => by simp only [runDF, runD]
  | n + 1, i :: rest, p, H, s => by
    simp only [runDF, runD, forceT_eq, runDF_eq n, doOpF_eq, guardedF_eq]
    rfl
noncomputable def regionF (P : Program) (call : CallF) (ops : List Oper) (draw : Bool) (s : St) (K : Kt) : R :=
  match draw with
  | true =>
    (let T := ancs ops
     let C := canon P ops T
     match drawOk P ops T C with
     | true => runDF P call ops T s.h.length K (C.length + 1) C none ⟨[], []⟩ ⟨s.tm, resv s.h (nSlots P ops)⟩
     | false => none)
  | false => runLF P call ops ops s K
theorem regionF_eq {P : Program} {call : CallF} {ops : List Oper} {draw : Bool} {s : St} {K : Kt} : regionF P call ops draw s K = regionK P call ops draw s K := by
  cases draw with
  | false => simp only [regionF, regionK, runLF_eq, cond_false]
  | true =>
    simp only [regionF, regionK, runDF_eq, cond_true]
    cases drawOk P ops (ancs ops) (canon P ops (ancs ops)) <;> rfl
noncomputable def kSeqG (m : St → St) (f : St → Kt → R) (K : Kt) : Kt := fun e s' => match e with
    | .normal => forceS (m s') fun s' => f s' K
    | e => K e s'
noncomputable def kLoopG (m : St → St) (f : St → Kt → R) (K : Kt) : Kt := fun e s' => hi (match e with
    | .normal => iterW f m (m s') K
    | .exit i => K (.exit i) s'
    | .ret => K .ret s'
    | .pan v => K (.pan v) s')
noncomputable def runF (P : Program) (call : CallF) (kp : Nat → Option (List Nat)) (c : Code) : St → Kt → R :=
  Code.rec (motive := fun _ => St → Kt → R)
    (fun s K => K .normal s)
    (fun _ ops draw s K => regionF P call ops.toList draw s K)
    (fun a b ra rb s K => ra s (kSeqG (maskS (kp (firstReg b))) rb K))
    (fun c _ _ rt re s K => obnd (ev s.tm c) fun v => condF v (rt s K) (re s K))
    (fun id _ rb s K => rb s (kBlk id K))
    (fun b rb s K => iterW rb (maskS (kp (firstReg b))) (maskS (kp (firstReg b)) s) K)
    (fun _ _ _ _ _ _ _ _ => none)
    (fun id s K => K (.exit id) s)
    (fun _ rb s K => rb s K)
    (fun _ s K => K .normal s)
    (fun _ _ _ => none)
    (fun s K => K .ret s)
    (fun _ _ _ => none) c
section
variable {P : Program} {call : CallF} {kp : Nat → Option (List Nat)} {s : St} {K : Kt}
theorem runF_seq {a b : Code} : runF P call kp (.seq a b) s K = runF P call kp a s (kSeqG (maskS (kp (firstReg b))) (runF P call kp b) K) := rfl
theorem runF_cond {c : Operand} {t e : Code} : runF P call kp (.cond c t e) s K = (ev s.tm c).bind fun v => condV v (runF P call kp t s K) (runF P call kp e s K) := by
  simp only [← condF_eq, ← obnd_eq]
  rfl
theorem runF_block {id : Nat} {b : Code} : runF P call kp (.block id b) s K = runF P call kp b s (kBlk id K) := rfl
theorem runF_scope {b : Code} : runF P call kp (.scope b) s K = runF P call kp b s K := rfl
theorem runF_loop {b : Code} : runF P call kp (.loop b) s K = iterW (runF P call kp b) (maskS (kp (firstReg b))) (maskS (kp (firstReg b)) s) K := rfl
end
theorem runF_eq {P : Program} {call : CallF} {kp : Nat → Option (List Nat)} : ∀ (c : Code) (s : St) (K : Kt), runF P call kp c s K = runW P call kp c s K
  | .skip, s, K => rfl
  | .label _, s, K => rfl
  | .ret, s, K => rfl
  | .exit id, s, K => rfl
  | .seq a b, s, K => by
    have e : kSeqG (maskS (kp (firstReg b))) (runF P call kp b) K = kSeq P call kp b K := by
      funext e s'
      cases e <;> simp only [kSeqG, kSeq, forceS_eq, runF_eq b]
    simp only [runF_seq, runW, runF_eq a, e]
    all_goals rfl
  | .cond c x y, s, K => by simp only [runF_cond, runW, runF_eq x, runF_eq y]
  | .block id b, s, K => by
    simp only [runF_block, runW, runF_eq b, kBlk_eq]
    all_goals rfl
  | .scope b, s, K => runF_eq b s K
  | .loop b, s, K => by
    have : runF P call kp b = runW P call kp b := by funext s K; exact runF_eq b s K
    simp only [runF_loop, runW, this]
  | .region _ ops draw, s, K => regionF_eq
  | .rangeFunc .., s, K => rfl
  | .goto _, s, K => rfl
  | .refuse _, s, K => rfl
theorem runF_tail {P : Program} {call : CallF} {kp : Nat → Option (List Nat)} (c : Code) (s : St) : Tail (runF P call kp c s) := by
  have : runF P call kp c s = runW P call kp c s := by funext K; exact runF_eq c s K
  rw [this]
  exact runW_tail c s
noncomputable def fSeq (P : Program) (call : CallF) (kp : Nat → Option (List Nat)) (b : Code) (K : Kt) : Kt := kSeqG (maskS (kp (firstReg b))) (runF P call kp b) K
noncomputable def fLoop (P : Program) (call : CallF) (kp : Nat → Option (List Nat)) (b : Code) (K : Kt) : Kt := kLoopG (maskS (kp (firstReg b))) (runF P call kp b) K
theorem iterW_round {f : St → Kt → R} {m : St → St} (hf : ∀ s, Tail (f s)) {s : St} {K : Kt} {r : Ret × Heap} (h : f s (kLoopG m f K) = some r) : iterW f m s K = some r := by
  refine iterW_step hf (Eq.trans (congrArg (f s) ?_) h)
  funext e s'
  cases e <;> rfl
theorem callW_run {E : Env} {g : FuncId} {fn : Func} {c : Code} {xs : List Value} {h : Heap} {r : Ret × Heap} (h1 : E.ext g = none) (h2 : E.fn g = some fn) (h3 : fn.body = some c) (h4 : xs.length ≤ fn.ntmps)
    (hr : runF E.P (callW E) (E.keep g) c ⟨xs ++ List.replicate (fn.ntmps - xs.length) undefA, h⟩ (endK E.P fn) = some r) : callW E g xs h = some r := callW_body h1 h2 h3 h4 (by rw [← runF_eq]; exact hr)
end Go.Am

namespace Go.Am
open Go

def panV (v : Value) (g : Value → Heap → R) (h : Heap) : R := match v with
  | .iface t v => g (.iface t v) h
  | _ => none
/-! ### what a run comes to -/
def WP (r : R) (Q : Ret → Heap → Prop) : Prop := ∃ x h, r = some (x, h) ∧ Q x h
/-- It returns. -/
def Rt (Q : Value → Heap → Prop) : Ret → Heap → Prop
  | .ret v, h => Q v h
  | .pan _, _ => False
theorem wp_some {x : Ret} {h : Heap} {Q : Ret → Heap → Prop} (hq : Q x h) : WP (some (x, h)) Q := ⟨x, h, rfl, hq⟩
theorem wp_mono {r : R} {Q Q' : Ret → Heap → Prop} (h : WP r Q) (hq : ∀ x h, Q x h → Q' x h) : WP r Q' := by
  obtain ⟨x, k, h1, h2⟩ := h
  exact ⟨x, k, h1, hq x k h2⟩
theorem wp_rt {r : R} {Q Q' : Value → Heap → Prop} (h : WP r (Rt Q)) (hq : ∀ v h, Q v h → Q' v h) : WP r (Rt Q') := by
  refine wp_mono h ?_
  rintro (v | v) k hk
  · exact hq v k hk
  · exact hk
theorem wp_eq {r r' : R} {Q : Ret → Heap → Prop} (e : r = r') (h : WP r' Q) : WP r Q := e ▸ h
theorem wp_step {b l : R} {Q : Ret → Heap → Prop} (hs : ∀ x, b = some x → l = some x) (h : WP b Q) : WP l Q := by
  obtain ⟨x, k, h1, h2⟩ := h
  exact ⟨x, k, hs _ h1, h2⟩
theorem wp_bind {α : Type} {e : Option α} {a : α} {k : α → R} {Q : Ret → Heap → Prop} (he : e = some a) (hk : WP (k a) Q) : WP (e.bind k) Q := by subst he; exact hk
theorem wp_retK {r : R} {f g : Value → Heap → R} {Q : Ret → Heap → Prop} {Q' : Value → Heap → Prop} (hr : WP r (Rt Q')) (hk : ∀ v h, Q' v h → WP (f v h) Q) : WP (retK r f g) Q := by
  obtain ⟨x, k, rfl, h2⟩ := hr
  cases x with
  | ret v => exact hk v k h2
  | pan v => exact h2.elim
theorem wp_retKp {r : R} {f g : Value → Heap → R} {Q Q' : Ret → Heap → Prop} (hr : WP r Q') (hk : ∀ v h, Q' (.ret v) h → WP (f v h) Q) (hp : ∀ v h, Q' (.pan v) h → WP (g v h) Q) : WP (retK r f g) Q := by
  obtain ⟨x, k, rfl, h2⟩ := hr
  cases x with
  | ret v => exact hk v k h2
  | pan v => exact hp v k h2
theorem wp_test {c : Bool} {A B : R} {Q : Ret → Heap → Prop} (h1 : c = true → WP A Q) (h2 : c = false → WP B Q) : WP (condF (.bool c) A B) Q := by
  cases c with
  | true => exact h1 rfl
  | false => exact h2 rfl

theorem wp_callW {E : Env} {g : FuncId} {fn : Func} {c : Code} {kp : Nat → Option (List Nat)} {xs : List Value} {h : Heap} {Q : Ret → Heap → Prop} (h1 : E.ext g = none) (h2 : E.fn g = some fn) (h3 : fn.body = some c) (h4 : Nat.ble xs.length fn.ntmps = true) (h5 : E.keep g = kp)
    (hr : WP (runF E.P (callW E) kp c ⟨xs ++ List.replicate (fn.ntmps - xs.length) undefA, h⟩ (endK E.P fn)) Q) : WP (callW E g xs h) Q := by
  subst h5
  obtain ⟨x, k, hx, hq⟩ := hr
  exact ⟨x, k, callW_run h1 h2 h3 (Nat.le_of_ble_eq_true h4) hx, hq⟩
def lookupL {α : Type} (g : Nat) : List (Nat × α) → Option α
  | [] => none
  | (k, v) :: l => bif Nat.beq k g then some v else lookupL g l
theorem lookupL_mem {α : Type} {g : Nat} {v : α} : ∀ {l : List (Nat × α)}, lookupL g l = some v → (g, v) ∈ l
  | [], h => by simp [lookupL] at h
  | (k, u) :: l, h => by
    unfold lookupL at h
    cases hk : Nat.beq k g with
    | true =>
      rw [hk] at h
      simp only [cond_true, Option.some.injEq] at h
      subst h
      rw [Nat.eq_of_beq_eq_true hk]
      exact List.mem_cons_self
    | false =>
      rw [hk] at h
      exact List.mem_cons_of_mem _ (lookupL_mem h)

/-! ### simp goes to what is done next, and no further -/
theorem WP_cg {r r' : R} {Q : Ret → Heap → Prop} (h : r = r') : WP r Q = WP r' Q := by rw [h]
theorem anew_cg {e e' : Option (Blk × (Nat → Value))} {h : Heap} {k : Value → Heap → R} (hh : e = e') : anew e h k = anew e' h k := by rw [hh]
theorem aput_cg {e e' : Option (Blk × (Nat → Value))} {i : Nat} {h : Heap} {k : Value → Heap → R} (hh : e = e') : aput e i h k = aput e' i h k := by rw [hh]
theorem obnd_cg {α : Type} {e e' : Option α} {k : α → R} (h : e = e') : obnd e k = obnd e' k := by rw [h]
theorem condF_cg {v v' : Value} {A B : R} (h : v = v') : condF v A B = condF v' A B := by rw [h]
theorem bind_cg {α β : Type} {e e' : Option α} {k : α → Option β} (h : e = e') : e.bind k = e'.bind k := by rw [h]
theorem map_cg {α β : Type} {e e' : Option α} {k : α → β} (h : e = e') : e.map k = e'.map k := by rw [h]
theorem condV_cg {v v' : Value} {A B : R} (h : v = v') : condV v A B = condV v' A B := by rw [h]
theorem guardV_cg {v v' : Value} {A B : R} (h : v = v') : guardV v A B = guardV v' A B := by rw [h]
theorem guardV3_cg {v v' : Value} {A B C : R} (h : v = v') : guardV3 v A B C = guardV3 v' A B C := by rw [h]
theorem retK_cg {r r' : R} {f g : Value → Heap → R} (h : r = r') : retK r f g = retK r' f g := by rw [h]
theorem xK_cg {r r' : Option (XR × Heap)} {f g : Value → Heap → R} (h : r = r') : xK r f g = xK r' f g := by rw [h]

theorem condF_true {A B : R} : condF (.bool true) A B = A := rfl
theorem condF_false {A B : R} : condF (.bool false) A B = B := rfl
theorem obnd_some {α : Type} {a : α} {k : α → R} : obnd (some a) k = k a := rfl
theorem condV_true {A B : R} : condV (.bool true) A B = A := rfl
theorem condV_false {A B : R} : condV (.bool false) A B = B := rfl
theorem guardV_true {A B : R} : guardV (.bool true) A B = A := rfl
theorem guardV_false {A B : R} : guardV (.bool false) A B = B := rfl
theorem guardV3_true {A B C : R} : guardV3 (.bool true) A B C = A := rfl
theorem guardV3_false {A B C : R} : guardV3 (.bool false) A B C = B := rfl
theorem guardV3_skip {A B C : R} : guardV3 (.tuple ⟨[.bool false]⟩) A B C = C := rfl
theorem retK_ret {v : Value} {h : Heap} {f g : Value → Heap → R} : retK (some (.ret v, h)) f g = f v h := rfl
theorem retK_pan {v : Value} {h : Heap} {f g : Value → Heap → R} : retK (some (.pan v, h)) f g = g v h := rfl
theorem xK_val {v : Value} {h : Heap} {f g : Value → Heap → R} : xK (some (.val v, h)) f g = f v h := rfl
theorem xK_skip {h : Heap} {f g : Value → Heap → R} : xK (some (.skip, h)) f g = f undefA h := rfl
theorem xK_pan {v : Value} {h : Heap} {f g : Value → Heap → R} : xK (some (.pan v, h)) f g = g v h := rfl
theorem opt_bind {α β : Type} {a : α} {k : α → Option β} : (some a).bind k = k a := rfl
theorem opt_map {α β : Type} {a : α} {k : α → β} : (some a).map k = some (k a) := rfl

/-! ### numbers -/
section
variable {P : Program} {t : TypeId} {k k' : IntKind} {a b : Int} {x y : Operand}
theorem bin_add : aBin P .add t (.int k a) (.int k b) x y = some (.int k (k.wrap (a + b))) := by simp [aBin, pureV, scal, eqGuard, binOp, Op.intArith, pureRun, keepPure]; rfl
theorem bin_sub : aBin P .sub t (.int k a) (.int k b) x y = some (.int k (k.wrap (a - b))) := by simp [aBin, pureV, scal, eqGuard, binOp, Op.intArith, pureRun, keepPure]; rfl
theorem bin_mul : aBin P .mul t (.int k a) (.int k b) x y = some (.int k (k.wrap (a * b))) := by simp [aBin, pureV, scal, eqGuard, binOp, Op.intArith, pureRun, keepPure]; rfl
theorem bin_lss : aBin P .lss t (.int k a) (.int k b) x y = some (.bool (decide (a < b))) := by simp [aBin, pureV, scal, eqGuard, binOp, Op.intCmp, pureRun, keepPure]; rfl
theorem bin_leq : aBin P .leq t (.int k a) (.int k b) x y = some (.bool (decide (a ≤ b))) := by simp [aBin, pureV, scal, eqGuard, binOp, Op.intCmp, pureRun, keepPure]; rfl
theorem bin_gtr : aBin P .gtr t (.int k a) (.int k b) x y = some (.bool (decide (a > b))) := by simp [aBin, pureV, scal, eqGuard, binOp, Op.intCmp, pureRun, keepPure]; rfl
theorem bin_geq : aBin P .geq t (.int k a) (.int k b) x y = some (.bool (decide (a ≥ b))) := by simp [aBin, pureV, scal, eqGuard, binOp, Op.intCmp, pureRun, keepPure]; rfl
theorem bin_eql : aBin P .eql t (.int k a) (.int k b) x y = some (.bool (a == b)) := by simp [aBin, pureV, scal, eqGuard, binOp, Op.intCmp, pureRun, keepPure]; rfl
theorem bin_neq : aBin P .neq t (.int k a) (.int k b) x y = some (.bool (a != b)) := by simp [aBin, pureV, scal, eqGuard, binOp, Op.intCmp, pureRun, keepPure]; rfl
theorem bin_quo (h : b ≠ 0) : aBin P .quo t (.int k a) (.int k b) x y = some (.int k (k.wrap (a.tdiv b))) := by simp [aBin, pureV, scal, eqGuard, binOp, Op.intDiv, h, pureRun, keepPure]; rfl
theorem bin_rem (h : b ≠ 0) : aBin P .rem t (.int k a) (.int k b) x y = some (.int k (a.tmod b)) := by simp [aBin, pureV, scal, eqGuard, binOp, Op.intDiv, h, pureRun, keepPure]; rfl
theorem bin_and : aBin P .and t (.int k a) (.int k b) x y = some (.int k (k.wrap (BitVec.ofInt k.bits a &&& BitVec.ofInt k.bits b).toNat)) := by simp [aBin, pureV, scal, eqGuard, binOp, Op.intBits, pureRun, keepPure]; rfl
theorem bin_or : aBin P .or t (.int k a) (.int k b) x y = some (.int k (k.wrap (BitVec.ofInt k.bits a ||| BitVec.ofInt k.bits b).toNat)) := by simp [aBin, pureV, scal, eqGuard, binOp, Op.intBits, pureRun, keepPure]; rfl
theorem bin_xor : aBin P .xor t (.int k a) (.int k b) x y = some (.int k (k.wrap (BitVec.ofInt k.bits a ^^^ BitVec.ofInt k.bits b).toNat)) := by simp [aBin, pureV, scal, eqGuard, binOp, Op.intBits, pureRun, keepPure]; rfl
theorem bin_shl (h : 0 ≤ b) : aBin P .shl t (.int k a) (.int k' b) x y = some (.int k (k.wrap (a * 2 ^ (min b.toNat k.bits)))) := by
  simp [aBin, pureV, scal, eqGuard, binOp, Op.shift, show ¬ b < 0 by omega, pureRun, keepPure]; rfl
theorem bin_shr (h : 0 ≤ b) : aBin P .shr t (.int k a) (.int k' b) x y = some (.int k (a.fdiv (2 ^ (min b.toNat k.bits)))) := by
  simp [aBin, pureV, scal, eqGuard, binOp, Op.shift, show ¬ b < 0 by omega, pureRun, keepPure]; rfl
theorem un_not {b : Bool} : aUn P .not (.bool b) = some (.bool !b) := rfl
theorem un_neg : aUn P .neg (.int k a) = some (.int k (k.wrap (0 - a))) := rfl
theorem str_eql {a b : ByteArray} : aBin P .eql t (.string a) (.string b) x y = some (.bool (a.toList == b.toList)) := by simp [aBin, pureV, scal, eqGuard, binOp, Op.stringOp, pureRun, keepPure]; rfl
theorem str_neq {a b : ByteArray} : aBin P .neq t (.string a) (.string b) x y = some (.bool (!(a.toList == b.toList))) := by simp [aBin, pureV, scal, eqGuard, binOp, Op.stringOp, pureRun, keepPure]; rfl
end
theorem ext0 {a b : Value} {l : List Value} : aExtract (.tuple ⟨a :: b :: l⟩) 0 = some a := rfl
theorem ext1 {a b : Value} {l : List Value} : aExtract (.tuple ⟨a :: b :: l⟩) 1 = some b := rfl
theorem ext2 {a b c : Value} {l : List Value} : aExtract (.tuple ⟨a :: b :: c :: l⟩) 2 = some c := rfl
theorem ext3 {a b c d : Value} {l : List Value} : aExtract (.tuple ⟨a :: b :: c :: d :: l⟩) 3 = some d := rfl
theorem pick_true {a b : Value} : aPick (.bool true) a b = some a := rfl
theorem pick_false {a b : Value} : aPick (.bool false) a b = some b := rfl
theorem nilck {a : Addr} : aNilCheck (.pointer (some a)) = some (.pointer (some a)) := rfl
theorem pureRun_underlying {α : Type} {P : Program} {t : TypeId} {d : TypeDesc} {f : TypeDesc → Sem α} (h : P.underlying t = some d) : pureRun P (underlying t >>= f) = pureRun P (f d) := by
  have e : pureRun P (underlying t >>= f) = pureRun P ((match P.underlying t with
    | some d => pure d
    | none => stuck "no such type" : Sem TypeDesc) >>= f) := rfl
  rw [e, h]
  rfl
theorem conv_int {P : Program} {s d : TypeId} {k k' : IntKind} {n : Int} {u : TypeDesc} (hs : P.underlying s = some u) (hd : P.underlying d = some (.int k')) : aConv P s d (.int k n) = some (.int k' (k'.wrap n)) := by
  have h1 : pureRun P (convert s d (.int k n)) = some (.int k' (k'.wrap n)) := by
    unfold convert
    rw [pureRun_underlying hs, pureRun_underlying hd]
    rfl
  simp only [aConv, pureV, scal, cond_true, h1]
  rfl
theorem len_slc {P : Program} {t e : TypeId} {a : Option Addr} {n c : Nat} (h : sliceT P t = some e) : aLen P t (.slice a n c) = some (.int .i64 n) := by
  have := sliceT_some h
  simp [aLen, this]
theorem len_str {P : Program} {t : TypeId} {s : ByteArray} (h : P.underlying t = some .string) : aLen P t (.string s) = some (.int .i64 s.size) := by simp [aLen, h]

/-! ### rules -/
theorem wp_guard {c : Bool} {A B C : R} {Q : Ret → Heap → Prop} (h1 : c = true → WP A Q) (h2 : c = false → WP B Q) : WP (guardV3 (.bool c) A B C) Q := by
  cases c with
  | true => exact h1 rfl
  | false => exact h2 rfl
theorem wp_eqt {P : Program} {t : TypeId} {k : IntKind} {a b : Int} {x y : Operand} {A B : Value → R} {Q : Ret → Heap → Prop} (h1 : a = b → WP (A (.bool true)) Q) (h2 : a ≠ b → WP (B (.bool false)) Q) : WP (obnd (aBin P .eql t (.int k a) (.int k b) x y) fun c => condF c (A c) (B c)) Q := by
  rw [bin_eql]
  by_cases h : a = b
  · rw [beq_iff_eq.2 h]; exact h1 h
  · rw [beq_eq_false_iff_ne.2 h]; exact h2 h
theorem wp_net {P : Program} {t : TypeId} {k : IntKind} {a b : Int} {x y : Operand} {A B : Value → R} {Q : Ret → Heap → Prop} (h1 : a ≠ b → WP (A (.bool true)) Q) (h2 : a = b → WP (B (.bool false)) Q) : WP (obnd (aBin P .neq t (.int k a) (.int k b) x y) fun c => condF c (A c) (B c)) Q := by
  rw [bin_neq]
  by_cases h : a = b
  · rw [show (a != b) = false from by simp [h]]; exact h2 h
  · rw [show (a != b) = true from by simp [h]]; exact h1 h
theorem wp_ltt {P : Program} {t : TypeId} {k : IntKind} {a b : Int} {x y : Operand} {A B : Value → R} {Q : Ret → Heap → Prop} (h1 : a < b → WP (A (.bool true)) Q) (h2 : b ≤ a → WP (B (.bool false)) Q) : WP (obnd (aBin P .lss t (.int k a) (.int k b) x y) fun c => condF c (A c) (B c)) Q := by
  rw [bin_lss]
  by_cases h : a < b
  · rw [decide_eq_true h]; exact h1 h
  · rw [decide_eq_false h]; exact h2 (by omega)
theorem wp_gtt {P : Program} {t : TypeId} {k : IntKind} {a b : Int} {x y : Operand} {A B : Value → R} {Q : Ret → Heap → Prop} (h1 : b < a → WP (A (.bool true)) Q) (h2 : a ≤ b → WP (B (.bool false)) Q) : WP (obnd (aBin P .gtr t (.int k a) (.int k b) x y) fun c => condF c (A c) (B c)) Q := by
  rw [bin_gtr]
  by_cases h : a > b
  · rw [decide_eq_true h]; exact h1 h
  · rw [decide_eq_false h]; exact h2 (by omega)
theorem wp_obnd {α : Type} {e : Option α} {a : α} {k : α → R} {Q : Ret → Heap → Prop} (he : e = some a) (hk : WP (k a) Q) : WP (obnd e k) Q := by subst he; exact hk
end Go.Am

namespace Go.Am
open Go

/-! ### what stays -/
/-- But for the blocks M, what was there is there as it was. -/
structure Keep (M : List Nat) (h h' : Heap) : Prop where
  len : h.length ≤ h'.length
  at_ : ∀ b, b < h.length → b ∉ M → h'[b]? = h[b]?
theorem Keep.refl (M : List Nat) (h : Heap) : Keep M h h := ⟨Nat.le_refl _, fun _ _ _ => rfl⟩
theorem Keep.trans {M : List Nat} {h h1 h2 : Heap} (a : Keep M h h1) (b : Keep M h1 h2) : Keep M h h2 :=
  ⟨Nat.le_trans a.len b.len, fun i hi hm => (b.at_ i (Nat.lt_of_lt_of_le hi a.len) hm).trans (a.at_ i hi hm)⟩
theorem Keep.mono {M M' : List Nat} {h h' : Heap} (a : Keep M h h') (hm : ∀ b, b ∈ M → b < h.length → b ∈ M') : Keep M' h h' :=
  ⟨a.len, fun i hi hn => a.at_ i hi fun x => hn (hm i x hi)⟩
/-- Blocks that were not there at first do not count. -/
theorem Keep.trans_new {M N : List Nat} {h h1 h2 : Heap} (a : Keep M h h1) (b : Keep N h1 h2) (hn : ∀ i, i ∈ N → i ∈ M ∨ h.length ≤ i) : Keep M h h2 :=
  ⟨Nat.le_trans a.len b.len, fun i hi hm => (b.at_ i (Nat.lt_of_lt_of_le hi a.len) fun x => (hn i x).elim hm fun y => by omega).trans (a.at_ i hi hm)⟩
theorem Keep.push (M : List Nat) (h : Heap) (l : List Blk) : Keep M h (h ++ l) := ⟨by simp, fun b hb _ => by rw [List.getElem?_append_left hb]⟩
theorem Keep.set (h : Heap) (b : Nat) (X : Blk) : Keep [b] h (h.set b X) := ⟨by simp, fun i hi hm => by rw [List.getElem?_set_ne]; intro e; subst e; simp at hm⟩
theorem Keep.get {M : List Nat} {h h' : Heap} (a : Keep M h h') {b : Nat} {X : Blk} (hb : h[b]? = some X) (hm : b ∉ M) : h'[b]? = some X := by
  rw [a.at_ b (by have := (List.getElem?_eq_some_iff.1 hb).1; exact this) hm, hb]
theorem get_lt {h : Heap} {b : Nat} {X : Blk} (hb : h[b]? = some X) : b < h.length := (List.getElem?_eq_some_iff.1 hb).1
theorem get_push {h : Heap} {b : Nat} {X : Blk} (hb : h[b]? = some X) (l : List Blk) : (h ++ l)[b]? = some X := by rw [List.getElem?_append_left (get_lt hb)]; exact hb
theorem get_new (h : Heap) (X : Blk) : (h ++ [X])[h.length]? = some X := by simp
theorem get_set (h : Heap) {b : Nat} {X Y : Blk} (hb : h[b]? = some X) : (h.set b Y)[b]? = some Y := by rw [List.getElem?_set_self (get_lt hb)]
theorem get_set_ne (h : Heap) {b c : Nat} {X Y : Blk} (hb : h[b]? = some X) (hn : c ≠ b) : (h.set c Y)[b]? = some X := by rw [List.getElem?_set_ne hn]; exact hb

/-! ### data: how many cells, and what they say -/
structure Rp (α : Type) where
  sz : Nat
  rep : (Nat → Prop) → Heap → List Value → α → Prop
  len : ∀ {S h cs x}, rep S h cs x → cs.length = sz
  mono : ∀ {S S' : Nat → Prop} {h h' cs x}, (∀ b X, S b → h[b]? = some X → h'[b]? = some X ∧ S' b) → rep S h cs x → rep S' h' cs x
section
variable {α β : Type} {S S' : Nat → Prop} {h h' : Heap} {cs : List Value}
theorem Rp.keep (A : Rp α) {x : α} {M : List Nat} (hr : A.rep S h cs x) (hk : Keep M h h') (hm : ∀ b, S b → b ∉ M) : A.rep S h' cs x :=
  A.mono (fun b X hs hb => ⟨hk.get hb (hm b hs), hs⟩) hr
theorem Rp.keep0 (A : Rp α) {x : α} (hr : A.rep S h cs x) (hk : Keep [] h h') : A.rep S h' cs x := A.keep hr hk fun _ _ => by simp
theorem Rp.sub (A : Rp α) {x : α} (hr : A.rep S h cs x) (hs : ∀ b, S b → b < h.length → S' b) : A.rep S' h cs x :=
  A.mono (fun b X hb hx => ⟨hx, hs b hb (get_lt hx)⟩) hr
theorem Rp.go (A : Rp α) {x : α} {M : List Nat} (hr : A.rep S h cs x) (hk : Keep M h h') (hm : ∀ b, S b → b < h.length → b ∉ M ∧ S' b) : A.rep S' h' cs x :=
  A.mono (fun b X hs hb => ⟨hk.get hb (hm b hs (get_lt hb)).1, (hm b hs (get_lt hb)).2⟩) hr
def inK : IntKind → Int → Prop
  | .i8, n => -128 ≤ n ∧ n ≤ 127
  | .i16, n => -32768 ≤ n ∧ n ≤ 32767
  | .i32, n => -2147483648 ≤ n ∧ n ≤ 2147483647
  | .i64, n => -9223372036854775808 ≤ n ∧ n ≤ 9223372036854775807
  | .u8, n => 0 ≤ n ∧ n ≤ 255
  | .u16, n => 0 ≤ n ∧ n ≤ 65535
  | .u32, n => 0 ≤ n ∧ n ≤ 4294967295
  | .u64, n => 0 ≤ n ∧ n ≤ 18446744073709551615
def rI (k : IntKind) : Rp Int where
  sz := 1
  rep _ _ cs x := cs = [.int k x] ∧ inK k x
  len := by rintro S h cs x ⟨rfl, _⟩; rfl
  mono _ h := h
def rB : Rp Bool where
  sz := 1
  rep _ _ cs x := cs = [.bool x]
  len := by rintro S h cs x rfl; rfl
  mono _ h := h
def rS : Rp ByteArray where
  sz := 1
  rep _ _ cs x := cs = [.string x] ∧ x.size < 4611686018427387904
  len := by rintro S h cs x ⟨rfl, _⟩; rfl
  mono _ h := h
def rP (A : Rp α) (B : Rp β) : Rp (α × β) where
  sz := A.sz + B.sz
  rep S h cs x := ∃ c1 c2, cs = c1 ++ c2 ∧ A.rep S h c1 x.1 ∧ B.rep S h c2 x.2
  len := by rintro S h cs x ⟨c1, c2, rfl, ha, hb⟩; rw [List.length_append, A.len ha, B.len hb]
  mono := by rintro S S' h h' cs x hm ⟨c1, c2, rfl, ha, hb⟩; exact ⟨c1, c2, rfl, A.mono hm ha, B.mono hm hb⟩
def rM (f : β → α) (A : Rp α) : Rp β where
  sz := A.sz
  rep S h cs x := A.rep S h cs (f x)
  len := A.len
  mono := A.mono
/-- The cells that a slice leads to. -/
def SlA (S : Nat → Prop) (h : Heap) (a : Option Addr) (n c sz : Nat) (cells : List Value) : Prop :=
  cells.length = n * sz ∧ n < 4611686018427387904 ∧ n ≤ kcap c ∧ (n = 0 ∧ a = none ∨ ∃ b o e cs own, a = some ⟨b, o, none⟩ ∧ S b ∧ h[b]? = some ⟨.cells e cs, own⟩ ∧ (cs.drop o).take (n * sz) = cells)
theorem SlA.mono {a : Option Addr} {n c sz : Nat} {cells : List Value} (hm : ∀ b X, S b → h[b]? = some X → h'[b]? = some X ∧ S' b) (hs : SlA S h a n c sz cells) : SlA S' h' a n c sz cells := by
  obtain ⟨h1, h2, h3, h4⟩ := hs
  refine ⟨h1, h2, h3, ?_⟩
  rcases h4 with h4 | ⟨b, o, e, cs, own, ha, hb, hc, hd⟩
  · exact .inl h4
  · exact .inr ⟨b, o, e, cs, own, ha, (hm b _ hb hc).2, (hm b _ hb hc).1, hd⟩
def chunk (sz i : Nat) (cells : List Value) : List Value := (cells.drop (i * sz)).take sz
def rL (A : Rp α) : Rp (List α) where
  sz := 1
  rep S h cs xs := ∃ a c cells, cs = [.slice a xs.length c] ∧ SlA S h a xs.length c A.sz cells ∧ ∀ i x, xs[i]? = some x → A.rep S h (chunk A.sz i cells) x
  len := by rintro S h cs x ⟨a, c, cells, rfl, _⟩; rfl
  mono := by
    rintro S S' h h' cs xs hm ⟨a, c, cells, rfl, hs, he⟩
    exact ⟨a, c, cells, rfl, hs.mono hm, fun i x hx => A.mono hm (he i x hx)⟩
end
def eltA (a : Option Addr) (k : Nat) : Value := match a with
  | some ⟨b, o, none⟩ => .pointer (some ⟨b, o + k, none⟩)
  | _ => undefA
end Go.Am

namespace Go.Am
open Go
section
variable {P : Program} {S : Nat → Prop} {h : Heap} {a : Option Addr} {n c sz : Nat} {cells : List Value} {t e : TypeId}

theorem SlA.some {hs : SlA S h a n c sz cells} (hn : n ≠ 0) : ∃ b o e cs own, a = some ⟨b, o, none⟩ ∧ S b ∧ h[b]? = some ⟨.cells e cs, own⟩ ∧ (cs.drop o).take (n * sz) = cells := by
  obtain ⟨h1, h2, h3, h4⟩ := hs
  exact h4.resolve_left fun x => hn x.1
theorem SlA.idx (hs : SlA S h a n c sz cells) (ht : sliceT P t = Option.some e) (hz : sizeT P e = Option.some sz) {k : IntKind} {i : Int} (hi : 0 ≤ i) (hn : i < n) : aIndexAddr P t (.slice a n c) (.int k i) = Option.some (eltA a (i.toNat * sz)) := by
  obtain ⟨b, o, e', cs, own, rfl, _, _, _⟩ := SlA.some (hs := hs) (by omega)
  simp only [aIndexAddr, ht, hz, Option.bind_some, eltA]
  rw [if_pos ⟨hi, hn⟩]
theorem take_get {α : Type} {l : List α} {o m j : Nat} {cells : List α} (hc : (l.drop o).take m = cells) (hj : j < cells.length) : l[o + j]? = cells[j]? := by
  subst hc
  rw [List.length_take, List.length_drop] at hj
  rw [List.getElem?_take, if_pos (by omega), List.getElem?_drop]
theorem SlA.load (hs : SlA S h a n c sz cells) (ht : aggT P e = Option.some false) {j : Nat} {v : Value} (hj : cells[j]? = Option.some v) : aLoad P e h (eltA a j) = Option.some v := by
  have hl := (List.getElem?_eq_some_iff.1 hj).1
  have hn : n ≠ 0 := by intro e; subst e; have := hs.1; omega
  obtain ⟨b, o, e', cs, own, rfl, _, hb, hc⟩ := SlA.some (hs := hs) hn
  simp only [eltA, aLoad, hb, aPart, ht, Option.bind_some, cond_false]
  rw [take_get hc hl, hj]
theorem SlA.loadG (hs : SlA S h a n c sz cells) (ht : aggT P e = Option.some true) {m j : Nat} (hm : sizeT P e = Option.some m) (hj : j + m ≤ cells.length) (hn : n ≠ 0) : aLoad P e h (eltA a j) = Option.some (.agg ⟨(cells.drop j).take m⟩) := by
  obtain ⟨b, o, e', cs, own, rfl, _, hb, hc⟩ := SlA.some (hs := hs) hn
  have e1 : (cs.drop (o + j)).take m = (cells.drop j).take m := by
    subst hc
    rw [List.drop_take, List.drop_drop, List.take_take]
    congr 1
    simp at hj
    omega
  have e2 : ((cells.drop j).take m).length = m := by simp; omega
  simp only [eltA, aLoad, hb, aPart, ht, hm, Option.bind_some, cond_true, e1, e2, if_true]
theorem chunk_one {i : Nat} {v : Value} (hi : cells[i]? = Option.some v) : chunk 1 i cells = [v] := by
  unfold chunk
  rw [Nat.mul_one]
  have hl := (List.getElem?_eq_some_iff.1 hi).1
  rw [List.drop_eq_getElem_cons hl]
  have := (List.getElem?_eq_some_iff.1 hi).2
  simp [this]
theorem chunk_len {i : Nat} (h : (i + 1) * sz ≤ cells.length) : (chunk sz i cells).length = sz := by
  unfold chunk
  rw [List.length_take, List.length_drop]
  have : (i + 1) * sz = i * sz + sz := Nat.succ_mul _ _
  omega
end

theorem co_int {k : IntKind} {n : Int} : cellsOfV (.int k n) = some [.int k n] := rfl
theorem co_bool {b : Bool} : cellsOfV (.bool b) = some [.bool b] := rfl
theorem co_str {s : ByteArray} : cellsOfV (.string s) = some [.string s] := rfl
theorem co_ptr {a : Option Addr} : cellsOfV (.pointer a) = some [.pointer a] := rfl
theorem co_slc {a : Option Addr} {n c : Nat} : cellsOfV (.slice a n c) = some [.slice a n c] := rfl
theorem co_fn {f : Fn} {a b : Array Value} : cellsOfV (.func f a b) = some [.func f a b] := rfl
theorem co_agg {l : List Value} : cellsOfV (.agg ⟨l⟩) = some l := rfl
/-! ### lists -/
section
variable {α : Type} {A : Rp α} {P : Program} {S : Nat → Prop} {h : Heap} {v : Value} {xs : List α} {t e : TypeId} {k : IntKind} {x : α}
theorem rL_form (hr : (rL A).rep S h [v] xs) : ∃ a c, v = .slice a xs.length c := by
  obtain ⟨a, c, cells, hv, _⟩ := hr
  exact ⟨a, c, by simpa using hv⟩
theorem rL_len (hr : (rL A).rep S h [v] xs) (hs : sliceT P t = some e) : aLen P t v = some (.int .i64 xs.length) := by
  obtain ⟨a, c, rfl⟩ := rL_form hr
  exact len_slc hs
theorem rL_one (hr : (rL A).rep S h [v] xs) : cellsOfV v = some [v] := by
  obtain ⟨a, c, rfl⟩ := rL_form hr
  rfl
theorem rL_lt (hr : (rL A).rep S h [v] xs) : xs.length < 4611686018427387904 := by
  obtain ⟨a, c, cells, hv, hs, _⟩ := hr
  exact hs.2.1
theorem rL_get (hr : (rL A).rep S h [v] xs) (hs : sliceT P t = some e) (hz : sizeT P e = some A.sz) (hg : aggT P e = some false) (h1 : A.sz = 1) {i : Nat} (hi : xs[i]? = some x) :
    ∃ p w, aIndexAddr P t v (.int k i) = some p ∧ aLoad P e h p = some w ∧ A.rep S h [w] x := by
  obtain ⟨a, c, cells, hv, hsl, he⟩ := hr
  simp only [List.cons.injEq, and_true] at hv
  subst hv
  have hlt := (List.getElem?_eq_some_iff.1 hi).1
  have hx := he i x hi
  have hcl := hsl.1
  rw [h1] at hcl hx
  rw [Nat.mul_one] at hcl
  have hw : cells[i]? = some cells[i] := List.getElem?_eq_getElem (by omega)
  rw [chunk_one hw] at hx
  refine ⟨_, cells[i], hsl.idx hs hz (by omega) (by omega), ?_, hx⟩
  rw [h1, Nat.mul_one, Int.toNat_natCast]
  exact hsl.load hg hw
theorem rL_getG (hr : (rL A).rep S h [v] xs) (hs : sliceT P t = some e) (hz : sizeT P e = some A.sz) (hg : aggT P e = some true) {i : Nat} (hi : xs[i]? = some x) :
    ∃ p cs, aIndexAddr P t v (.int k i) = some p ∧ aLoad P e h p = some (.agg ⟨cs⟩) ∧ A.rep S h cs x := by
  obtain ⟨a, c, cells, hv, hsl, he⟩ := hr
  simp only [List.cons.injEq, and_true] at hv
  subst hv
  have hlt := (List.getElem?_eq_some_iff.1 hi).1
  have hx := he i x hi
  have hcl := hsl.1
  refine ⟨_, _, hsl.idx hs hz (by omega) (by omega), ?_, hx⟩
  rw [Int.toNat_natCast]
  refine hsl.loadG hg hz ?_ (by omega)
  rw [hcl, ← Nat.succ_mul]
  exact Nat.mul_le_mul_right _ hlt
/-- A slice of whole numbers. -/
theorem rLI_get {k' : IntKind} {xs : List Int} {x : Int} (hr : (rL (rI k')).rep S h [v] xs) (hs : sliceT P t = some e) (hz : sizeT P e = some 1) (hg : aggT P e = some false) {i : Nat} (hi : xs[i]? = some x) :
    ∃ p, aIndexAddr P t v (.int k i) = some p ∧ aLoad P e h p = some (.int k' x) ∧ inK k' x := by
  obtain ⟨p, w, h1, h2, h3, h4⟩ := rL_get (k := k) hr hs hz hg rfl hi
  simp only [List.cons.injEq, and_true] at h3
  subst h3
  exact ⟨p, h1, h2, h4⟩
end

/-! ### pointers to what one has made -/
section
variable {P : Program} {h : Heap} {b o : Nat} {t e : TypeId} {cs : List Value} {own : Bool} {v : Value}
theorem ld1 (hb : h[b]? = some ⟨.cells e cs, own⟩) (ht : aggT P t = some false) : aLoad P t h (.pointer (some ⟨b, o, none⟩)) = cs[o]? := by
  simp only [aLoad, hb, aPart, ht, Option.bind_some, cond_false]
theorem ldG (hb : h[b]? = some ⟨.cells e cs, own⟩) (ht : aggT P t = some true) {n : Nat} (hz : sizeT P t = some n) (hl : o + n ≤ cs.length) : aLoad P t h (.pointer (some ⟨b, o, none⟩)) = some (.agg ⟨(cs.drop o).take n⟩) := by
  simp only [aLoad, hb, aPart, ht, hz, Option.bind_some, cond_true]
  rw [if_pos (by simp; omega)]
/-- All of it. -/
theorem ldA (hb : h[b]? = some ⟨.cells e cs, own⟩) (ht : aggT P t = some true) (hz : sizeT P t = some cs.length) : aLoad P t h (.pointer (some ⟨b, 0, none⟩)) = some (.agg ⟨cs⟩) := by
  rw [ldG hb ht hz (by omega)]
  simp
theorem cellsOfV_agg_ne {l : List Value} : cellsOfV (.agg ⟨l⟩) ≠ some [.agg ⟨l⟩] := by
  intro h
  simp only [cellsOfV, Option.some.injEq] at h
  have h2 : SizeOf.sizeOf l = SizeOf.sizeOf [Value.agg ⟨l⟩] := congrArg (fun x : List Value => SizeOf.sizeOf x) h
  simp at h2
  omega
theorem st1 (hb : h[b]? = some ⟨.cells e cs, true⟩) (hz : sizeT P t = some 1) (ho : o < cs.length) (hv : cellsOfV v = some [v]) : aStore P t (.pointer (some ⟨b, o, none⟩)) v h = some (h.set b ⟨.cells e (cs.set o v), true⟩) := by
  simp only [aStore, hb]
  cases v
  case agg l =>
    obtain ⟨l⟩ := l
    exact absurd hv cellsOfV_agg_ne
  case tuple l => simp [cellsOfV] at hv
  all_goals
    simp only [hz]
    rw [if_pos ⟨trivial, ho⟩]
theorem stG {l : List Value} (hb : h[b]? = some ⟨.cells e cs, true⟩) (hz : sizeT P t = some l.length) (ho : o + l.length ≤ cs.length) : aStore P t (.pointer (some ⟨b, o, none⟩)) (.agg ⟨l⟩) h = some (h.set b ⟨.cells e (cs.take o ++ l ++ cs.drop (o + l.length)), true⟩) := by
  simp only [aStore, hb, hz]
  rw [if_pos ⟨trivial, ho⟩]
theorem stA {l : List Value} (hb : h[b]? = some ⟨.cells e cs, true⟩) (hz : sizeT P t = some l.length) (hl : cs.length = l.length) : aStore P t (.pointer (some ⟨b, 0, none⟩)) (.agg ⟨l⟩) h = some (h.set b ⟨.cells e l, true⟩) := by
  rw [stG hb hz (by omega)]
  have : cs.drop l.length = [] := List.drop_eq_nil_iff.2 (by omega)
  simp [this]
end

/-! ### steps that write -/
section
variable {P : Program} {h : Heap} {b o : Nat} {t e : TypeId} {cs : List Value} {v : Value} {Q : Ret → Heap → Prop} {k : Heap → R}
theorem wp_new {m : Option (Blk × (Nat → Value))} {X : Blk} {f : Nat → Value} {k : Value → Heap → R} (hm : m = some (X, f))
    (hk : ∀ h', Keep [] h h' → h'[h.length]? = some X → h'.length = h.length + 1 → WP (k (f h.length) h') Q) : WP (anew m h k) Q := by
  subst hm
  exact hk _ (Keep.push _ _ _) (get_new _ _) (by simp)
theorem wp_put {m : Option (Blk × (Nat → Value))} {X : Blk} {f : Nat → Value} {k : Value → Heap → R} {i : Nat} (hm : m = some (X, f)) (hi : i < h.length)
    (hk : ∀ h', Keep [i] h h' → h'[i]? = some X → h'.length = h.length → WP (k (f i) h') Q) : WP (aput m i h k) Q := by
  subst hm
  exact hk _ (Keep.set _ _ _) (by rw [List.getElem?_set_self hi]) (by simp)
theorem wp_store {e' : Option Heap} {X Y : Blk} (he : e' = some (h.set b X)) (hb : h[b]? = some Y) (hk : ∀ h', Keep [b] h h' → h'[b]? = some X → h'.length = h.length → WP (k h') Q) : WP (obnd e' k) Q := by
  subst he
  exact hk _ (Keep.set _ _ _) (get_set _ hb) (by simp)
theorem wp_st1 (hb : h[b]? = some ⟨.cells e cs, true⟩) (hz : sizeT P t = some 1) (ho : o < cs.length) (hv : cellsOfV v = some [v])
    (hk : ∀ h', Keep [b] h h' → h'[b]? = some ⟨.cells e (cs.set o v), true⟩ → h'.length = h.length → WP (k h') Q) : WP (obnd (aStore P t (.pointer (some ⟨b, o, none⟩)) v h) k) Q :=
  wp_store (st1 hb hz ho hv) hb hk
theorem wp_stA {l : List Value} (hb : h[b]? = some ⟨.cells e cs, true⟩) (hz : sizeT P t = some l.length) (hl : cs.length = l.length)
    (hk : ∀ h', Keep [b] h h' → h'[b]? = some ⟨.cells e l, true⟩ → h'.length = h.length → WP (k h') Q) : WP (obnd (aStore P t (.pointer (some ⟨b, 0, none⟩)) (.agg ⟨l⟩) h) k) Q :=
  wp_store (stA hb hz hl) hb hk
theorem wp_stG {l : List Value} (hb : h[b]? = some ⟨.cells e cs, true⟩) (hz : sizeT P t = some l.length) (ho : o + l.length ≤ cs.length)
    (hk : ∀ h', Keep [b] h h' → h'[b]? = some ⟨.cells e (cs.take o ++ l ++ cs.drop (o + l.length)), true⟩ → h'.length = h.length → WP (k h') Q) : WP (obnd (aStore P t (.pointer (some ⟨b, o, none⟩)) (.agg ⟨l⟩) h) k) Q :=
  wp_store (stG hb hz ho) hb hk
end
/-! ### what is asked of drawn regions -/
theorem wp_chkRd {qs : List Nat} {ys : List Heap} {h : Heap} {k : R} {e : Option Nat} {b : Nat} {Q : Ret → Heap → Prop} (he : e = some b) (hq : ∀ q, q ∈ qs → b ≠ q) (hy : ∀ y, y ∈ ys → y[b]? = h[b]?) (hk : WP k Q) : WP (chkRd qs ys h k e) Q := by
  subst he
  have h1 : ∀ ys : List Heap, (∀ y, y ∈ ys → y[b]? = h[b]?) → chkReads ys b h k = k := by
    intro ys hy
    induction ys with
    | nil => rfl
    | cons y ys ih =>
      unfold chkReads
      rw [if_pos (hy y List.mem_cons_self)]
      exact ih fun z hz => hy z (List.mem_cons_of_mem _ hz)
  have h2 : ∀ (qs : List Nat) (r : R), (∀ q, q ∈ qs → b ≠ q) → chkOld qs b r = r := by
    intro qs r hq
    induction qs with
    | nil => rfl
    | cons q qs ih =>
      unfold chkOld
      rw [if_neg (hq q List.mem_cons_self)]
      exact ih fun z hz => hq z (List.mem_cons_of_mem _ hz)
  cases qs with
  | nil =>
    cases ys with
    | nil => exact hk
    | cons y ys => show WP (chkReads (y :: ys) b h k) Q; rw [h1 _ hy]; exact hk
  | cons q qs =>
    have e : chkRd (q :: qs) ys h k (some b) = chkOld (q :: qs) b (chkReads ys b h k) := by cases ys <;> rfl
    rw [e, h2 _ _ hq, h1 _ hy]; exact hk
theorem wp_chkActs {l : List (Option Nat × Heap)} {h : Heap} {k : R} {Q : Ret → Heap → Prop} (hl : ∀ x, x ∈ l → ∀ b, x.1 = some b → h[b]? = x.2[b]?) (hk : WP k Q) : WP (chkActs l h k) Q := by
  have : chkActs l h k = k := by
    induction l with
    | nil => rfl
    | cons x l ih =>
      obtain ⟨o, y⟩ := x
      have ih := ih fun z hz => hl z (List.mem_cons_of_mem _ hz)
      cases o with
      | none => unfold chkActs; exact ih
      | some b =>
        unfold chkActs
        rw [if_pos (hl (some b, y) List.mem_cons_self b rfl)]
        exact ih
  rw [this]
  exact hk
end Go.Am

namespace Go.Am
open Go
theorem pureRun_bind {α β : Type} {P : Program} {m : Sem α} {f : α → Sem β} : pureRun P (m >>= f) = (pureRun P m).bind fun a => pureRun P (f a) := by
  induction m with
  | pure a => rfl
  | program k ih => exact ih P
  | mark m k ih => exact ih
  | _ => rfl
def eqPF (P : Program) (d : Nat) (xs ys : Array Value) : List Field → Option Bool
  | [] => some true
  | f :: fs =>
    if f.name ≠ "_" then
      (pureRun P (part f.type xs f.offset)).bind fun a => (pureRun P (part f.type ys f.offset)).bind fun b => (pureRun P (Op.equalIn d f.type a b)).bind fun r => bif r then eqPF P d xs ys fs else some false
    else eqPF P d xs ys fs
theorem pureRun_program {α : Type} {P : Program} {f : Program → Sem α} : pureRun P (program >>= f) = pureRun P (f P) := rfl
theorem pureRun_pure {α : Type} {P : Program} {a : α} : pureRun P (pure a : Sem α) = some a := rfl
theorem eq_struct {P : Program} {d : Nat} {t : TypeId} {xs ys : Array Value} {fs : Array Field} (ht : P.underlying t = some (.struct fs)) (hp : P.stoodInHeld t = false) :
    pureRun P (Op.equalIn (d + 1) t (.agg xs) (.agg ys)) = eqPF P d xs ys fs.toList := by
  unfold Op.equalIn
  rw [pureRun_underlying ht]
  simp only
  rw [pureRun_program, hp]
  simp only [Bool.false_eq_true, if_false]
  rw [← Array.forIn_toList, pureRun_bind]
  generalize fs.toList = l
  clear ht
  induction l with
  | nil => rfl
  | cons f l ih =>
    simp only [List.forIn_cons, eqPF, pureRun_bind]
    split
    · simp only [pureRun_bind]
      cases pureRun P (part f.type xs f.offset) with
      | none => rfl
      | some a =>
        cases pureRun P (part f.type ys f.offset) with
        | none => rfl
        | some b =>
          simp only [Option.bind_some]
          cases pureRun P (Op.equalIn d f.type a b) with
          | none => rfl
          | some r =>
            cases r with
            | false => rfl
            | true =>
              simp only [Option.bind_some, Bool.not_true, Bool.false_eq_true, if_false, cond_true]
              exact ih
    · exact ih
theorem eq_int {P : Program} {d : Nat} {t : TypeId} {k k' : IntKind} {a b : Int} (ht : P.underlying t = some (.int k')) : pureRun P (Op.equalIn (d + 1) t (.int k a) (.int k b)) = some (decide (a = b)) := by
  unfold Op.equalIn
  rw [pureRun_underlying ht]
  simp only [if_true]
  rw [pureRun_pure]
  rfl
theorem eq_str {P : Program} {d : Nat} {t : TypeId} {a b : ByteArray} (ht : P.underlying t = some .string) : pureRun P (Op.equalIn (d + 1) t (.string a) (.string b)) = some (a.toList == b.toList) := by
  unfold Op.equalIn
  rw [pureRun_underlying ht]
  simp only
  rw [pureRun_pure, beq_toListBytes]
theorem agg_eql {P : Program} {t : TypeId} {xs ys : Array Value} {xo yo : Operand} {b : Bool} (h1 : pureV (.agg xs) = true) (h2 : pureV (.agg ys) = true) (hg : pureRun P (eqGuard .eql t xo yo (.agg xs) (.agg ys)) = some ()) (he : pureRun P (Op.equal t (.agg xs) (.agg ys)) = some b) :
    aBin P .eql t (.agg xs) (.agg ys) xo yo = some (.bool b) := by
  unfold aBin
  rw [h1, h2]
  have e : binOp .eql t (.agg xs) (.agg ys) = (do pure (.bool (← Op.equal t (.agg xs) (.agg ys)))) := rfl
  simp only [Bool.and_self, cond_true, pureRun_bind, hg, Option.bind_some, e, he, pureRun_pure]
  rfl
theorem agg_neq {P : Program} {t : TypeId} {xs ys : Array Value} {xo yo : Operand} {b : Bool} (h1 : pureV (.agg xs) = true) (h2 : pureV (.agg ys) = true) (hg : pureRun P (eqGuard .neq t xo yo (.agg xs) (.agg ys)) = some ()) (he : pureRun P (Op.equal t (.agg xs) (.agg ys)) = some b) :
    aBin P .neq t (.agg xs) (.agg ys) xo yo = some (.bool (!b)) := by
  unfold aBin
  rw [h1, h2]
  have e : binOp .neq t (.agg xs) (.agg ys) = (do pure (.bool (!(← Op.equal t (.agg xs) (.agg ys))))) := rfl
  simp only [Bool.and_self, cond_true, pureRun_bind, hg, Option.bind_some, e, he, pureRun_pure]
  rfl
end Go.Am

namespace Go.Am
open Go
def blks (v : Value) : List Nat := match blkOf v with
  | some b => [b]
  | none => []
/-- A list of one's own: its first cells; what is behind them is not told. -/
def OwnL (h : Heap) (v : Value) (e : TypeId) (sz n : Nat) (cells : List Value) : Prop :=
  cells.length = n * sz ∧ n < 1152921504606846976 ∧ ((v = .slice none 0 0 ∧ n = 0) ∨ ∃ b c spare, v = .slice (some ⟨b, 0, none⟩) n c ∧ h[b]? = some ⟨.cells e (cells ++ spare), true⟩ ∧ n ≤ kcap c ∧ spare.length = (kcap c - n) * sz ∧ (capFlag ≤ c → kcap c ≠ 0))
theorem OwnL.nil (h : Heap) (e : TypeId) (sz : Nat) : OwnL h (.slice none 0 0) e sz 0 [] := ⟨by simp, by omega, .inl ⟨rfl, rfl⟩⟩
theorem OwnL.go {h h' : Heap} {v : Value} {e : TypeId} {sz n : Nat} {cells : List Value} {M : List Nat} (ho : OwnL h v e sz n cells) (hk : Keep M h h') (hm : ∀ b, b ∈ blks v → b ∉ M) : OwnL h' v e sz n cells := by
  obtain ⟨h1, h2, h3⟩ := ho
  refine ⟨h1, h2, ?_⟩
  rcases h3 with h3 | ⟨b, c, spare, rfl, hb, h4⟩
  · exact .inl h3
  · exact .inr ⟨b, c, spare, rfl, hk.get hb (hm b (by simp [blks, blkOf])), h4⟩
theorem OwnL.lt {h : Heap} {v : Value} {e : TypeId} {sz n : Nat} {cells : List Value} (ho : OwnL h v e sz n cells) : ∀ b, b ∈ blks v → b < h.length := by
  obtain ⟨h1, h2, h3⟩ := ho
  rcases h3 with ⟨rfl, _⟩ | ⟨b, c, spare, rfl, hb, h4⟩
  · intro b hb; simp [blks, blkOf] at hb
  · intro b' hb'
    simp only [blks, blkOf, List.mem_singleton] at hb'
    subst hb'
    exact get_lt hb
theorem OwnL.form {h : Heap} {v : Value} {e : TypeId} {sz n : Nat} {cells : List Value} (ho : OwnL h v e sz n cells) : ∃ a c, v = .slice a n c := by
  obtain ⟨h1, h2, h3⟩ := ho
  rcases h3 with ⟨rfl, rfl⟩ | ⟨b, c, spare, rfl, hb, h4⟩
  · exact ⟨_, _, rfl⟩
  · exact ⟨_, _, rfl⟩
theorem OwnL.SlA {h : Heap} {v : Value} {e : TypeId} {sz n : Nat} {cells : List Value} (ho : OwnL h v e sz n cells) : ∃ a c, v = .slice a n c ∧ SlA (fun b => b ∈ blks v) h a n c sz cells := by
  obtain ⟨h1, h2, h3⟩ := ho
  rcases h3 with ⟨rfl, rfl⟩ | ⟨b, c, spare, rfl, hb, h4, h5⟩
  · exact ⟨none, 0, rfl, h1, by omega, by simp, .inl ⟨rfl, rfl⟩⟩
  · refine ⟨_, c, rfl, h1, by omega, h4, .inr ⟨b, 0, e, _, true, rfl, by simp [blks, blkOf], hb, ?_⟩⟩
    rw [List.drop_zero, List.take_left' h1]
/-- What is one's own reads as a list. -/
theorem OwnL.rep {α : Type} {A : Rp α} {h : Heap} {v : Value} {e : TypeId} {cells : List Value} {xs : List α} {S : Nat → Prop} (ho : OwnL h v e A.sz xs.length cells) (hs : ∀ b, b ∈ blks v → S b) (he : ∀ i x, xs[i]? = some x → A.rep S h (chunk A.sz i cells) x) : (rL A).rep S h [v] xs := by
  obtain ⟨a, c, rfl, hsl⟩ := ho.SlA
  exact ⟨a, c, cells, rfl, hsl.mono (fun b X hb hx => ⟨hx, hs b hb⟩), he⟩

theorem src_SlA {S : Nat → Prop} {h : Heap} {a : Option Addr} {n c sz : Nat} {cells : List Value} (hs : SlA S h a n c sz cells) : srcCells sz h (.slice a n c) = some (cells, n) := by
  obtain ⟨h1, h2, h3, h4⟩ := hs
  rcases h4 with ⟨rfl, rfl⟩ | ⟨b, o, e, cs, own, rfl, _, hb, hc⟩
  · have : cells = [] := List.length_eq_zero_iff.1 (by omega)
    subst this
    rfl
  · simp only [srcCells, hb]
    rw [hc, if_pos h1]
theorem src_rL {α : Type} {A : Rp α} {S : Nat → Prop} {h : Heap} {v : Value} {xs : List α} (hr : (rL A).rep S h [v] xs) : ∃ cells, srcCells A.sz h v = some (cells, xs.length) ∧ cells.length = xs.length * A.sz ∧ ∀ i x, xs[i]? = some x → A.rep S h (chunk A.sz i cells) x := by
  obtain ⟨a, c, cells, hv, hsl, he⟩ := hr
  simp only [List.cons.injEq, and_true] at hv
  subst hv
  exact ⟨cells, src_SlA hsl, hsl.1, he⟩
theorem src_own {h : Heap} {v : Value} {e : TypeId} {sz n : Nat} {cells : List Value} (ho : OwnL h v e sz n cells) : srcCells sz h v = some (cells, n) := by
  obtain ⟨a, c, rfl, hsl⟩ := ho.SlA
  exact src_SlA hsl
theorem src_lit {h : Heap} {b : Nat} {e : TypeId} {sz n c : Nat} {cs : List Value} (hb : h[b]? = some ⟨.cells e cs, true⟩) (hl : cs.length = n * sz) : srcCells sz h (.slice (some ⟨b, 0, none⟩) n c) = some (cs, n) := by
  simp only [srcCells, hb, List.drop_zero]
  rw [List.take_of_length_le (by omega), if_pos hl]

theorem zeroFits_of {P : Program} {e : TypeId} {z : Value} {zs : List Value} (hz : zeroT P e = some z) (hzs : cellsOfV z = some zs) : zeroFits P e zs.length = true := by
  simp [zeroFits, hz, hzs]
theorem app_own {P : Program} {t0 t1 e : TypeId} {h : Heap} {v x z : Value} {sz by_ n m : Nat} {cells new zs : List Value} (hv : OwnL h v e sz n cells) (ht : sliceT P t0 = some e) (hi : (P.info? e).map (fun i => (i.size, i.bytes)) = some (sz, by_)) (hn : notIntT P t1 = true)
    (hz : zeroT P e = some z) (hzs : cellsOfV z = some zs) (hzl : zs.length = sz) (hsz : 0 < sz) (hsrc : srcCells sz h x = some (new, m)) (hl : new.length = m * sz) (hb1 : (n + m) * by_ ≤ 70368744177664) (hb2 : n + m < 1152921504606846976) (hb3 : by_ ≤ 4294967296) :
    ∃ v' h', aAppend P t0 t1 v x h = some (v', h') ∧ OwnL h' v' e sz (n + m) (cells ++ new) ∧ Keep (blks v) h h' ∧ ∀ b, b ∈ blks v' → b ∈ blks v ∨ h.length ≤ b := by
  obtain ⟨i, hi1, hi2⟩ := Option.map_eq_some_iff.1 hi
  simp only [Prod.mk.injEq] at hi2
  obtain ⟨e1, e2⟩ := hi2
  obtain ⟨a, c0, hform⟩ := hv.form
  have hzf : zeroFits P e i.size = true := by rw [e1, ← hzl]; exact zeroFits_of hz hzs
  have hstart : aAppend P t0 t1 v x h = aApp e sz by_ a n c0 new m h := by
    rw [hform]
    rw [e1] at hzf
    simp only [aAppend, ht, hi1, Option.bind_some, hn, e1, hzf, hsz, decide_true, Bool.and_self, cond_true, hsrc, e2]
  rw [hstart]
  obtain ⟨h1, h2, h3⟩ := hv
  have hmul : (n + m) * sz = n * sz + m * sz := Nat.add_mul _ _ _
  unfold aApp
  by_cases hm : m = 0
  · rw [if_pos hm]
    subst hm
    have : new = [] := List.length_eq_zero_iff.1 (by omega)
    subst this
    refine ⟨_, _, rfl, ?_, Keep.refl _ _, fun b hb => .inl (by rw [hform]; exact hb)⟩
    rw [← hform]
    exact ⟨by simpa using h1, by omega, by simpa using h3⟩
  · rw [if_neg hm, if_pos ⟨hb1, hb2, hb3⟩]
    have fresh : ∀ (h2 : Heap), h2.length = h.length → OwnL (h2 ++ [newBlk e (cells ++ new)]) (.slice (some ⟨h.length, 0, none⟩) (n + m) (capFlag + (n + m))) e sz (n + m) (cells ++ new) := by
      intro h2 hl2
      refine ⟨by rw [List.length_append, h1, hl, hmul], hb2, .inr ⟨h.length, _, [], rfl, ?_, ?_, ?_, ?_⟩⟩
      · rw [← hl2, List.append_nil]; exact get_new _ _
      · simp [kcap]
      · simp [kcap]
      · intro _; simp [kcap]; omega
    rcases h3 with ⟨hv1, hn0⟩ | ⟨b, c, spare, hv1, hb, hc, hsp, hfl⟩
    · rw [hv1] at hform
      simp only [Value.slice.injEq] at hform
      obtain ⟨rfl, h0, rfl⟩ := hform
      subst hn0
      have : cells = [] := List.length_eq_zero_iff.1 (by omega)
      subst this
      simp only
      rw [if_pos ⟨trivial, trivial⟩]
      refine ⟨_, _, rfl, ?_, Keep.push _ _ _, ?_⟩
      · have := fresh h rfl
        simpa using this
      · intro b hb
        simp [blks, blkOf] at hb
        exact .inr (by omega)
    · rw [hv1] at hform
      simp only [Value.slice.injEq, true_and] at hform
      obtain ⟨rfl, rfl⟩ := hform
      simp only [hb]
      have hcs : (cells ++ spare).length = kcap c * sz := by
        rw [List.length_append, h1, hsp, ← Nat.add_mul]; congr 1; omega
      have htk : ((cells ++ spare).drop 0).take (n * sz) = cells := by rw [List.drop_zero, List.take_left' h1]
      have hbk : blks v = [b] := by rw [hv1]; rfl
      by_cases hroom : n + m ≤ kcap c
      · have hle : (n + m) * sz ≤ kcap c * sz := Nat.mul_le_mul_right _ hroom
        rw [if_pos hroom, if_pos ⟨trivial, trivial, by rw [hcs]; omega⟩]
        refine ⟨_, _, rfl, ⟨by rw [List.length_append, h1, hl, hmul], hb2, .inr ⟨b, c, (cells ++ spare).drop ((n + m) * sz), rfl, ?_, hroom, ?_, hfl⟩⟩, by rw [hbk]; exact Keep.set _ _ _, ?_⟩
        · rw [get_set _ hb]
          congr 3
          rw [Nat.zero_add, Nat.zero_add, List.take_left' h1]
        · rw [List.length_drop, hcs, ← Nat.sub_mul]
        · intro b' hb'
          rw [hbk]
          exact .inl hb'
      · rw [if_neg hroom]
        by_cases hflag : capFlag ≤ c
        · rw [if_pos hflag, if_pos ⟨trivial, trivial, hfl hflag, hc, by rw [hcs]; omega⟩]
          refine ⟨_, _, rfl, ?_, ?_, ?_⟩
          · rw [htk]
            exact fresh _ (by simp)
          · rw [hbk]
            exact (Keep.set h b _).trans (Keep.push _ _ _)
          · intro b' hb'
            simp [blks, blkOf] at hb'
            exact .inr (by omega)
        · have hle : n * sz ≤ kcap c * sz := Nat.mul_le_mul_right _ hc
          have hkc : kcap c = c := by unfold kcap; rw [if_neg hflag]
          rw [if_neg hflag, if_pos ⟨by rw [hcs]; omega, by omega⟩]
          refine ⟨_, _, rfl, ?_, ?_, ?_⟩
          · rw [htk]
            exact fresh _ rfl
          · exact Keep.push _ _ _
          · intro b' hb'
            simp [blks, blkOf] at hb'
            exact .inr (by omega)
theorem wp_app {P : Program} {t0 t1 e : TypeId} {h : Heap} {v x z : Value} {sz by_ n m : Nat} {cells new zs : List Value} {k : Value × Heap → R} {Q : Ret → Heap → Prop} (hv : OwnL h v e sz n cells) (ht : sliceT P t0 = some e) (hi : (P.info? e).map (fun i => (i.size, i.bytes)) = some (sz, by_)) (hn : notIntT P t1 = true)
    (hz : zeroT P e = some z) (hzs : cellsOfV z = some zs) (hzl : zs.length = sz) (hsz : 0 < sz) (hsrc : srcCells sz h x = some (new, m)) (hl : new.length = m * sz) (hb1 : (n + m) * by_ ≤ 70368744177664) (hb2 : n + m < 1152921504606846976) (hb3 : by_ ≤ 4294967296)
    (hk : ∀ v' h', OwnL h' v' e sz (n + m) (cells ++ new) → Keep (blks v) h h' → (∀ b, b ∈ blks v' → b ∈ blks v ∨ h.length ≤ b) → WP (k (v', h')) Q) : WP (obnd (aAppend P t0 t1 v x h) k) Q := by
  obtain ⟨v', h', e1, e2, e3, e4⟩ := app_own hv ht hi hn hz hzs hzl hsz hsrc hl hb1 hb2 hb3
  rw [e1]
  exact hk v' h' e2 e3 e4
/-! ### lists that may be written -/
def SlW (S : Nat → Prop) (h : Heap) (a : Option Addr) (n c sz : Nat) (cells : List Value) : Prop :=
  cells.length = n * sz ∧ n < 4611686018427387904 ∧ n ≤ kcap c ∧ (n = 0 ∧ a = none ∨ ∃ b o e cs, a = some ⟨b, o, none⟩ ∧ S b ∧ h[b]? = some ⟨.cells e cs, true⟩ ∧ (cs.drop o).take (n * sz) = cells)
theorem SlW.toA {S : Nat → Prop} {h : Heap} {a : Option Addr} {n c sz : Nat} {cells : List Value} (hs : SlW S h a n c sz cells) : SlA S h a n c sz cells := by
  obtain ⟨h1, h2, h3, h4⟩ := hs
  refine ⟨h1, h2, h3, ?_⟩
  rcases h4 with h4 | ⟨b, o, e, cs, h5, h6, h7, h8⟩
  · exact .inl h4
  · exact .inr ⟨b, o, e, cs, true, h5, h6, h7, h8⟩
theorem SlW.mono {S S' : Nat → Prop} {h h' : Heap} {a : Option Addr} {n c sz : Nat} {cells : List Value} (hm : ∀ b X, S b → h[b]? = some X → h'[b]? = some X ∧ S' b) (hs : SlW S h a n c sz cells) : SlW S' h' a n c sz cells := by
  obtain ⟨h1, h2, h3, h4⟩ := hs
  refine ⟨h1, h2, h3, ?_⟩
  rcases h4 with h4 | ⟨b, o, e, cs, ha, hb, hc, hd⟩
  · exact .inl h4
  · exact .inr ⟨b, o, e, cs, ha, (hm b _ hb hc).2, (hm b _ hb hc).1, hd⟩
def rLw {α : Type} (A : Rp α) : Rp (List α) where
  sz := 1
  rep S h cs xs := ∃ a c cells, cs = [.slice a xs.length c] ∧ SlW S h a xs.length c A.sz cells ∧ ∀ i x, xs[i]? = some x → A.rep S h (chunk A.sz i cells) x
  len := by rintro S h cs x ⟨a, c, cells, rfl, _⟩; rfl
  mono := by
    rintro S S' h h' cs xs hm ⟨a, c, cells, rfl, hs, he⟩
    exact ⟨a, c, cells, rfl, hs.mono hm, fun i x hx => A.mono hm (he i x hx)⟩
theorem rLw.toL {α : Type} {A B : Rp α} {S : Nat → Prop} {h : Heap} {v : Value} {xs : List α} (hsz : A.sz = B.sz) (he : ∀ cs x, A.rep S h cs x → B.rep S h cs x) (hr : (rLw A).rep S h [v] xs) : (rL B).rep S h [v] xs := by
  obtain ⟨a, c, cells, hv, hs, hx⟩ := hr
  refine ⟨a, c, cells, hv, ?_, fun i x hi => ?_⟩
  · rw [← hsz]; exact hs.toA
  · rw [← hsz]; exact he _ _ (hx i x hi)
theorem rLw_nil {α : Type} {A : Rp α} {S : Nat → Prop} {h : Heap} : (rLw A).rep S h [.slice none 0 0] ([] : List α) :=
  ⟨none, 0, [], rfl, ⟨by simp, by simp, by simp, .inl ⟨rfl, rfl⟩⟩, fun i x hx => by simp at hx⟩
theorem OwnL.SlW {h : Heap} {v : Value} {e : TypeId} {sz n : Nat} {cells : List Value} (ho : OwnL h v e sz n cells) : ∃ a c, v = .slice a n c ∧ SlW (fun b => b ∈ blks v) h a n c sz cells := by
  obtain ⟨h1, h2, h3⟩ := ho
  rcases h3 with ⟨rfl, rfl⟩ | ⟨b, c, spare, rfl, hb, h4, h5⟩
  · exact ⟨none, 0, rfl, h1, by omega, by simp, .inl ⟨rfl, rfl⟩⟩
  · refine ⟨_, c, rfl, h1, by omega, h4, .inr ⟨b, 0, e, _, rfl, by simp [blks, blkOf], hb, ?_⟩⟩
    rw [List.drop_zero, List.take_left' h1]
theorem OwnL.repW {α : Type} {A : Rp α} {h : Heap} {v : Value} {e : TypeId} {cells : List Value} {xs : List α} {S : Nat → Prop} (ho : OwnL h v e A.sz xs.length cells) (hs : ∀ b, b ∈ blks v → S b) (he : ∀ i x, xs[i]? = some x → A.rep S h (chunk A.sz i cells) x) : (rLw A).rep S h [v] xs := by
  obtain ⟨a, c, rfl, hsl⟩ := ho.SlW
  exact ⟨a, c, cells, rfl, hsl.mono (fun b X hb hx => ⟨hx, hs b hb⟩), he⟩
end Go.Am

namespace Go.Am
open Go
def byteV (b : UInt8) : Value := .int .u8 b.toNat
def rBy : Rp (List UInt8) := rM (fun l => l.map fun b => (b.toNat : Int)) (rL (rI .u8))
theorem cells_of_ints {k : IntKind} {S : Nat → Prop} {h : Heap} {cells : List Value} {xs : List Int} (hl : cells.length = xs.length) (he : ∀ i x, xs[i]? = some x → (rI k).rep S h (chunk 1 i cells) x) : cells = xs.map (.int k) := by
  refine List.ext_getElem? fun i => ?_
  rw [List.getElem?_map]
  by_cases hi : i < xs.length
  · have hx := List.getElem?_eq_getElem hi
    have hc : cells[i]? = some cells[i] := List.getElem?_eq_getElem (by omega)
    obtain ⟨h1, _⟩ := he i _ hx
    rw [chunk_one hc] at h1
    simp only [List.cons.injEq, and_true] at h1
    rw [hc, hx, h1]
    rfl
  · rw [List.getElem?_eq_none (by omega), List.getElem?_eq_none (by omega)]
    rfl
section
variable {P : Program} {S : Nat → Prop} {h : Heap} {v : Value} {bs : List UInt8} {t e d : TypeId}
theorem rBy_open (hr : rBy.rep S h [v] bs) : ∃ a c, v = .slice a bs.length c ∧ SlA S h a bs.length c 1 (bs.map byteV) := by
  obtain ⟨a, c, cells, hv, hsl, he⟩ := hr
  simp only [List.cons.injEq, and_true] at hv
  rw [List.length_map] at hv hsl
  have hc : cells = bs.map byteV := by
    rw [cells_of_ints (by rw [hsl.1, List.length_map, show (rI IntKind.u8).sz = 1 from rfl, Nat.mul_one]) he, List.map_map]
    rfl
  subst hc
  exact ⟨a, c, hv, hsl⟩
theorem inK_byte (b : UInt8) : inK .u8 (b.toNat : Int) := by
  have := b.toNat_lt
  simp only [inK]
  omega
theorem rBy_mk {a : Option Addr} {c : Nat} (hs : SlA S h a bs.length c 1 (bs.map byteV)) : rBy.rep S h [.slice a bs.length c] bs := by
  refine ⟨a, c, bs.map byteV, by simp, by rw [List.length_map]; exact hs, fun i x hx => ?_⟩
  rw [List.getElem?_map, Option.map_eq_some_iff] at hx
  obtain ⟨b, hb, rfl⟩ := hx
  have : (bs.map byteV)[i]? = some (byteV b) := by rw [List.getElem?_map, hb]; rfl
  exact ⟨chunk_one this, inK_byte b⟩
theorem rBy_len (hr : rBy.rep S h [v] bs) (hs : sliceT P t = some e) : aLen P t v = some (.int .i64 bs.length) := by
  obtain ⟨a, c, rfl, _⟩ := rBy_open hr
  exact len_slc hs
theorem rBy_one (hr : rBy.rep S h [v] bs) : cellsOfV v = some [v] := by
  obtain ⟨a, c, rfl, _⟩ := rBy_open hr
  rfl
theorem rBy_lt (hr : rBy.rep S h [v] bs) : bs.length < 4611686018427387904 := by
  obtain ⟨a, c, rfl, h1, h2, _⟩ := rBy_open hr
  exact h2
theorem rBy_get {k : IntKind} (hr : rBy.rep S h [v] bs) (hs : sliceT P t = some e) (hz : sizeT P e = some 1) (hg : aggT P e = some false) {i : Nat} {b : UInt8} (hi : bs[i]? = some b) :
    ∃ p, aIndexAddr P t v (.int k i) = some p ∧ aLoad P e h p = some (.int .u8 b.toNat) := by
  obtain ⟨a, c, rfl, hsl⟩ := rBy_open hr
  have hlt := (List.getElem?_eq_some_iff.1 hi).1
  refine ⟨_, hsl.idx hs hz (by omega) (by omega), ?_⟩
  rw [Int.toNat_natCast, Nat.mul_one]
  exact hsl.load hg (by rw [List.getElem?_map, hi]; rfl)
theorem src_rBy (hr : rBy.rep S h [v] bs) : srcCells 1 h v = some (bs.map byteV, bs.length) := by
  obtain ⟨a, c, rfl, hsl⟩ := rBy_open hr
  exact src_SlA hsl
theorem bytesV_map : ∀ (bs : List UInt8), bytesV (bs.map byteV) = some bs
  | [] => rfl
  | b :: bs => by
    have e : bytesV (List.map byteV (b :: bs)) = (bytesV (bs.map byteV)).map fun l => UInt8.ofNat ((b.toNat : Int)).toNat :: l := rfl
    rw [e, bytesV_map bs]
    simp
theorem rBy_str (hr : rBy.rep S h [v] bs) (hd : P.underlying d = some .string) (hs : sliceT P t = some e) (he : P.underlying e = some (.int .u8)) : aBytesStr P t d h v = some (.string ⟨⟨bs⟩⟩) := by
  obtain ⟨a, c, rfl, h1, h2, h3, h4⟩ := rBy_open hr
  rcases h4 with ⟨hn, rfl⟩ | ⟨b, o, e', cs, own, rfl, _, hb, hc⟩
  · have : bs = [] := List.length_eq_zero_iff.1 hn
    subst this
    simp [aBytesStr, hd, hs, he]
  · rw [Nat.mul_one] at hc
    simp only [aBytesStr, hb, hd, hs, he, Option.bind_some, hc]
    rw [if_pos (by simp), bytesV_map]
    rfl
theorem rBy_own {ho : OwnL h v e 1 bs.length (bs.map byteV)} (hs : ∀ b, b ∈ blks v → S b) : rBy.rep S h [v] bs := by
  obtain ⟨a, c, rfl, hsl⟩ := ho.SlA
  exact rBy_mk (hsl.mono fun b X hb hx => ⟨hx, hs b hb⟩)

/-! ### a part of a list -/
theorem slc_to {a : Option Addr} {n c sz hh : Nat} {k : IntKind} (hs : sliceT P t = some e) (hz : sizeT P e = some sz) (hl : hh ≤ kcap c) (ha : a = none ∨ ∃ b o, a = some ⟨b, o, none⟩) :
    aSlice P t (.slice a n c) none (some (.int k hh)) none = some (.slice a hh c) := by
  have hc2 : capFlag ≤ c → capFlag + kcap c = c := fun h => by unfold kcap; rw [if_pos h]; omega
  rcases ha with rfl | ⟨b, o, rfl⟩
  · simp only [aSlice, hs, hz, Option.bind_some, boundV, Int.toNat_natCast, Int.natCast_nonneg, if_true, Nat.zero_le, hl, and_self, Nat.zero_mul, addrAdd, Option.map_some, Nat.sub_zero]
    by_cases hf : capFlag ≤ c
    · rw [if_pos hf, hc2 hf]
    · rw [if_neg hf]
      split <;> rfl
  · simp only [aSlice, hs, hz, Option.bind_some, boundV, Int.toNat_natCast, Int.natCast_nonneg, if_true, Nat.zero_le, hl, and_self, Nat.zero_mul, addrAdd, Option.map_some, Nat.sub_zero, Nat.add_zero]
    by_cases hf : capFlag ≤ c
    · rw [if_pos hf, hc2 hf]
    · rw [if_neg hf]
      split <;> rfl
end
end Go.Am

namespace Go.Am
open Go
theorem w64 (n : Int) : IntKind.i64.wrap n = if n % 18446744073709551616 ≥ 9223372036854775808 then n % 18446744073709551616 - 18446744073709551616 else n % 18446744073709551616 := by
  unfold IntKind.wrap
  simp [IntKind.bits, IntKind.signed]
theorem wu64 (n : Int) : IntKind.u64.wrap n = n % 18446744073709551616 := by
  unfold IntKind.wrap
  simp [IntKind.bits, IntKind.signed]
theorem wu8 (n : Int) : IntKind.u8.wrap n = n % 256 := by
  unfold IntKind.wrap
  simp [IntKind.bits, IntKind.signed]
theorem w8 (n : Int) : IntKind.i8.wrap n = if n % 256 ≥ 128 then n % 256 - 256 else n % 256 := by
  unfold IntKind.wrap
  simp [IntKind.bits, IntKind.signed]
theorem w32 (n : Int) : IntKind.i32.wrap n = if n % 4294967296 ≥ 2147483648 then n % 4294967296 - 4294967296 else n % 4294967296 := by
  unfold IntKind.wrap
  simp [IntKind.bits, IntKind.signed]
theorem wu32 (n : Int) : IntKind.u32.wrap n = n % 4294967296 := by
  unfold IntKind.wrap
  simp [IntKind.bits, IntKind.signed]
theorem wrap_id {n : Int} (h : inK .i64 n) : IntKind.i64.wrap n = n := by
  obtain ⟨h1, h2⟩ := h
  rw [w64]
  split <;> omega
theorem wrap_in (n : Int) : inK .i64 (IntKind.i64.wrap n) := by
  rw [w64]
  simp only [inK]
  split <;> omega
theorem wu64_nat {n : Nat} (h : n < 18446744073709551616) : IntKind.u64.wrap (n : Int) = n := by rw [wu64]; omega
theorem bv_toNat {n : Nat} (h : n < 18446744073709551616) : (BitVec.ofInt 64 (n : Int)).toNat = n := by
  rw [BitVec.toNat_ofInt]
  norm_cast
  omega
theorem u64_or {a b : Nat} (ha : a < 18446744073709551616) (hb : b < 18446744073709551616) : IntKind.u64.wrap (((BitVec.ofInt IntKind.u64.bits (a : Int)) ||| (BitVec.ofInt IntKind.u64.bits (b : Int))).toNat : Int) = ((a ||| b : Nat) : Int) := by
  have h1 : ((BitVec.ofInt IntKind.u64.bits (a : Int)) ||| (BitVec.ofInt IntKind.u64.bits (b : Int))).toNat = a ||| b := by
    show ((BitVec.ofInt 64 (a : Int)) ||| (BitVec.ofInt 64 (b : Int))).toNat = _
    rw [BitVec.toNat_or, bv_toNat ha, bv_toNat hb]
  rw [h1]
  exact wu64_nat (Nat.or_lt_two_pow (n := 64) ha hb)
theorem u64_and1 {a : Nat} (ha : a < 18446744073709551616) : IntKind.u64.wrap (((BitVec.ofInt IntKind.u64.bits (a : Int)) &&& (BitVec.ofInt IntKind.u64.bits 1)).toNat : Int) = ((a % 2 : Nat) : Int) := by
  have h1 : ((BitVec.ofInt IntKind.u64.bits (a : Int)) &&& (BitVec.ofInt IntKind.u64.bits 1)).toNat = a % 2 := by
    show ((BitVec.ofInt 64 (a : Int)) &&& (BitVec.ofInt 64 ((1 : Nat) : Int))).toNat = _
    rw [BitVec.toNat_and, bv_toNat ha, bv_toNat (by omega), Nat.and_one_is_mod]
  rw [h1]
  exact wu64_nat (by omega)
theorem fdiv_nat (a k : Nat) : (a : Int).fdiv (2 ^ k) = ((a / 2 ^ k : Nat) : Int) := by
  rw [Int.fdiv_eq_ediv_of_nonneg _ (Int.le_of_lt (Int.pow_pos (by decide)))]
  norm_cast
theorem or_add {a i c : Nat} (h : a < 2 ^ i) : a ||| (c * 2 ^ i) = a + c * 2 ^ i := by
  rw [Nat.mul_comm c, Nat.or_comm, ← Nat.two_pow_add_eq_or_of_lt h, Nat.add_comm]
/-- Bytes, the lowest first. -/
def leN : List UInt8 → Nat
  | [] => 0
  | b :: l => b.toNat + 256 * leN l
theorem leN_lt : ∀ l : List UInt8, leN l < 2 ^ (8 * l.length)
  | [] => by simp [leN]
  | b :: l => by
    have := leN_lt l
    have hb := b.toNat_lt
    have e : 2 ^ (8 * (b :: l).length) = 256 * 2 ^ (8 * l.length) := by
      rw [List.length_cons, Nat.mul_add, Nat.pow_add, Nat.mul_comm]
    rw [e, leN]
    omega
theorem leN_snoc (b : UInt8) : ∀ l : List UInt8, leN (l ++ [b]) = leN l + b.toNat * 2 ^ (8 * l.length)
  | [] => by simp [leN]
  | c :: l => by
    rw [List.cons_append, leN, leN, leN_snoc b l, List.length_cons, Nat.mul_add, Nat.mul_add 8, Nat.pow_add]
    have : 256 * (b.toNat * 2 ^ (8 * l.length)) = b.toNat * (2 ^ (8 * l.length) * 2 ^ (8 * 1)) := by
      rw [show (2 : Nat) ^ (8 * 1) = 256 from rfl]
      rw [Nat.mul_comm 256, Nat.mul_assoc]
    omega
theorem pow8 {i : Nat} (h : i < 8) : 2 ^ (8 * i) ≤ 72057594037927936 := by
  have : i = 0 ∨ i = 1 ∨ i = 2 ∨ i = 3 ∨ i = 4 ∨ i = 5 ∨ i = 6 ∨ i = 7 := by omega
  rcases this with rfl | rfl | rfl | rfl | rfl | rfl | rfl | rfl <;> decide
/-- A byte more of a number. -/
theorem le_step {l : List UInt8} {b : UInt8} (hl : l.length < 8) : IntKind.u64.wrap (((BitVec.ofInt IntKind.u64.bits ((leN l : Nat) : Int)) ||| (BitVec.ofInt IntKind.u64.bits (IntKind.u64.wrap (IntKind.u64.wrap ((b.toNat : Int)) * 2 ^ (min ((8 * l.length : Nat) : Int).toNat IntKind.u64.bits))))).toNat : Int) = ((leN (l ++ [b]) : Nat) : Int) := by
  have h8 := pow8 hl
  have hlt := leN_lt l
  have hb := b.toNat_lt
  have h1 : IntKind.u64.wrap ((b.toNat : Int)) = b.toNat := wu64_nat (by omega)
  have h2 : min ((8 * l.length : Nat) : Int).toNat IntKind.u64.bits = 8 * l.length := by
    rw [Int.toNat_natCast]
    exact Nat.min_eq_left (by show _ ≤ 64; omega)
  have h3 : b.toNat * 2 ^ (8 * l.length) ≤ 255 * 72057594037927936 := Nat.mul_le_mul (by omega) h8
  have h4 : (b.toNat : Int) * 2 ^ (8 * l.length) = ((b.toNat * 2 ^ (8 * l.length) : Nat) : Int) := by norm_cast
  have h5 : IntKind.u64.wrap ((b.toNat * 2 ^ (8 * l.length) : Nat) : Int) = ((b.toNat * 2 ^ (8 * l.length) : Nat) : Int) := wu64_nat (by omega)
  rw [h1, h2, h4, h5, u64_or (by omega) (by omega), or_add hlt, ← leN_snoc]
end Go.Am

namespace Go.Am
open Go
def operOkB (P : Program) (o : Oper) : Bool := match o.op with
  | .slice _ _ _ hi mx => mx.isNone || hi.isSome
  | .call c => match c.callee with
    | .builtin .clear => match c.argTypes[0]? with
      | some t => (P.underlying t).isSome
      | none => true
    | _ => true
  | _ => true
def codeOkB (P : Program) : Code → Bool
  | .region _ ops _ => ops.toList.all (operOkB P)
  | .seq a b => codeOkB P a && codeOkB P b
  | .cond _ a b => codeOkB P a && codeOkB P b
  | .block _ b => codeOkB P b
  | .loop b => codeOkB P b
  | .scope b => codeOkB P b
  | _ => true
theorem operOk_of {P : Program} {o : Oper} (h : operOkB P o = true) : OperOk P o := by
  refine ⟨fun t x hi mx lo ho hm => ?_, fun c t ho hc ht => ?_⟩
  · unfold operOkB at h
    rw [ho] at h
    cases mx with
    | none => exact absurd rfl hm
    | some m =>
      cases hi with
      | none => simp at h
      | some _ => simp
  · unfold operOkB at h
    rw [ho] at h
    obtain ⟨callee, args, ts⟩ := c
    simp only at h hc ht
    split at h
    · rw [ht] at h
      simp only at h
      intro he
      rw [he] at h
      simp at h
    · rename_i hne
      split at hc
      · exact absurd rfl hne
      · simp at hc
theorem codeOk_of {P : Program} : ∀ c, codeOkB P c = true → CodeOk P c
  | .region _ ops _, h => fun o ho => operOk_of (List.all_eq_true.1 h o ho)
  | .seq a b, h => by
    simp only [codeOkB, Bool.and_eq_true] at h
    exact ⟨codeOk_of a h.1, codeOk_of b h.2⟩
  | .cond _ a b, h => by
    simp only [codeOkB, Bool.and_eq_true] at h
    exact ⟨codeOk_of a h.1, codeOk_of b h.2⟩
  | .block _ b, h => codeOk_of b h
  | .loop b, h => codeOk_of b h
  | .scope b, h => codeOk_of b h
  | .skip, _ => trivial
  | .rangeFunc .., _ => trivial
  | .exit _, _ => trivial
  | .label _, _ => trivial
  | .goto _, _ => trivial
  | .ret, _ => trivial
  | .refuse _, _ => trivial
def fnGoodB (P : Program) (f : Func) : Bool := (match f.body with | some c => codeOkB P c | none => true) && !(f.name == "runtime.NumGoroutine")
theorem map_eq_mem {α β : Type} {f g : α → β} : ∀ {l : List α}, l.map f = l.map g → ∀ x, x ∈ l → f x = g x
  | [], _, x, hx => by simp at hx
  | y :: l, h, x, hx => by
    simp only [List.map_cons, List.cons.injEq] at h
    rcases List.mem_cons.1 hx with rfl | hx
    · exact h.1
    · exact map_eq_mem h.2 x hx
/-- An environment of a list of functions is sound. -/
theorem envOk_of {E : Env} {w0 : World} {prot : Nat → Prop} {l : List (Nat × Func)} (hm : E.P.follows .mixedOrders = true) (hf : E.fn = fun g => lookupL g l) (h1 : (l.map fun p => E.P.funcs[p.1]?) = l.map fun p => some p.2) (h2 : l.all (fun p => fnGoodB E.P p.2) = true)
    (still : ∀ g F, E.ext g = some F → CallFr fun _ => F)
    (ext : ∀ g F, E.ext g = some F → ∀ xs h res, F xs h = some res → FnOk E.P g ∧ ∀ f w (xs' : Array Value), Inv E.P w0 prot f h w → VRs f xs xs'.toList → Calls E.P g xs' w (CR E.P w0 prot h.length f res)) : EnvOk E w0 prot where
  mixed := hm
  still := still
  ext := ext
  fn g fn h := by
    rw [hf] at h
    have hmem := lookupL_mem h
    have h3 := map_eq_mem h1 _ hmem
    have h4 := List.all_eq_true.1 h2 _ hmem
    simp only [fnGoodB, Bool.and_eq_true, Bool.not_eq_true'] at h4
    refine ⟨h3, fun hn => ?_, fun c hc => ?_⟩
    · have := h4.2
      rw [hn] at this
      simp at this
    · rw [hc] at h4
      exact codeOk_of c h4.1
end Go.Am
