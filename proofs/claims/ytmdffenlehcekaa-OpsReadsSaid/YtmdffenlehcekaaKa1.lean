/- An abstract machine that the model follows; its rules. -/
import Derived.Calls
import Derived.LoopN
import Derived.Scope
import Derived.Laws.World
import Derived.Laws.Sem
import Derived.Below
import Derived.KernelRfl
import Derived.Laws.Slices
import Derived.Orders
import Derived.Laws.StructEq
import Derived.ChangeArms
import Derived.DataReads
import Derived.SizedLaws
set_option linter.unusedVariables false
set_option linter.unusedSimpArgs false
namespace Go.Am
open Go

/-- A slice whose room is not known bears this sum in its capacity; the rest is how much room there is at least. -/
def capFlag : Nat := 9223372036854775808
def realCap (c x : Nat) : Nat := if capFlag ≤ c then c - capFlag + x else c

inductive Body where
  | cells (elem : TypeId) (cs : List Value)
  | map (es : List (Value × Value))
  | dead
  deriving Inhabited
structure Blk where
  body : Body
  own : Bool
  deriving Inhabited
abbrev Heap := List Blk
def deadBlk : Blk := { body := .dead, own := true }

structure Place where
  blk : Nat
  off : Nat
  spare : Nat
abbrev Ren := Nat → Option Place
def Ren.le (f g : Ren) : Prop := ∀ i p, f i = some p → g i = some p
/-- More is known, and nothing else of the first n. -/
def Ext (n : Nat) (f g : Ren) : Prop := f.le g ∧ ∀ i, i < n → g i = f i
theorem Ext.refl (n : Nat) (f : Ren) : Ext n f f := ⟨fun _ _ h => h, fun _ _ => rfl⟩
theorem Ext.trans {n : Nat} {f g k : Ren} (h : Ext n f g) (h' : Ext n g k) : Ext n f k := ⟨fun i p hp => h'.1 i p (h.1 i p hp), fun i hi => (h'.2 i hi).trans (h.2 i hi)⟩
theorem Ext.lower {n m : Nat} {f g : Ren} (h : Ext n f g) (hm : m ≤ n) : Ext m f g := ⟨h.1, fun i hi => h.2 i (Nat.lt_of_lt_of_le hi hm)⟩
theorem Ren.le_refl (f : Ren) : f.le f := fun _ _ h => h
theorem Ren.le_trans {f g k : Ren} (h : f.le g) (h' : g.le k) : f.le k := fun i p hp => h' i p (h i p hp)

mutual
inductive VR (f : Ren) : Value → Value → Prop where
  | any (v : Value) : VR f (.tuple ⟨[]⟩) v
  | bool (b : Bool) : VR f (.bool b) (.bool b)
  | int (k : IntKind) (n : Int) : VR f (.int k n) (.int k n)
  | float (k : FloatKind) (n : Nat) : VR f (.float k n) (.float k n)
  | string (s : ByteArray) : VR f (.string s) (.string s)
  | ptrNil : VR f (.pointer none) (.pointer none)
  | ptr (b o : Nat) (p : Place) (h : f b = some p) : VR f (.pointer (some ⟨b, o, none⟩)) (.pointer (some ⟨p.blk, p.off + o, none⟩))
  | sliceNil : VR f (.slice none 0 0) (.slice none 0 0)
  | sliceEnd (a a' : Addr) (c' : Nat) : VR f (.slice (some a) 0 capFlag) (.slice (some a') 0 c')
  | sliceAny (a' : Option Addr) (c' : Nat) : VR f (.slice none 0 capFlag) (.slice a' 0 c')
  | slice (b o n c : Nat) (p : Place) (h : f b = some p) (hn : n ≤ realCap c p.spare) : VR f (.slice (some ⟨b, o, none⟩) n c) (.slice (some ⟨p.blk, p.off + o, none⟩) n (realCap c p.spare))
  | mapNil : VR f (.map none) (.map none)
  | map (b : Nat) (p : Place) (h : f b = some p) : VR f (.map (some b)) (.map (some p.blk))
  | nilFunc : VR f .nilFunc .nilFunc
  | func (g : FuncId) (xs ys xs' ys' : List Value) (h : VRs f xs xs') (h' : VRs f ys ys') : VR f (.func (.func g) ⟨xs⟩ ⟨ys⟩) (.func (.func g) ⟨xs'⟩ ⟨ys'⟩)
  | nilIface : VR f .nilIface .nilIface
  | iface (t : TypeId) (v v' : Value) (h : VR f v v') : VR f (.iface t v) (.iface t v')
  | agg (xs xs' : List Value) (h : VRs f xs xs') (h1 : ∀ y ∈ xs', y.oneCell' = true) : VR f (.agg ⟨xs⟩) (.agg ⟨xs'⟩)
  | tuple (xs xs' : List Value) (h : VRs f xs xs') (hl : xs.length ≠ 1) : VR f (.tuple ⟨xs⟩) (.tuple ⟨xs'⟩)
  | skipped : VR f (.tuple ⟨[.bool false]⟩) (.tuple ⟨[]⟩)
inductive VRs (f : Ren) : List Value → List Value → Prop where
  | nil : VRs f [] []
  | cons {x x' : Value} {xs xs' : List Value} (h : VR f x x') (t : VRs f xs xs') : VRs f (x :: xs) (x' :: xs')
end

mutual
theorem VR.mono {f g : Ren} (hfg : f.le g) {v v' : Value} : VR f v v' → VR g v v'
  | .any v => .any v
  | .bool b => .bool b
  | .int k n => .int k n
  | .float k n => .float k n
  | .string s => .string s
  | .ptrNil => .ptrNil
  | .ptr b o p h => .ptr b o p (hfg _ _ h)
  | .sliceNil => .sliceNil
  | .sliceEnd a a' c' => .sliceEnd a a' c'
  | .sliceAny a' c' => .sliceAny a' c'
  | .slice b o n c p h hn => .slice b o n c p (hfg _ _ h) hn
  | .mapNil => .mapNil
  | .map b p h => .map b p (hfg _ _ h)
  | .nilFunc => .nilFunc
  | .func k _ _ _ _ h h' => .func k _ _ _ _ (VRs.mono hfg h) (VRs.mono hfg h')
  | .nilIface => .nilIface
  | .iface t _ _ h => .iface t _ _ (VR.mono hfg h)
  | .agg _ _ h h1 => .agg _ _ (VRs.mono hfg h) h1
  | .tuple _ _ h hl => .tuple _ _ (VRs.mono hfg h) hl
  | .skipped => .skipped
theorem VRs.mono {f g : Ren} (hfg : f.le g) {v v' : List Value} : VRs f v v' → VRs g v v'
  | .nil => .nil
  | .cons h t => .cons (VR.mono hfg h) (VRs.mono hfg t)
end

theorem VRs.length {f : Ren} {xs ys : List Value} (h : VRs f xs ys) : ys.length = xs.length := by
  induction xs generalizing ys with
  | nil => cases h; rfl
  | cons x xs ih => cases h with | cons h t => simp [ih t]
theorem VRs.get {f : Ren} {xs ys : List Value} (h : VRs f xs ys) : ∀ (i : Nat) (x : Value), xs[i]? = some x → ∃ y, ys[i]? = some y ∧ VR f x y := by
  induction xs generalizing ys with
  | nil => intro i x hx; simp at hx
  | cons a xs ih =>
    cases h with
    | cons ha t =>
      intro i x hx
      cases i with
      | zero => simp at hx; subst hx; exact ⟨_, rfl, ha⟩
      | succ i => simpa using ih t i x (by simpa using hx)
theorem VRs.of_get {f : Ren} : ∀ {xs ys : List Value}, ys.length = xs.length → (∀ (i : Nat) (x y : Value), xs[i]? = some x → ys[i]? = some y → VR f x y) → VRs f xs ys
  | [], [], _, _ => .nil
  | x :: xs, y :: ys, hl, h => .cons (h 0 x y rfl rfl) (VRs.of_get (by simpa using hl) fun i a b ha hb => h (i + 1) a b (by simpa using ha) (by simpa using hb))
  | [], _ :: _, hl, _ => by simp at hl
  | _ :: _, [], hl, _ => by simp at hl
theorem VRs.append {f : Ren} {xs ys xs' ys' : List Value} (h : VRs f xs xs') (h' : VRs f ys ys') : VRs f (xs ++ ys) (xs' ++ ys') := by
  induction xs generalizing xs' with
  | nil => cases h; exact h'
  | cons x xs ih => cases h with | cons hx t => exact .cons hx (ih t)
theorem VRs.take {f : Ren} {xs xs' : List Value} (h : VRs f xs xs') (n : Nat) : VRs f (xs.take n) (xs'.take n) := by
  induction xs generalizing xs' n with
  | nil => cases h; simp; exact .nil
  | cons x xs ih => cases h with | cons hx t => cases n with | zero => simp; exact .nil | succ n => exact .cons hx (ih t n)
theorem VRs.drop {f : Ren} {xs xs' : List Value} (h : VRs f xs xs') (n : Nat) : VRs f (xs.drop n) (xs'.drop n) := by
  induction xs generalizing xs' n with
  | nil => cases h; simp; exact .nil
  | cons x xs ih => cases h with | cons hx t => cases n with | zero => exact .cons hx t | succ n => exact ih t n
theorem VRs.set {f : Ren} {xs xs' : List Value} (h : VRs f xs xs') (n : Nat) {v v' : Value} (hv : VR f v v') : VRs f (xs.set n v) (xs'.set n v') := by
  induction xs generalizing xs' n with
  | nil => cases h; simp; exact .nil
  | cons x xs ih => cases h with | cons hx t => cases n with | zero => exact .cons hv t | succ n => exact .cons hx (ih t n)
theorem VRs.replicate_any {f : Ren} : ∀ (xs : List Value), VRs f (List.replicate xs.length (.tuple ⟨[]⟩)) xs
  | [] => .nil
  | x :: xs => .cons (.any x) (VRs.replicate_any xs)

/-! ### values that lead nowhere -/
def scal : Value → Bool
  | .bool _ | .int _ _ | .float _ _ | .string _ | .pointer none | .slice none 0 0 | .map none | .nilFunc | .nilIface => true
  | _ => false
def pureV : Value → Bool
  | .agg ⟨cs⟩ => cs.all scal
  | .iface _ v => scal v
  | v => scal v
theorem scal_any : scal (.slice none 0 capFlag) = false := rfl
theorem VR.scal_eq {f : Ren} {v v' : Value} (h : VR f v v') (hs : scal v = true) : v' = v := by
  cases h
  case sliceAny => rw [scal_any] at hs; simp at hs
  all_goals simp_all [scal]
theorem VRs.scal_eq {f : Ren} {xs ys : List Value} (h : VRs f xs ys) (hs : xs.all scal = true) : ys = xs := by
  induction xs generalizing ys with
  | nil => cases h; rfl
  | cons x xs ih =>
    cases h with
    | cons hx t =>
      simp only [List.all_cons, Bool.and_eq_true] at hs
      rw [hx.scal_eq hs.1, ih t hs.2]
theorem VR.pure_eq {f : Ren} {v v' : Value} (h : VR f v v') (hs : pureV v = true) : v' = v := by
  cases h with
  | agg xs xs' h h1 => rw [VRs.scal_eq h (by simpa [pureV] using hs)]
  | iface t w w' h => rw [VR.scal_eq h (by simpa [pureV] using hs)]
  | any v => simp [pureV, scal] at hs
  | tuple xs xs' h => simp [pureV, scal] at hs
  | skipped => simp [pureV, scal] at hs
  | sliceEnd => simp [pureV, scal] at hs
  | sliceAny => exact absurd hs (by rw [show pureV (.slice none 0 capFlag) = false from rfl]; simp)
  | func => simp [pureV, scal] at hs
  | ptr => simp [pureV, scal] at hs
  | slice => simp [pureV, scal] at hs
  | map => simp [pureV, scal] at hs
  | _ => rfl
theorem scal_VR (f : Ren) {v : Value} (hs : scal v = true) : VR f v v := by
  unfold scal at hs
  split at hs
  all_goals first
    | exact .bool _
    | exact .int _ _
    | exact .float _ _
    | exact .string _
    | exact .ptrNil
    | exact .sliceNil
    | exact .mapNil
    | exact .nilFunc
    | exact .nilIface
    | simp at hs
theorem scal_VRs (f : Ren) : ∀ {xs : List Value}, xs.all scal = true → VRs f xs xs
  | [], _ => .nil
  | x :: xs, hs => by
    simp only [List.all_cons, Bool.and_eq_true] at hs
    exact .cons (scal_VR f hs.1) (scal_VRs f hs.2)
theorem scal_one {v : Value} (h : scal v = true) : v.oneCell' = true := by
  unfold scal at h
  split at h <;> first | rfl | simp at h
theorem pureV_VR (f : Ren) {v : Value} (hs : pureV v = true) : VR f v v := by
  unfold pureV at hs
  split at hs
  · exact .agg _ _ (scal_VRs f hs) (fun y hy => scal_one (List.all_eq_true.1 hs y hy))
  · exact .iface _ _ _ (scal_VR f hs)
  · exact scal_VR f hs

/-! ### memory -/
def MapR (f : Ren) : List (Value × Value) → List MapEntry → Prop
  | [], [] => True
  | (k, v) :: es, e :: es' => e.key = k ∧ pureV k = true ∧ VR f v e.val ∧ MapR f es es'
  | _, _ => False
theorem MapR.mono {f g : Ren} (hfg : f.le g) : ∀ {es : List (Value × Value)} {es' : List MapEntry}, MapR f es es' → MapR g es es'
  | [], [], _ => trivial
  | (_, _) :: _, _ :: _, ⟨h1, h2, h3, h4⟩ => ⟨h1, h2, h3.mono hfg, MapR.mono hfg h4⟩
  | [], _ :: _, h => h.elim
  | _ :: _, [], h => h.elim

def Unfrozen (n : Nat) (fz : Nat × Nat) : Prop := ∀ j, j < n → ¬ (fz.1 ≤ j ∧ j < fz.2)

/-- What a block of the abstract memory says of the model's. -/
def BlkR (P : Program) (f : Ren) (w : World) (i : Nat) (b : Blk) : Prop :=
  match b.body with
  | .dead => True
  | .cells e cs => ∃ p cc e' fz, f i = some p ∧ w.heap[p.blk]? = some (.cells cc e' fz) ∧
      (∀ j v, cs[j]? = some v → ∃ v', cc[p.off + j]? = some v' ∧ VR f v v' ∧ v'.oneCell' = true) ∧
      (b.own = true → e' = e ∧ Unfrozen cc.size fz ∧ p.off + cs.length + p.spare * P.cellsOf e ≤ cc.size)
  | .map es => ∃ p es' clock, f i = some p ∧ w.heap[p.blk]? = some (.map es' clock) ∧ MapR f es es'.toList

def Blk.live (b : Blk) : Bool := match b.body with | .dead => false | _ => true

structure Sim (P : Program) (f : Ren) (h : Heap) (w : World) : Prop where
  dom : ∀ i p, f i = some p → i < h.length
  blk : ∀ i b, h[i]? = some b → BlkR P f w i b
  inj : ∀ i j bi bj pi pj, i ≠ j → h[i]? = some bi → h[j]? = some bj → bi.live = true → bj.live = true → bi.own = true → f i = some pi → f j = some pj → pi.blk ≠ pj.blk

/-- What stays as it was at some earlier world. -/
structure Fr (w0 : World) (prot : Nat → Prop) (f : Ren) (h : Heap) (w : World) : Prop where
  os : w.os = w0.os
  tape : w.tape = w0.tape
  output : w.output = w0.output
  size : w0.heap.size ≤ w.heap.size
  keep : ∀ b, prot b → b < w0.heap.size ∧ w.heap[b]? = w0.heap[b]?
  owns : ∀ i b p, h[i]? = some b → b.own = true → f i = some p → ¬ prot p.blk

structure Inv (P : Program) (w0 : World) (prot : Nat → Prop) (f : Ren) (h : Heap) (w : World) : Prop where
  sim : Sim P f h w
  fr : Fr w0 prot f h w
end Go.Am

namespace Go.Am
open Go

structure St where
  tm : List Value
  h : Heap
inductive Ret where
  | ret (v : Value)
  | pan (v : Value)
abbrev R := Option (Ret × Heap)
inductive Ex where
  | normal
  | exit (id : Nat)
  | ret
  | pan (v : Value)
abbrev Kt := Ex → St → R

def undefA : Value := .tuple ⟨[]⟩
def skipV : Value := .tuple ⟨[.bool false]⟩

def ev (tm : List Value) : Operand → Option Value
  | .tmp t => tm[t]?
  | .const v => bif pureV v then some v else none
  | .global _ => none
  | .func f => some (.func (.func f) ⟨[]⟩ ⟨[]⟩)
def evs (tm : List Value) : List Operand → Option (List Value)
  | [] => some []
  | x :: xs => (ev tm x).bind fun v => (evs tm xs).bind fun vs => some (v :: vs)
def evo (tm : List Value) : Option Operand → Option (Option Value)
  | none => some none
  | some x => (ev tm x).map some
def evp (tm : List Value) : List (Nat × Operand) → Option (List (Nat × Value))
  | [] => some []
  | (i, x) :: xs => (ev tm x).bind fun v => (evp tm xs).bind fun vs => some ((i, v) :: vs)

/-- A part of the model's own text that asks nothing of memory. -/
def pureRun {α : Type} (P : Program) : Sem α → Option α
  | .pure a => some a
  | .program k => pureRun P (k P)
  | .mark _ k => pureRun P k
  | _ => none
def keepPure : Option Value → Option Value
  | some v => bif pureV v then some v else none
  | none => none

/-! ### what types say -/
def aggT (P : Program) (t : TypeId) : Option Bool :=
  match P.underlying t with
  | some (.struct _) | some (.array _ _) => some true
  | some _ => some false
  | none => none
def sizeT (P : Program) (t : TypeId) : Option Nat := (P.info? t).map (·.size)
def zeroT (P : Program) (t : TypeId) : Option Value := keepPure ((P.info? t).bind (·.zero))
def sliceT (P : Program) (t : TypeId) : Option TypeId :=
  match P.underlying t with
  | some (.slice e) => some e
  | _ => none
def structT (P : Program) (t : TypeId) : Option (Array Field) :=
  match P.underlying t with
  | some (.struct fs) => some fs
  | _ => none

/-! ### operations that ask nothing of memory -/
def aPick : Value → Value → Value → Option Value
  | .bool c, a, b => some (bif c then a else b)
  | _, _, _ => none
def nilEq : TypeDesc → Value → Value → Option Bool
  | .slice _, .slice (some _) _ _, .slice none 0 0 => some false
  | .slice _, .slice none 0 0, .slice none 0 0 => some true
  | .slice _, .slice none 0 0, .slice (some _) _ _ => some false
  | .pointer _, .pointer a, .pointer none => some a.isNone
  | .pointer _, .pointer none, .pointer b => some b.isNone
  | .map _ _, .map a, .map none => some a.isNone
  | .map _ _, .map none, .map b => some b.isNone
  | .func _ _ _, .func _ _ _, .nilFunc => some false
  | .func _ _ _, .nilFunc, .func _ _ _ => some false
  | .interface _, .iface _ _, .nilIface => some false
  | .interface _, .nilIface, .iface _ _ => some false
  | _, _, _ => none
def aBin (P : Program) (op : BinOp) (t : TypeId) (x y : Value) (xo yo : Operand) : Option Value :=
  bif pureV x && pureV y then keepPure (pureRun P (do eqGuard op t xo yo x y; binOp op t x y))
  else match op with
    | .eql => ((P.underlying t).bind fun d => nilEq d x y).map .bool
    | .neq => ((P.underlying t).bind fun d => nilEq d x y).map fun b => .bool !b
    | _ => none
def aUn (P : Program) (op : UnOp) (x : Value) : Option Value := bif pureV x then keepPure (pureRun P (Op.unary op x)) else none
def aConv (P : Program) (s d : TypeId) (x : Value) : Option Value := bif pureV x then keepPure (pureRun P (convert s d x)) else none
def aPart (P : Program) (t : TypeId) (cs : List Value) (off : Nat) : Option Value :=
  (aggT P t).bind fun b => bif b then (sizeT P t).bind fun n => let l := (cs.drop off).take n; if l.length = n then some (.agg ⟨l⟩) else none else cs[off]?
def aField (P : Program) (t : TypeId) (x : Value) (f : Nat) : Option Value :=
  match x with
  | .agg ⟨cs⟩ => (structT P t).bind fun fs => (fs[f]?).bind fun fd => aPart P fd.type cs fd.offset
  | _ => none
def aExtract (x : Value) (i : Nat) : Option Value :=
  match x with
  | .tuple ⟨v :: u :: vs⟩ => (v :: u :: vs)[i]?
  | _ => none
def aIndex (P : Program) (t : TypeId) (x i : Value) : Option Value := bif pureV x && pureV i then keepPure (pureRun P (Instr.index t x i)) else none
def aPlaces (P : Program) : List Field → Option (List (Nat × Nat))
  | [] => some []
  | f :: fs => (sizeT P f.type).bind fun n => (aPlaces P fs).bind fun l => some ((f.offset, n) :: l)
def cellsOfV : Value → Option (List Value)
  | .agg ⟨cs⟩ => some cs
  | .tuple _ => none
  | v => some [v]
def fillL (place : Nat → Option (Nat × Nat)) : List Value → List (Nat × Value) → Option (List Value)
  | cells, [] => some cells
  | cells, (i, v) :: rest => (place i).bind fun p => (cellsOfV v).bind fun cs =>
      if cs.length = p.2 ∧ p.1 + cs.length ≤ cells.length then fillL place (cells.take p.1 ++ cs ++ cells.drop (p.1 + cs.length)) rest else none
def arrT (P : Program) (t : TypeId) : Option TypeId :=
  match P.underlying t with
  | some (.array _ e) => some e
  | _ => none
def aBuild (P : Program) (t : TypeId) (parts : List (Nat × Value)) : Option Value :=
  match arrT P t with
  | some e => (sizeT P e).bind fun sz => (zeroT P t).bind fun z => (cellsOfV z).bind fun cs => (fillL (fun i => some (i * sz, sz)) cs parts).map fun l => .agg ⟨l⟩
  | none => (zeroT P t).bind fun z => (structT P t).bind fun fs => (aPlaces P fs.toList).bind fun pl => (cellsOfV z).bind fun cs => (fillL (fun i => pl[i]?) cs parts).map fun l => .agg ⟨l⟩
def aIface (P : Program) (t : TypeId) (x : Value) : Option Value :=
  match P.underlying t with
  | some (.interface _) => none
  | some _ => some (.iface t x)
  | none => none
def aAssert (P : Program) (x : Value) (t : TypeId) (ok : Bool) : Option Value :=
  match P.underlying t with
  | some (.interface _) => none
  | some _ => match x with
    | .iface u v => if u = t then some (bif ok then .tuple ⟨[v, .bool true]⟩ else v) else bif ok then (zeroT P t).map fun z => .tuple ⟨[z, .bool false]⟩ else none
    | .nilIface => bif ok then (zeroT P t).map fun z => .tuple ⟨[z, .bool false]⟩ else none
    | _ => none
  | none => none
def kcap (c : Nat) : Nat := if capFlag ≤ c then c - capFlag else c
def addrAdd : Option Addr → Nat → Option (Option Addr)
  | none, _ => some none
  | some ⟨b, o, none⟩, n => some (some ⟨b, o + n, none⟩)
  | _, _ => none
def boundV (v : Option Value) (d : Nat) : Option Nat :=
  match v with
  | none => some d
  | some (.int _ i) => if 0 ≤ i then some i.toNat else none
  | _ => none
def aSlice (P : Program) (t : TypeId) (x : Value) (lo hi mx : Option Value) : Option Value :=
  match x with
  | .string s => (boundV hi s.size).bind fun h => (boundV lo 0).bind fun l =>
      match mx, P.underlying t with
      | none, some .string => if l ≤ h ∧ h ≤ s.size then some (.string (s.extract l h)) else none
      | _, _ => none
  | .slice a n c => (sliceT P t).bind fun e => (sizeT P e).bind fun sz => (boundV hi n).bind fun h => (boundV lo 0).bind fun l =>
      match mx with
      | none => if l ≤ h ∧ h ≤ kcap c then
          (if capFlag ≤ c then (addrAdd a (l * sz)).map fun a' => .slice a' (h - l) (capFlag + (kcap c - l))
           else (if c = l then some a else addrAdd a (l * sz)).map fun a' => .slice a' (h - l) (c - l)) else none
      | some m => (boundV (some m) 0).bind fun m => if l ≤ h ∧ h ≤ m ∧ m ≤ kcap c ∧ m < capFlag ∧ c ≠ capFlag then (if m = l then some a else addrAdd a (l * sz)).map fun a' => .slice a' (h - l) (m - l) else none
  | _ => none
def aFieldAddr (P : Program) (t : TypeId) (x : Value) (f : Nat) : Option Value :=
  match x with
  | .pointer (some ⟨b, o, none⟩) => (structT P t).bind fun fs => (fs[f]?).bind fun fd => (sizeT P fd.type).bind fun n => if n = 0 then none else some (.pointer (some ⟨b, o + fd.offset, none⟩))
  | _ => none
def aIndexAddr (P : Program) (t : TypeId) (x i : Value) : Option Value :=
  match x, i with
  | .slice (some ⟨b, o, none⟩) n _, .int _ i => (sliceT P t).bind fun e => (sizeT P e).bind fun sz => if 0 ≤ i ∧ i < n then some (.pointer (some ⟨b, o + i.toNat * sz, none⟩)) else none
  | .pointer (some ⟨b, o, none⟩), .int _ i => match P.underlying t with
    | some (.array n e) => (sizeT P e).bind fun sz => if 0 ≤ i ∧ i < n then some (.pointer (some ⟨b, o + i.toNat * sz, none⟩)) else none
    | _ => none
  | _, _ => none
def aNilCheck : Value → Option Value
  | .pointer (some a) => some (.pointer (some a))
  | .func (.func g) xs ys => some (.func (.func g) xs ys)
  | .iface t v => some (.iface t v)
  | _ => none
def aCap (P : Program) (t : TypeId) (x : Value) : Option Value :=
  match P.underlying t, x with
  | some (.slice _), .slice _ _ c => if c < capFlag then some (.int .i64 c) else none
  | _, _ => none
def aLen (P : Program) (t : TypeId) (x : Value) : Option Value :=
  match P.underlying t, x with
  | some .string, .string s => some (.int .i64 s.size)
  | some (.slice _), .slice _ n _ => some (.int .i64 n)
  | _, _ => none

/-! ### operations that read memory -/
def aLoad (P : Program) (t : TypeId) (h : Heap) : Value → Option Value
  | .pointer (some ⟨b, o, none⟩) => match h[b]? with
    | some ⟨.cells _ cs, _⟩ => aPart P t cs o
    | _ => none
  | _ => none
def simpleKey : TypeDesc → Value → Bool
  | .int _, .int _ _ => true
  | .string, .string _ => true
  | .bool, .bool _ => true
  | _, _ => false
def findA (d : TypeDesc) (k : Value) : List (Value × Value) → Nat → Option (Option (Nat × Value))
  | [], _ => some none
  | (k', v) :: es, i => match Instr.sameNow d k k' with
    | some true => some (some (i, v))
    | some false => findA d k es (i + 1)
    | none => none
def aLookup (P : Program) (t : TypeId) (h : Heap) (m k : Value) (ok : Bool) : Option Value :=
  match P.underlying t, m with
  | some (.map kt et), .map (some r) => match h[r]? with
    | some ⟨.map es, _⟩ => (P.underlying kt).bind fun d => bif simpleKey d k then (findA d k es 0).bind fun
        | some (_, v) => some (bif ok then .tuple ⟨[v, .bool true]⟩ else v)
        | none => (zeroT P et).map fun z => bif ok then .tuple ⟨[z, .bool false]⟩ else z else none
    | _ => none
  | _, _ => none
def aLenM (P : Program) (t : TypeId) (h : Heap) : Value → Option Value
  | .map (some r) => match P.underlying t, h[r]? with
    | some (.map _ _), some ⟨.map es, _⟩ => some (.int .i64 es.length)
    | _, _ => none
  | _ => none
def bytesV : List Value → Option (List UInt8)
  | [] => some []
  | .int .u8 n :: vs => (bytesV vs).map fun l => UInt8.ofNat n.toNat :: l
  | _ => none
def aBytesStr (P : Program) (s d : TypeId) (h : Heap) : Value → Option Value
  | .slice (some ⟨b, o, none⟩) n _ => match h[b]?, P.underlying d, (sliceT P s).bind P.underlying with
    | some ⟨.cells _ cs, _⟩, some .string, some (.int .u8) => let l := (cs.drop o).take n
      if l.length = n then (bytesV l).map fun bs => .string ⟨⟨bs⟩⟩ else none
    | _, _, _ => none
  | .slice none 0 _ => match P.underlying d, (sliceT P s).bind P.underlying with
    | some .string, some (.int .u8) => some (.string ⟨⟨[]⟩⟩)
    | _, _ => none
  | _ => none

/-! ### operations that make memory: the new block, and the value that leads to it -/
def newBlk (e : TypeId) (cs : List Value) : Blk := { body := .cells e cs, own := true }
def ptrTo (i : Nat) : Value := .pointer (some ⟨i, 0, none⟩)
def sliceTo (n c : Nat) (i : Nat) : Value := .slice (some ⟨i, 0, none⟩) n c
def mkAlloc (P : Program) (t : TypeId) : Option (Blk × (Nat → Value)) := (zeroT P t).bind fun z => (cellsOfV z).map fun cs => (newBlk t cs, ptrTo)
def mkBox (t : TypeId) (v : Value) : Option (Blk × (Nat → Value)) := (cellsOfV v).map fun cs => (newBlk t cs, ptrTo)
def repL (n : Nat) (l : List Value) : List Value := (List.replicate n l).flatten
def mkLit (P : Program) (t : TypeId) (n : Nat) (parts : List (Nat × Value)) : Option (Blk × (Nat → Value)) :=
  (sliceT P t).bind fun e => (sizeT P e).bind fun sz => (zeroT P e).bind fun z => (cellsOfV z).bind fun zs =>
    if zs.length = sz ∧ 0 < sz ∧ n * sz ≤ 16777216 then (fillL (fun i => some (i * sz, sz)) (repL n zs) parts).map fun l => (newBlk e l, sliceTo n n) else none
def mkMake (P : Program) (t : TypeId) (len cap : Value) : Option (Blk × (Nat → Value)) :=
  match len, cap with
  | .int .i64 l, .int .i64 c => (sliceT P t).bind fun e => (P.info? e).bind fun i => (zeroT P e).bind fun z => (cellsOfV z).bind fun zs =>
    if zs.length = i.size ∧ 0 < i.size ∧ 0 ≤ l ∧ l ≤ c ∧ i.bytes * c ≤ 281474976710656 ∧ c < 4611686018427387904 then some (newBlk e (repL c.toNat zs), sliceTo l.toNat c.toNat) else none
  | _, _ => none
def mkBytes (P : Program) (s d : TypeId) : Value → Option (Blk × (Nat → Value))
  | .string x => match P.underlying s, sliceT P d with
    | some .string, some e => match P.underlying e with
      | some (.int .u8) => if P.cellsOf e = 1 ∧ x.size < 4611686018427387904 then some (newBlk e (x.data.toList.map fun b => .int .u8 b.toNat), sliceTo x.size (capFlag + x.size)) else none
      | _ => none
    | _, _ => none
  | _ => none
def mkMap : Option (Blk × (Nat → Value)) := some ({ body := .map [], own := true }, fun i => .map (some i))

/-! ### operations that write -/
def aStore (P : Program) (t : TypeId) (a v : Value) (h : Heap) : Option Heap :=
  match a with
  | .pointer (some ⟨b, o, none⟩) => match h[b]? with
    | some ⟨.cells e cs, true⟩ => match v with
      | .agg ⟨xs⟩ => if some xs.length = sizeT P t ∧ o + xs.length ≤ cs.length then some (h.set b ⟨.cells e (cs.take o ++ xs ++ cs.drop (o + xs.length)), true⟩) else none
      | .tuple _ => none
      | v => if some 1 = sizeT P t ∧ o < cs.length then some (h.set b ⟨.cells e (cs.set o v), true⟩) else none
    | _ => none
  | _ => none
def srcCells (sz : Nat) (h : Heap) : Value → Option (List Value × Nat)
  | .slice none 0 _ => some ([], 0)
  | .slice (some ⟨b, o, none⟩) n _ => match h[b]? with
    | some ⟨.cells _ cs, _⟩ => let l := (cs.drop o).take (n * sz); if l.length = n * sz then some (l, n) else none
    | _ => none
  | .string s => if sz = 1 then some (s.data.toList.map fun b => .int .u8 b.toNat, s.size) else none
  | _ => none
def aApp (e : TypeId) (sz by_ : Nat) (a : Option Addr) (n c : Nat) (new : List Value) (m : Nat) (h : Heap) : Option (Value × Heap) :=
  if m = 0 then some (.slice a n c, h) else
  if (n + m) * by_ ≤ 70368744177664 ∧ n + m < 1152921504606846976 ∧ by_ ≤ 4294967296 then
    match a with
    | none => if n = 0 ∧ c = 0 then some (.slice (some ⟨h.length, 0, none⟩) m (capFlag + m), h ++ [newBlk e new]) else none
    | some ⟨b, o, none⟩ => match h[b]? with
      | some ⟨.cells e' cs, own⟩ =>
        if n + m ≤ kcap c then
          (if own = true ∧ e' = e ∧ o + (n + m) * sz ≤ cs.length then some (.slice (some ⟨b, o, none⟩) (n + m) c, h.set b ⟨.cells e (cs.take (o + n * sz) ++ new ++ cs.drop (o + (n + m) * sz)), true⟩) else none)
        else if capFlag ≤ c then
          (if own = true ∧ e' = e ∧ kcap c ≠ 0 ∧ n ≤ kcap c ∧ o + kcap c * sz = cs.length then some (.slice (some ⟨h.length, 0, none⟩) (n + m) (capFlag + (n + m)), h.set b ⟨.dead, true⟩ ++ [newBlk e ((cs.drop o).take (n * sz) ++ new)]) else none)
        else (if o + n * sz ≤ cs.length ∧ n ≤ c then some (.slice (some ⟨h.length, 0, none⟩) (n + m) (capFlag + (n + m)), h ++ [newBlk e ((cs.drop o).take (n * sz) ++ new)]) else none)
      | _ => none
    | _ => none
  else none
def notIntT (P : Program) (t : TypeId) : Bool :=
  match P.underlying t with
  | some (.int _) => false
  | some _ => true
  | none => false
def zeroFits (P : Program) (e : TypeId) (n : Nat) : Bool := match (zeroT P e).bind cellsOfV with
  | some zs => zs.length == n
  | none => false
def aAppend (P : Program) (t0 t1 : TypeId) (s x : Value) (h : Heap) : Option (Value × Heap) :=
  match s with
  | .slice a n c => (sliceT P t0).bind fun e => (P.info? e).bind fun i => bif notIntT P t1 && decide (0 < i.size) && zeroFits P e i.size then (srcCells i.size h x).bind fun r => aApp e i.size i.bytes a n c r.1 r.2 h else none
  | _ => none
def aMapUpd (P : Program) (t : TypeId) (m k v : Value) (h : Heap) : Option Heap :=
  match P.underlying t, m with
  | some (.map kt _), .map (some r) => match h[r]? with
    | some ⟨.map es, true⟩ => (P.underlying kt).bind fun d => bif simpleKey d k then (findA d k es 0).map fun
        | some (i, _) => h.set r ⟨.map (es.set i (k, v)), true⟩
        | none => h.set r ⟨.map (es ++ [(k, v)]), true⟩ else none
    | _ => none
  | _, _ => none
def aClear (h : Heap) : Value → Option Heap
  | .map (some r) => match h[r]? with
    | some ⟨.map _, true⟩ => some (h.set r ⟨.map [], true⟩)
    | _ => none
  | _ => none

/-! ### classes of operations -/
inductive Cls where
  | P | L | A | X | C | no
  deriving DecidableEq
def isMapT (P : Program) (t : TypeId) : Bool := match P.underlying t with | some (.map _ _) => true | _ => false
def convCls (P : Program) (s d : TypeId) : Cls :=
  match P.underlying s, P.underlying d with
  | some (.slice _), some .string => .L
  | some .string, some (.slice _) => .A
  | _, _ => .P
def cls (P : Program) : Op → Cls
  | .move _ | .assign _ | .pick .. | .build .. | .nilCheck _ | .binOp .. | .unOp .. | .makeInterface .. | .makeFunc .. | .slice .. | .fieldAddr .. | .field .. | .indexAddr .. | .index .. | .typeAssert .. | .extract .. => .P
  | .convert s d _ => convCls P s d
  | .load .. | .lookup .. => .L
  | .alloc _ | .box .. | .buildSlice .. | .makeMap .. | .makeSlice .. => .A
  | .store .. | .mapUpdate .. | .insert .. | .panic _ => .X
  | .call c => match c.callee with
    | .builtin .len => match c.argTypes[0]? with
      | some t => bif isMapT P t then .L else .P
      | none => .no
    | .builtin .cap => .P
    | .builtin .append | .builtin .clear | .builtin .panic => .X
    | .value _ => .C
    | _ => .no
  | _ => .no

def opP (P : Program) (tm : List Value) : Op → Option Value
  | .move x | .assign x => ev tm x
  | .pick c a b => (ev tm c).bind fun c => (ev tm a).bind fun a => (ev tm b).bind fun b => aPick c a b
  | .build t parts => (evp tm parts.toList).bind fun ps => aBuild P t ps
  | .nilCheck x => (ev tm x).bind aNilCheck
  | .binOp op t x y _ => (ev tm x).bind fun a => (ev tm y).bind fun b => aBin P op t a b x y
  | .unOp op _ x => (ev tm x).bind fun a => aUn P op a
  | .convert s d x => (ev tm x).bind fun a => aConv P s d a
  | .makeInterface t x => (ev tm x).bind fun a => aIface P t a
  | .makeFunc (.func g) first cap => (evs tm first.toList).bind fun xs => (evs tm cap.toList).bind fun ys => some (.func (.func g) ⟨xs⟩ ⟨ys⟩)
  | .slice t x lo hi mx => (ev tm x).bind fun a => (evo tm lo).bind fun l => (evo tm hi).bind fun h => (evo tm mx).bind fun m => aSlice P t a l h m
  | .fieldAddr t x f => (ev tm x).bind fun a => aFieldAddr P t a f
  | .field t x f => (ev tm x).bind fun a => aField P t a f
  | .indexAddr t x i => (ev tm x).bind fun a => (ev tm i).bind fun b => aIndexAddr P t a b
  | .index t x i => (ev tm x).bind fun a => (ev tm i).bind fun b => aIndex P t a b
  | .typeAssert x _ t ok => (ev tm x).bind fun a => aAssert P a t ok
  | .extract x i => (ev tm x).bind fun a => aExtract a i
  | .call c => match c.args.toList, c.argTypes.toList with
    | [x], t :: _ => (ev tm x).bind fun a => match c.callee with
      | .builtin .cap => aCap P t a
      | _ => aLen P t a
    | _, _ => none
  | _ => none
def opL (P : Program) (tm : List Value) (h : Heap) : Op → Option Value
  | .load t a => (ev tm a).bind fun a => aLoad P t h a
  | .lookup t m k ok => (ev tm m).bind fun m => (ev tm k).bind fun k => aLookup P t h m k ok
  | .convert s d x => (ev tm x).bind fun a => aBytesStr P s d h a
  | .call c => match c.args.toList, c.argTypes.toList with
    | [x], t :: _ => (ev tm x).bind fun a => aLenM P t h a
    | _, _ => none
  | _ => none
def blkOf : Value → Option Nat
  | .pointer (some a) => some a.block
  | .slice (some a) _ _ => some a.block
  | .map (some r) => some r
  | _ => none
/-- The block that an operation reads. -/
def readId (tm : List Value) : Op → Option Nat
  | .load _ a => (ev tm a).bind blkOf
  | .lookup _ m _ _ => (ev tm m).bind blkOf
  | .convert _ _ x => (ev tm x).bind blkOf
  | .call c => match c.args.toList with
    | [x] => (ev tm x).bind blkOf
    | _ => none
  | _ => none
def opA (P : Program) (tm : List Value) : Op → Option (Blk × (Nat → Value))
  | .alloc t => mkAlloc P t
  | .box t x => (ev tm x).bind fun v => mkBox t v
  | .buildSlice t n parts => (evp tm parts.toList).bind fun ps => mkLit P t n ps
  | .makeSlice t l c => (ev tm l).bind fun l => (ev tm c).bind fun c => mkMake P t l c
  | .convert s d x => (ev tm x).bind fun v => mkBytes P s d v
  | .makeMap _ none => mkMap
  | _ => none
inductive XR where
  | val (v : Value)
  | skip
  | pan (v : Value)
def opX (P : Program) (tm : List Value) (h : Heap) : Op → Option (XR × Heap)
  | .store t a v => (ev tm a).bind fun a => (ev tm v).bind fun v => (aStore P t a v h).map fun h => (.skip, h)
  | .mapUpdate t m k v | .insert t m k v => (ev tm m).bind fun m => (ev tm k).bind fun k => (ev tm v).bind fun v => (aMapUpd P t m k v h).map fun h => (.skip, h)
  | .panic x => (ev tm x).bind fun x => match x with
    | .iface t v => some (.pan (.iface t v), h)
    | _ => none
  | .call c => match c.callee, c.args.toList, c.argTypes.toList with
    | .builtin .append, [s, x], [t0, t1] => (ev tm s).bind fun s => (ev tm x).bind fun x => (aAppend P t0 t1 s x h).map fun r => (.val r.1, r.2)
    | .builtin .clear, [x], [t] => (ev tm x).bind fun x => (aClear h x).map fun h => (.val undefA, h)
    | .builtin .panic, [x], _ => (ev tm x).bind fun x => match x with
      | .iface t v => some (.pan (.iface t v), h)
      | _ => none
    | _, _, _ => none
  | _ => none
/-- What is called, and with what. -/
def opC (tm : List Value) : Op → Option (FuncId × List Value)
  | .call c => match c.callee with
    | .value f => (ev tm f).bind fun f => (evs tm c.args.toList).bind fun xs => match f with
      | .func (.func g) ⟨first⟩ ⟨cap⟩ => some (g, first ++ xs ++ cap)
      | _ => none
    | _ => none
  | _ => none

/-! ### regions -/
def putA (tm : List Value) (d : Option Tmp) (v : Value) : List Value :=
  match d with
  | some d => tm.set d v
  | none => tm
def condV (v : Value) (A B : R) : R :=
  match v with
  | .bool b => bif b then A else B
  | _ => none
def guardV (v : Value) (A B : R) : R :=
  match v with
  | .bool b => bif b then A else B
  | .tuple ⟨[_]⟩ => B
  | _ => none
def retK (r : R) (f g : Value → Heap → R) : R :=
  match r with
  | some (.ret v, h) => f v h
  | some (.pan v, h) => g v h
  | none => none
abbrev CallF := FuncId → List Value → Heap → R

/-- One operation: 'at_' tells where a new block lies (none: behind all others). -/
def doOp (P : Program) (call : CallF) (at_ : Option Nat) (o : Oper) (s : St) (k : St → R) (K : Kt) : R :=
  match cls P o.op with
  | .P => (opP P s.tm o.op).bind fun v => k ⟨putA s.tm o.dst v, s.h⟩
  | .L => (opL P s.tm s.h o.op).bind fun v => k ⟨putA s.tm o.dst v, s.h⟩
  | .A => (opA P s.tm o.op).bind fun r => match at_ with
    | none => k ⟨putA s.tm o.dst (r.2 s.h.length), s.h ++ [r.1]⟩
    | some i => k ⟨putA s.tm o.dst (r.2 i), s.h.set i r.1⟩
  | .X => (opX P s.tm s.h o.op).bind fun r => match r.1 with
    | .val v => k ⟨putA s.tm o.dst v, r.2⟩
    | .skip => k ⟨putA s.tm o.dst undefA, r.2⟩
    | .pan v => K (.pan v) ⟨s.tm, r.2⟩
  | .C => (opC s.tm o.op).bind fun c => retK (call c.1 c.2 s.h) (fun v h => k ⟨putA s.tm o.dst v, h⟩) (fun v h => K (.pan v) ⟨s.tm, h⟩)
  | .no => none
/-- A guarded one: on the way on which it is carried out the guard's slot holds just what is wanted. -/
def guarded (ops : List Oper) (o : Oper) (s : St) (yes : St → R) (no : St → R) : R :=
  match o.guard with
  | none => yes s
  | some (j, want) => match (ops[j]?).bind (·.dst) with
    | none => none
    | some d => match s.tm[d]? with
      | none => none
      | some v =>
        let y := yes ⟨s.tm.set d (.bool want), s.h⟩
        let n := no ⟨putA (s.tm.set d skipV) o.dst skipV, s.h⟩
        let n' := no ⟨putA (s.tm.set d (.bool !want)) o.dst skipV, s.h⟩
        match v with
        | .bool b => bif want then (bif b then y else n') else (bif b then n' else y)
        | .tuple ⟨[.bool false]⟩ => n
        | _ => none
def runL (P : Program) (call : CallF) (ops : List Oper) : List Oper → St → Kt → R
  | [], s, K => K .normal s
  | o :: rest, s, K => guarded ops o s (fun s => doOp P call none o s (fun s => runL P call ops rest s K) K) (fun s => runL P call ops rest s K)

/-! ### regions that draw their order: one order is gone through; what others could see is asked -/
def befores (o : Oper) : List Nat := (o.after.toList.filter fun e => Region.binds .any e).map (·.on)
def ancGo : List Oper → List (List Nat) → List (List Nat)
  | [], acc => acc
  | o :: os, acc => ancGo os (acc ++ [(befores o).foldl (fun l j => l ++ (j :: acc.getD j []).filter fun x => !l.elem x) []])
def ancs (ops : List Oper) : List (List Nat) := ancGo ops []
def isAnc (T : List (List Nat)) (i j : Nat) : Bool := (T.getD j []).elem i
def opndsOf (ops : List Oper) (o : Oper) : List Nat :=
  (o.op.operands.toList.filterMap fun | .tmp t => some t | _ => none) ++ (match o.guard with | some (j, _) => ((ops[j]?).bind (·.dst)).toList | none => [])
def loud : Cls → Bool
  | .X | .C => true
  | _ => false
def clsAt (P : Program) (ops : List Oper) (i : Nat) : Cls := match ops[i]? with | some o => cls P o.op | none => .no
def canonGo (P : Program) (ops : List Oper) (T : List (List Nat)) : List Nat → List Nat → List Nat
  | [], acc => acc
  | i :: is, acc =>
    bif loud (clsAt P ops i) then canonGo P ops T is (acc ++ ((List.range ops.length).filter fun j => isAnc T j i && !acc.elem j) ++ [i])
    else bif clsAt P ops i == .A || !((T.getD i []).all fun j => acc.elem j) then canonGo P ops T is acc
    else bif acc.elem i then canonGo P ops T is acc else canonGo P ops T is (acc ++ [i])
def canon (P : Program) (ops : List Oper) (T : List (List Nat)) : List Nat :=
  let l := canonGo P ops T (List.range ops.length) []
  l ++ (List.range ops.length).filter fun j => !l.elem j
/-- Who stands ahead of whom: nobody ahead of what it waits for; nothing that makes memory ahead of what writes, but where that waits for it. -/
def pairOk (P : Program) (ops : List Oper) (T : List (List Nat)) (j i : Nat) : Bool :=
  !(j == i) && !isAnc T i j && (!(loud (clsAt P ops i) && clsAt P ops j == .A) || isAnc T j i)
def pairsOk (P : Program) (ops : List Oper) (T : List (List Nat)) : List Nat → Bool
  | [] => true
  | j :: l => l.all (pairOk P ops T j) && pairsOk P ops T l
/-- What is asked of a region that draws, by its text alone. -/
def drawOk (P : Program) (ops : List Oper) (T : List (List Nat)) (C : List Nat) : Bool :=
  let rs := List.range ops.length
  let cmp := fun i j => isAnc T i j || isAnc T j i
  rs.all (fun i => C.elem i) && C.all (fun i => decide (i < ops.length)) && pairsOk P ops T C &&
  (rs.all fun i => match ops[i]? with
    | some o => (befores o).all (fun j => decide (j < i) && isAnc T j i) && (T.getD i []).all (fun j => (befores o).elem j || (befores o).any fun k => isAnc T j k) && (match o.guard with | some (j, _) => isAnc T j i | none => true)
    | none => false) &&
  (rs.all fun i => rs.all fun j => i == j || !(loud (clsAt P ops i) && loud (clsAt P ops j)) || cmp i j) &&
  -- slots: one writer; who reads it and who writes it stand in an order
  (rs.all fun i => rs.all fun j => i == j || match ops[i]?, ops[j]? with
    | some o, some o' => match o.dst with
      | some d => !(o'.dst == some d) && (!(opndsOf ops o').elem d || cmp i j)
      | none => true
    | _, _ => false)
def slotOf (P : Program) (ops : List Oper) (i : Nat) : Nat := ((List.range i).filter fun j => clsAt P ops j == .A).length
def nSlots (P : Program) (ops : List Oper) : Nat := ((List.range ops.length).filter fun j => clsAt P ops j == .A).length
/-- The places laid out for what an operation does not wait for. -/
def slotsFree (P : Program) (ops : List Oper) (T : List (List Nat)) (base i : Nat) : List Nat := ((List.range ops.length).filter fun q => !isAnc T q i && clsAt P ops q == .A).map fun q => base + slotOf P ops q
def chkOld : List Nat → Nat → R → R
  | [], _, k => k
  | q :: l, b, k => if b = q then none else chkOld l b k
open Classical in
/-- What is read here was the same ahead of what may just as well come later. -/
noncomputable def chkReads : List Heap → Nat → Heap → R → R
  | [], _, _, k => k
  | y :: ys, b, h, k => if y[b]? = h[b]? then chkReads ys b h k else none
noncomputable def chkRd : List Nat → List Heap → Heap → R → Option Nat → R
  | [], [], _, k, _ => k
  | [], _ :: _, _, k, none => k
  | [], y :: ys, h, k, some b => chkReads (y :: ys) b h k
  | _ :: _, _, _, k, none => k
  | q :: l, ys, h, k, some b => chkOld (q :: l) b (chkReads ys b h k)
open Classical in
/-- What has been read is still so, behind what may just as well have come earlier. -/
noncomputable def chkActs : List (Option Nat × Heap) → Heap → R → R
  | [], _, k => k
  | (none, _) :: l, h, k => chkActs l h k
  | (some b, y) :: l, h, k => if h[b]? = y[b]? then chkActs l h k else none
structure DH where
  ls : List (Nat × Option Nat × Heap)
  xs : List (Nat × Heap)
def readsOf (T : List (List Nat)) (i : Nat) (H : DH) : List (Option Nat × Heap) := (H.ls.filter fun x => !isAnc T x.1 i).map (·.2)
def actsOf (T : List (List Nat)) (i : Nat) (H : DH) : List Heap := (H.xs.filter fun x => !isAnc T x.1 i).map (·.2)
def killSlots (base : Nat) : Nat → Heap → Heap
  | 0, h => h
  | n + 1, h => killSlots base n (h.set (base + n) ⟨.dead, false⟩)
def panSt (base n : Nat) (s : St) : St := ⟨List.replicate s.tm.length undefA, killSlots base n s.h⟩
noncomputable def runD (P : Program) (call : CallF) (ops : List Oper) (T : List (List Nat)) (base : Nat) (K : Kt) : Nat → List Nat → Option Value → DH → St → R
  | 0, _, _, _, _ => none
  | _ + 1, [], none, _, s => K .normal s
  | _ + 1, [], some v, _, s => K (.pan v) (panSt base (nSlots P ops) s)
  | n + 1, i :: rest, pend, H, s => match ops[i]? with
    | none => none
    | some o => guarded ops o s (fun s => match cls P o.op with
        | .L => chkRd (slotsFree P ops T base i) (actsOf T i H) s.h (doOp P call none o s (fun s' => runD P call ops T base K n rest pend { H with ls := (i, readId s.tm o.op, s.h) :: H.ls } s') (fun _ _ => none)) (readId s.tm o.op)
        | .A => doOp P call (some (base + slotOf P ops i)) o s (fun s' => runD P call ops T base K n rest pend H s') (fun _ _ => none)
        | .P => doOp P call none o s (fun s' => runD P call ops T base K n rest pend H s') (fun _ _ => none)
        | .no => none
        | _ => doOp P call none o s (fun s' => chkActs (readsOf T i H) s'.h (runD P call ops T base K n rest pend { H with xs := (i, s.h) :: H.xs } s'))
            (fun e s' => match e with
              | .pan v => chkActs (readsOf T i H) s'.h (runD P call ops T base K n (rest.filter fun j => !isAnc T i j) (some v) { H with xs := (i, s.h) :: H.xs } s')
              | _ => none)) (fun s => runD P call ops T base K n rest pend H s)
def resv (h : Heap) : Nat → Heap
  | 0 => h
  | n + 1 => h ++ List.replicate (n + 1) deadBlk
theorem resv_eq (h : Heap) (n : Nat) : resv h n = h ++ List.replicate n deadBlk := by cases n <;> simp [resv]
noncomputable def regionK (P : Program) (call : CallF) (ops : List Oper) (draw : Bool) (s : St) (K : Kt) : R :=
  bif draw then
    (let T := ancs ops
     let C := canon P ops T
     bif drawOk P ops T C then runD P call ops T s.h.length K (C.length + 1) C none ⟨[], []⟩ ⟨s.tm, resv s.h (nSlots P ops)⟩ else none)
  else runL P call ops ops s K

/-! ### code -/
def maskGo (l : List Nat) : Nat → List Value → List Value
  | _, [] => []
  | i, v :: vs => (bif l.elem i then v else undefA) :: maskGo l (i + 1) vs
def maskS (l : Option (List Nat)) (s : St) : St :=
  match l with
  | some l => ⟨maskGo l 0 s.tm, s.h⟩
  | none => s
def firstReg : Code → Nat
  | .region id _ _ => id
  | .seq a _ => firstReg a
  | .loop b => firstReg b
  | .block _ b => firstReg b
  | .scope b => firstReg b
  | .cond _ a b => bif Nat.blt (firstReg a) 1000000 then 1000000 + (firstReg a + 1) else bif Nat.blt (firstReg b) 1000000 then 2000000 + firstReg b else 1000000
  | _ => 1000000
def iterK (f : St → Kt → R) (m : St → St) : Nat → St → Kt → R
  | 0, _, _ => none
  | n + 1, s, K => f s fun e s' => match e with
    | .normal => iterK f m n (m s') K
    | e => K e s'
noncomputable def runK (P : Program) (call : CallF) (kp : Nat → Option (List Nat)) (n : Nat) : Code → St → Kt → R
  | .skip, s, K => K .normal s
  | .label _, s, K => K .normal s
  | .ret, s, K => K .ret s
  | .exit id, s, K => K (.exit id) s
  | .seq a b, s, K => runK P call kp n a s fun e s' => match e with
    | .normal => runK P call kp n b (maskS (kp (firstReg b)) s') K
    | e => K e s'
  | .cond c t e, s, K => (ev s.tm c).bind fun v => condV v (runK P call kp n t s K) (runK P call kp n e s K)
  | .block id b, s, K => runK P call kp n b s fun e s' => match e with
    | .exit i => bif i == id then K .normal s' else K (.exit i) s'
    | e => K e s'
  | .scope b, s, K => runK P call kp n b s K
  | .loop b, s, K => iterK (runK P call kp n b) (maskS (kp (firstReg b))) n (maskS (kp (firstReg b)) s) K
  | .region _ ops draw, s, K => regionK P call ops.toList draw s K
  | _, _, _ => none

structure Env where
  P : Program
  fn : FuncId → Option Func
  ext : FuncId → Option (List Value → Heap → R)
  keep : FuncId → Nat → Option (List Nat)
def resV (P : Program) (tm : List Value) (h : Heap) : List ResultVar → Option (List Value)
  | [] => some []
  | .tmp t :: rs => (tm[t]?).bind fun v => (resV P tm h rs).map fun vs => v :: vs
  | .cell a t :: rs => (tm[a]?).bind fun p => (aLoad P t h p).bind fun v => (resV P tm h rs).map fun vs => v :: vs
def retV : List Value → Option Value
  | [v] => some v
  | vs => some (.tuple ⟨vs⟩)
def endK (P : Program) (fn : Func) : Kt
  | .normal, s | .ret, s => ((resV P s.tm s.h fn.results.toList).bind retV).map fun v => (.ret v, s.h)
  | .pan v, s => some (.pan v, s.h)
  | _, _ => none
noncomputable def acall (E : Env) : Nat → CallF
  | 0, _, _, _ => none
  | n + 1, f, xs, h => match E.ext f with
    | some g => g xs h
    | none => match E.fn f with
      | some fn => match fn.body with
        | some c => if xs.length ≤ fn.ntmps then runK E.P (acall E n) (E.keep f) n c ⟨xs ++ List.replicate (fn.ntmps - xs.length) undefA, h⟩ (endK E.P fn) else none
        | none => none
      | none => none
end Go.Am

namespace Go.Am
open Go

theorem pureRun_sound {α : Type} {P : Program} {s : Sem α} {x : α} (h : pureRun P s = some x) (w : World) : s.run P w = .ok x w := by
  induction s with
  | pure a => simp [pureRun] at h; subst h; rfl
  | program k ih => exact ih P h
  | mark m k ih => exact ih h
  | _ => simp [pureRun] at h
theorem keepPure_some {x : Option Value} {v : Value} (h : keepPure x = some v) : x = some v ∧ pureV v = true := by
  cases x with
  | none => simp [keepPure] at h
  | some u =>
    simp only [keepPure] at h
    cases hp : pureV u with
    | true => rw [hp] at h; simp at h; subst h; exact ⟨rfl, hp⟩
    | false => rw [hp] at h; simp at h

theorem ev_sim {f : Ren} {tm : List Value} {a : Act} {x : Operand} {v : Value} (h : ev tm x = some v) (ht : VRs f tm a.tmps.toList) : VR f v (a.eval x) := by
  cases x with
  | tmp t =>
    obtain ⟨y, hy, hv⟩ := ht.get t v h
    have : a.eval (.tmp t) = y := by
      simp only [Act.eval]
      rw [Array.getD_eq_getD_getElem?, ← Array.getElem?_toList, hy]; rfl
    rw [this]; exact hv
  | const u =>
    simp only [ev] at h
    cases hp : pureV u with
    | true => rw [hp] at h; simp at h; subst h; exact pureV_VR f hp
    | false => rw [hp] at h; simp at h
  | global g => simp [ev] at h
  | func g => simp [ev] at h; subst h; exact .func g [] [] [] [] .nil .nil
theorem evs_sim {f : Ren} {tm : List Value} {a : Act} (ht : VRs f tm a.tmps.toList) : ∀ {xs : List Operand} {vs : List Value}, evs tm xs = some vs → VRs f vs (xs.map a.eval)
  | [], vs, h => by simp [evs] at h; subst h; exact .nil
  | x :: xs, vs, h => by
    simp only [evs, Option.bind_eq_some_iff] at h
    obtain ⟨v, hv, us, hus, e⟩ := h
    simp at e; subst e
    exact .cons (ev_sim hv ht) (evs_sim ht hus)
theorem evo_sim {f : Ren} {tm : List Value} {a : Act} (ht : VRs f tm a.tmps.toList) {x : Option Operand} {v : Option Value} (h : evo tm x = some v) :
    (v = none ∧ x.map a.eval = none) ∨ ∃ u u', v = some u ∧ x.map a.eval = some u' ∧ VR f u u' := by
  cases x with
  | none => simp [evo] at h; exact .inl ⟨h.symm, rfl⟩
  | some x =>
    simp only [evo, Option.map_eq_some_iff] at h
    obtain ⟨u, hu, rfl⟩ := h
    exact .inr ⟨u, _, rfl, rfl, ev_sim hu ht⟩
/-- parts of a literal. -/
inductive VRp (f : Ren) : List (Nat × Value) → List (Nat × Value) → Prop where
  | nil : VRp f [] []
  | cons {i : Nat} {x x' : Value} {xs xs' : List (Nat × Value)} (h : VR f x x') (t : VRp f xs xs') : VRp f ((i, x) :: xs) ((i, x') :: xs')
theorem evp_sim {f : Ren} {tm : List Value} {a : Act} (ht : VRs f tm a.tmps.toList) : ∀ {xs : List (Nat × Operand)} {vs : List (Nat × Value)}, evp tm xs = some vs → VRp f vs (xs.map fun p => (p.1, a.eval p.2))
  | [], vs, h => by simp [evp] at h; subst h; exact .nil
  | (i, x) :: xs, vs, h => by
    simp only [evp, Option.bind_eq_some_iff] at h
    obtain ⟨v, hv, us, hus, e⟩ := h
    simp at e; subst e
    exact .cons (ev_sim hv ht) (evp_sim ht hus)

section
variable {P : Program} {f : Ren} {w : World}

theorem run_underlying' {t : TypeId} {d : TypeDesc} (h : P.underlying t = some d) : (underlying t).run P w = .ok d w := by
  simp [underlying, h]
theorem run_typeInfo' {t : TypeId} {i : TypeInfo} (h : P.info? t = some i) : (typeInfo t).run P w = .ok i w := by
  simp [typeInfo, h]
theorem run_sizeOf' {t : TypeId} {n : Nat} (h : sizeT P t = some n) : (sizeOf t).run P w = .ok n w := by
  simp only [sizeT, Option.map_eq_some_iff] at h
  obtain ⟨i, hi, rfl⟩ := h
  simp [sizeOf, run_typeInfo' hi]
theorem run_zero' {t : TypeId} {z : Value} (h : zeroT P t = some z) : (zeroValue t).run P w = .ok z w ∧ pureV z = true := by
  obtain ⟨h1, h2⟩ := keepPure_some h
  refine ⟨?_, h2⟩
  cases hi : P.info? t with
  | none => rw [hi] at h1; simp at h1
  | some i =>
    rw [hi] at h1
    simp only [Option.bind_some] at h1
    simp [zeroValue, run_typeInfo' hi, h1]
theorem sliceT_some {t e : TypeId} (h : sliceT P t = some e) : P.underlying t = some (.slice e) := by
  unfold sliceT at h
  split at h
  · simp at h; subst h; assumption
  · simp at h
theorem structT_some {t : TypeId} {fs : Array Field} (h : structT P t = some fs) : P.underlying t = some (.struct fs) := by
  unfold structT at h
  split at h
  · simp at h; subst h; assumption
  · simp at h
theorem run_isAgg {t : TypeId} {b : Bool} (h : aggT P t = some b) : (isAgg t).run P w = .ok b w := by
  cases hd : P.underlying t with
  | none => simp [aggT, hd] at h
  | some d => cases d <;> simp_all [isAgg, aggT, run_underlying' hd]

/-- A part of a struct's cells. -/
theorem aPart_sim {t : TypeId} {cs cs' : List Value} {off : Nat} {v : Value} (h : aPart P t cs off = some v) (hc : VRs f cs cs') (h1 : ∀ y ∈ cs', y.oneCell' = true) :
    ∃ v', (part t ⟨cs'⟩ off).run P w = .ok v' w ∧ VR f v v' := by
  unfold aPart at h
  simp only [Option.bind_eq_some_iff] at h
  obtain ⟨b, ha, h⟩ := h
  cases b with
  | true =>
    simp only [cond_true, Option.bind_eq_some_iff] at h
    obtain ⟨n, hn, h⟩ := h
    split at h
    · rename_i hl
      simp at h; subst h
      refine ⟨.agg ⟨(cs'.drop off).take n⟩, ?_, .agg _ _ ((hc.drop off).take n) fun y hy => h1 y (List.mem_of_mem_drop (List.mem_of_mem_take hy))⟩
      have e : (⟨cs'⟩ : Array Value).extract off (off + n) = ⟨(cs'.drop off).take n⟩ := by
        simp [List.extract_eq_drop_take']
      simp [part, run_isAgg ha, run_sizeOf' hn, e]
    · simp at h
  | false =>
    simp only [cond_false] at h
    obtain ⟨y, hy, hv⟩ := hc.get off v h
    refine ⟨y, ?_, hv⟩
    have : (⟨cs'⟩ : Array Value)[off]? = some y := by simpa using hy
    simp [part, run_isAgg ha, this]

theorem VR.cells {v v' : Value} {cs : List Value} (h : VR f v v') (hc : cellsOfV v = some cs) : ∃ cs', v'.cells = ⟨cs'⟩ ∧ VRs f cs cs' ∧ ∀ y ∈ cs', y.oneCell' = true := by
  cases h <;> simp [cellsOfV] at hc <;> first
    | (subst hc; exact ⟨_, rfl, .cons (by constructor <;> assumption) .nil, by simp [Value.oneCell']⟩)
    | (subst hc; rename_i xs xs' h1 h; exact ⟨_, rfl, h1, h⟩)
theorem pureV_cells {z : Value} {cs : List Value} (hz : pureV z = true) (h : cellsOfV z = some cs) : z.cells = ⟨cs⟩ ∧ cs.all scal = true ∨ (∃ t v, z = .iface t v ∧ scal v = true ∧ cs = [z] ∧ z.cells = ⟨[z]⟩) := by
  cases z with
  | agg l => obtain ⟨l⟩ := l; simp [cellsOfV] at h; subst h; exact .inl ⟨rfl, by simpa [pureV] using hz⟩
  | iface t v => simp [cellsOfV] at h; subst h; exact .inr ⟨t, v, rfl, by simpa [pureV] using hz, rfl, rfl⟩
  | tuple l => simp [cellsOfV] at h
  | _ => simp [cellsOfV] at h; subst h; exact .inl ⟨rfl, by simpa [pureV] using hz⟩
theorem zero_cells {t : TypeId} {z : Value} {cs : List Value} (h : zeroT P t = some z) (hc : cellsOfV z = some cs) : (zeroValue t).run P w = .ok z w ∧ z.cells = ⟨cs⟩ ∧ VRs f cs cs ∧ ∀ y ∈ cs, y.oneCell' = true := by
  obtain ⟨h1, h2⟩ := run_zero' (w := w) h
  refine ⟨h1, ?_⟩
  obtain ⟨cs', e, hv, h3⟩ := VR.cells (pureV_VR f h2) hc
  rcases pureV_cells h2 hc with ⟨e2, _⟩ | ⟨t, v, rfl, hs, rfl, e2⟩
  · rw [e] at e2
    have : cs' = cs := by simpa using e2
    subst this
    exact ⟨e, hv, h3⟩
  · rw [e] at e2
    have : cs' = [Value.iface t v] := by simpa using e2
    subst this
    exact ⟨e, hv, h3⟩

theorem foldl_set (vs : List Value) : ∀ (k off : Nat) (cs : List Value), off + k + vs.length ≤ cs.length →
    (vs.zipIdx k).foldl (fun (cs : Array Value) (p : Value × Nat) => cs.setIfInBounds (off + p.2) p.1) ⟨cs⟩ = ⟨cs.take (off + k) ++ vs ++ cs.drop (off + k + vs.length)⟩ := by
  induction vs with
  | nil => intro k off cs h; simp
  | cons v vs ih =>
    intro k off cs h
    simp only [List.zipIdx_cons, List.foldl_cons, List.length_cons] at h ⊢
    have e : (⟨cs⟩ : Array Value).setIfInBounds (off + k) v = ⟨cs.set (off + k) v⟩ := by simp
    rw [e, ih (k + 1) off _ (by simp; omega)]
    congr 1
    have hs : cs.set (off + k) v = cs.take (off + k) ++ v :: cs.drop (off + k + 1) := by
      rw [List.set_eq_take_append_cons_drop, if_pos (by omega)]
    have hA : (cs.take (off + k)).length = off + k := by rw [List.length_take]; omega
    have e1 : (cs.set (off + k) v).take (off + (k + 1)) = cs.take (off + k) ++ [v] := by
      rw [hs, List.take_append, hA, List.take_of_length_le (by omega), show off + (k + 1) - (off + k) = 1 by omega]
      simp
    have e2 : (cs.set (off + k) v).drop (off + (k + 1) + vs.length) = cs.drop (off + k + (vs.length + 1)) := by
      rw [hs, List.drop_append, hA, List.drop_of_length_le (by omega), show off + (k + 1) + vs.length - (off + k) = vs.length + 1 by omega]
      simp [List.drop_drop]
      congr 1
      omega
    rw [e1, e2]
    simp
theorem fill_sim {place place' : Nat → Option (Nat × Nat)} (hp : ∀ i p, place i = some p → place' i = some p) :
    ∀ {parts parts' : List (Nat × Value)} {cs cs' out : List Value}, VRp f parts parts' → VRs f cs cs' → (∀ y ∈ cs', y.oneCell' = true) → fillL place cs parts = some out →
      ∃ out', Instr.fill place' ⟨cs'⟩ parts' = some ⟨out'⟩ ∧ VRs f out out' ∧ ∀ y ∈ out', y.oneCell' = true
  | [], _, cs, cs', out, .nil, hc, h1, h => by simp [fillL] at h; subst h; exact ⟨cs', rfl, hc, h1⟩
  | (i, v) :: rest, _, cs, cs', out, .cons (x' := v') (xs' := rest') hv ht, hc, h1, h => by
    simp only [fillL, Option.bind_eq_some_iff] at h
    obtain ⟨p, hpl, ws, hws, h⟩ := h
    split at h
    · rename_i hcond
      obtain ⟨ws', e, hw, h2⟩ := hv.cells hws
      have hl := hw.length
      have hl2 := hc.length
      obtain ⟨out', ho, hr⟩ := fill_sim hp (cs := cs.take p.1 ++ ws ++ cs.drop (p.1 + ws.length)) (cs' := cs'.take p.1 ++ ws' ++ cs'.drop (p.1 + ws.length)) ht
        (((hc.take _).append hw).append (hc.drop _)) (fun y hy => by
          simp only [List.mem_append] at hy
          rcases hy with (hy | hy) | hy
          · exact h1 y (List.mem_of_mem_take hy)
          · exact h2 y hy
          · exact h1 y (List.mem_of_mem_drop hy)) h
      refine ⟨out', ?_, hr⟩
      have hfs := foldl_set ws' 0 p.1 cs' (by omega)
      simp only [Nat.add_zero] at hfs
      simp only [Instr.fill, hp i p hpl, e]
      have q1 : ¬ (ws'.length ≠ p.2) := by omega
      have q2 : ¬ (p.1 + ws'.length > cs'.length) := by omega
      simp only [List.size_toArray] at *
      rw [if_neg (by simp; omega)]
      rw [← ho]
      congr 1
      rw [← hl, ← hfs]
      simp [Array.zipIdx_toArray, List.foldl_toArray]
    · simp at h
theorem VRs.replicate (v v' : Value) (h : VR f v v') : ∀ n, VRs f (List.replicate n v) (List.replicate n v')
  | 0 => .nil
  | n + 1 => .cons h (VRs.replicate v v' h n)
theorem places_run : ∀ {fs : List Field} {l : List (Nat × Nat)}, aPlaces P fs = some l →
    (fs.mapM fun fd => (do pure (fd.offset, ← sizeOf fd.type) : Sem (Nat × Nat))).run P w = .ok l w
  | [], l, h => by simp [aPlaces] at h; subst h; rfl
  | fd :: fs, l, h => by
    simp only [aPlaces, Option.bind_eq_some_iff] at h
    obtain ⟨n, hn, l', hl', e⟩ := h
    simp at e; subst e
    have ih := places_run hl'
    simp only [bind_pure_comp] at ih
    simp [List.mapM_cons, run_sizeOf' hn, ih]

theorem arrT_some {t e : TypeId} (h : arrT P t = some e) : ∃ n, P.underlying t = some (.array n e) := by
  unfold arrT at h
  split at h
  · rename_i n e' hu
    simp only [Option.some.injEq] at h
    exact ⟨n, h ▸ hu⟩
  · simp at h
theorem aBuild_sim {t : TypeId} {ps ps' : List (Nat × Value)} {v : Value} (h : aBuild P t ps = some v) (hp : VRp f ps ps') :
    ∃ v', (Instr.build t ⟨ps'⟩).run P w = .ok v' w ∧ VR f v v' := by
  unfold aBuild at h
  split at h
  · rename_i e he
    simp only [Option.bind_eq_some_iff, Option.map_eq_some_iff] at h
    obtain ⟨sz, hsz, z, hz, cs, hcs, out, ho, rfl⟩ := h
    obtain ⟨n, hu⟩ := arrT_some he
    obtain ⟨hz1, hz2, hz3, hz4⟩ := zero_cells (f := f) (w := w) hz hcs
    obtain ⟨out', ho', hv, h1⟩ := fill_sim (place' := fun i => some (i * sz, sz)) (fun i p hi => hi) hp hz3 hz4 ho
    refine ⟨.agg ⟨out'⟩, ?_, .agg _ _ hv h1⟩
    unfold Instr.build
    simp only [Sem.run_bind, hz1, Result.andThen_ok, run_underlying' hu, hz2, run_sizeOf' hsz, ho']
    rfl
  simp only [Option.bind_eq_some_iff, Option.map_eq_some_iff] at h
  obtain ⟨z, hz, fs, hfs, pl, hpl, cs, hcs, out, ho, rfl⟩ := h
  have hu := structT_some hfs
  obtain ⟨hz1, hz2, hz3, hz4⟩ := zero_cells (f := f) (w := w) hz hcs
  obtain ⟨out', ho', hv, h1⟩ := fill_sim (place' := fun i => (⟨pl⟩ : Array (Nat × Nat))[i]?) (fun i p hi => by simpa using hi) hp hz3 hz4 ho
  refine ⟨.agg ⟨out'⟩, ?_, .agg _ _ hv h1⟩
  have hm := places_run (P := P) (w := w) hpl
  have hm' : (fs.mapM fun fd => (do pure (fd.offset, ← sizeOf fd.type) : Sem (Nat × Nat))).run P w = .ok ⟨pl⟩ w := by
    rw [Array.mapM_eq_mapM_toList]
    simp only [Sem.run_map, hm, Result.andThen_ok]
  unfold Instr.build
  simp only [Sem.run_bind, hz1, Result.andThen_ok, run_underlying' hu, hz2, hm', ho']
  rfl

theorem Addr.add_none (b o n : Nat) : (⟨b, o, none⟩ : Addr).add n = ⟨b, o + n, none⟩ := by
  unfold Addr.add; split <;> simp_all

theorem boundV_cases {v : Option Value} {d n : Nat} (h : boundV v d = some n) : (v = none ∧ n = d) ∨ ∃ k i, v = some (.int k i) ∧ 0 ≤ i ∧ n = i.toNat := by
  cases v with
  | none => simp [boundV] at h; exact .inl ⟨rfl, h.symm⟩
  | some u =>
    cases u <;> simp [boundV] at h
    rename_i k i
    exact .inr ⟨k, i, rfl, h.1, h.2.symm⟩
theorem sliceBound_run {k : IntKind} {i : Int} {y : Nat} {c : BoundsCode} (h0 : 0 ≤ i) (h : i.toNat ≤ y) : (Instr.sliceBound (.int k i) y c).run P w = .ok i.toNat w := by
  have : i ≤ y := by omega
  simp [Instr.sliceBound, asIntOf, h0, this]
theorem boundV_sim {v v' : Option Value} {d n : Nat} (hv : (v = none ∧ v' = none) ∨ ∃ u u', v = some u ∧ v' = some u' ∧ VR f u u') (h : boundV v d = some n) : boundV v' d = some n := by
  rcases hv with ⟨rfl, rfl⟩ | ⟨u, u', rfl, rfl, hu⟩
  · exact h
  · cases hu <;> simp_all [boundV]
theorem boundV_none {v v' : Option Value} (hv : (v = none ∧ v' = none) ∨ ∃ u u', v = some u ∧ v' = some u' ∧ VR f u u') : v = none ↔ v' = none := by
  rcases hv with ⟨rfl, rfl⟩ | ⟨u, u', rfl, rfl, hu⟩ <;> simp

theorem sliceBounds_run {b : Bool} {len cap : Nat} {lo hi mx : Option Value} {l h m : Nat} (hh : boundV hi len = some h) (hl : boundV lo 0 = some l)
    (hm : (mx = none ∧ m = cap) ∨ (mx ≠ none ∧ boundV mx 0 = some m ∧ hi ≠ none)) (h1 : l ≤ h) (h2 : h ≤ m) (h3 : m ≤ cap) (h4 : len ≤ cap) :
    (Instr.sliceBounds b len cap lo hi mx).run P w = .ok (l, h, m) w := by
  rcases hm with ⟨rfl, rfl⟩ | ⟨hx, hm, hi0⟩
  · rcases boundV_cases hh with ⟨rfl, rfl⟩ | ⟨k, i, rfl, i0, rfl⟩ <;> rcases boundV_cases hl with ⟨rfl, rfl⟩ | ⟨k', i', rfl, i0', rfl⟩
    · simp [Instr.sliceBounds]
    · simp [Instr.sliceBounds, sliceBound_run i0' h1]
    · simp [Instr.sliceBounds, sliceBound_run i0 h2]
    · simp [Instr.sliceBounds, sliceBound_run i0' h1, sliceBound_run i0 h2]
  · rcases boundV_cases hm with ⟨rfl, rfl⟩ | ⟨k2, i2, rfl, i02, rfl⟩
    · simp at hx
    · rcases boundV_cases hh with ⟨rfl, rfl⟩ | ⟨k, i, rfl, i0, rfl⟩
      · simp at hi0
      · rcases boundV_cases hl with ⟨rfl, rfl⟩ | ⟨k', i', rfl, i0', rfl⟩
        · simp [Instr.sliceBounds, sliceBound_run i02 h3, sliceBound_run i0 h2]
        · simp [Instr.sliceBounds, sliceBound_run i02 h3, sliceBound_run i0 h2, sliceBound_run i0' h1]
abbrev VRo (f : Ren) (v v' : Option Value) : Prop := (v = none ∧ v' = none) ∨ ∃ u u', v = some u ∧ v' = some u' ∧ VR f u u'
theorem addrAdd_sim {a : Option Addr} {n : Nat} {r : Option Addr} (h : addrAdd a n = some r) : (a = none ∧ r = none) ∨ ∃ b o, a = some ⟨b, o, none⟩ ∧ r = some ⟨b, o + n, none⟩ := by
  rcases a with _ | ⟨b, o, s⟩
  · simp [addrAdd] at h; exact .inl ⟨rfl, h.symm⟩
  · cases s <;> simp [addrAdd] at h
    exact .inr ⟨b, o, rfl, h.symm⟩
theorem aSlice_sim {t : TypeId} {x x' : Value} {lo hi mx lo' hi' mx' : Option Value} {v : Value} (h : aSlice P t x lo hi mx = some v) (hx : VR f x x') (hlo : VRo f lo lo') (hhi : VRo f hi hi') (hmx : VRo f mx mx') (hx3 : mx ≠ none → hi ≠ none) :
    ∃ v', (Instr.sliceAt t x' lo' hi' mx').run P w = .ok v' w ∧ VR f v v' := by
  cases hx <;> simp only [aSlice, reduceCtorEq] at h
  case string s =>
    simp only [Option.bind_eq_some_iff] at h
    obtain ⟨hh, hhh, ll, hll, h⟩ := h
    split at h
    · rename_i hmx0 hu
      split at h
      · rename_i hc
        simp at h; subst h
        have hm0 : mx' = none := (boundV_none hmx).1 rfl
        subst hm0
        refine ⟨_, ?_, .string _⟩
        simp [Instr.sliceAt, run_underlying' hu, Instr.slice, sliceBounds_run (b := false) (boundV_sim hhi hhh) (boundV_sim hlo hll) (.inl ⟨rfl, rfl⟩) hc.1 hc.2 (Nat.le_refl _) (Nat.le_refl _)]
      · simp at h
    · simp at h
  case sliceNil =>
    simp only [Option.bind_eq_some_iff] at h
    obtain ⟨e, he, sz, hsz, hh, hhh, ll, hll, h⟩ := h
    have hu := sliceT_some he
    cases mx with
    | none =>
      have hm0 : mx' = none := (boundV_none hmx).1 rfl
      subst hm0
      simp only at h
      split at h
      · rename_i hc
        obtain ⟨h1, h2⟩ := hc
        simp [kcap, capFlag] at h2
        subst h2
        obtain rfl : ll = 0 := by omega
        simp [capFlag, addrAdd] at h
        subst h
        refine ⟨_, ?_, .sliceNil⟩
        simp [Instr.sliceAt, run_underlying' hu, Instr.slice, sliceBounds_run (b := true) (boundV_sim hhi hhh) (boundV_sim hlo hll) (.inl ⟨rfl, rfl⟩) h1 (Nat.le_refl _) (Nat.le_refl _) (Nat.le_refl _), run_sizeOf' hsz]
      · simp at h
    | some m0 =>
      simp only [Option.bind_eq_some_iff] at h
      obtain ⟨m, hm, h⟩ := h
      split at h
      · rename_i hc
        obtain ⟨h1, h2, h3, h4, h5⟩ := hc
        simp [kcap, capFlag] at h3
        subst h3
        obtain rfl : hh = 0 := by omega
        obtain rfl : ll = 0 := by omega
        simp at h
        subst h
        refine ⟨_, ?_, .sliceNil⟩
        have hmn : mx' ≠ none := fun e => by simpa using (boundV_none hmx).2 e
        have hhn : hi' ≠ none := fun e => hx3 (by simp) ((boundV_none hhi).2 e)
        simp [Instr.sliceAt, run_underlying' hu, Instr.slice, sliceBounds_run (b := true) (boundV_sim hhi hhh) (boundV_sim hlo hll) (.inr ⟨hmn, boundV_sim hmx hm, hhn⟩) h1 h2 (Nat.le_refl _) (Nat.le_refl _), run_sizeOf' hsz]
      · simp at h
  case sliceEnd a a' c' =>
    simp only [Option.bind_eq_some_iff] at h
    obtain ⟨e, he, sz, hsz, hh, hhh, ll, hll, h⟩ := h
    have hu := sliceT_some he
    cases mx with
    | none =>
      have hm0 : mx' = none := (boundV_none hmx).1 rfl
      subst hm0
      simp only at h
      split at h
      · rename_i hc
        obtain ⟨h1, h2⟩ := hc
        simp [kcap] at h2
        subst h2
        obtain rfl : ll = 0 := by omega
        simp only [Nat.le_refl, if_true, Option.map_eq_some_iff, kcap, Nat.sub_self, Nat.zero_mul, Nat.add_zero] at h
        obtain ⟨a2, ha2, rfl⟩ := h
        rcases addrAdd_sim ha2 with ⟨h0, _⟩ | ⟨b, o, h0, rfl⟩
        · simp at h0
        · simp only [Option.some.injEq] at h0
          subst h0
          refine ⟨.slice (some a') 0 c', ?_, .sliceEnd _ _ _⟩
          · simp only [Instr.sliceAt, Sem.run_bind, run_underlying' hu, Result.andThen_ok, Instr.slice, sliceBounds_run (b := true) (boundV_sim hhi hhh) (boundV_sim hlo hll) (.inl ⟨rfl, rfl⟩) h1 (Nat.zero_le c') (Nat.le_refl _) (Nat.zero_le _), run_sizeOf' hsz]
            by_cases hz : c' = 0 <;> simp [hz, Addr.add]
      · simp at h
    | some m0 =>
      simp only [Option.bind_eq_some_iff] at h
      obtain ⟨m, hm, h⟩ := h
      split at h
      · rename_i hc
        exact absurd rfl hc.2.2.2.2
      · simp at h
  case sliceAny a' c' =>
    simp only [Option.bind_eq_some_iff] at h
    obtain ⟨e, he, sz, hsz, hh, hhh, ll, hll, h⟩ := h
    have hu := sliceT_some he
    cases mx with
    | none =>
      have hm0 : mx' = none := (boundV_none hmx).1 rfl
      subst hm0
      simp only at h
      split at h
      · rename_i hc
        obtain ⟨h1, h2⟩ := hc
        simp [kcap] at h2
        subst h2
        obtain rfl : ll = 0 := by omega
        simp only [Nat.le_refl, if_true, Option.map_eq_some_iff, kcap, Nat.sub_self, Nat.zero_mul, Nat.add_zero, addrAdd, Option.some.injEq] at h
        obtain ⟨a2, rfl, rfl⟩ := h
        refine ⟨.slice a' 0 c', ?_, .sliceAny _ _⟩
        simp only [Instr.sliceAt, Sem.run_bind, run_underlying' hu, Result.andThen_ok, Instr.slice, sliceBounds_run (b := true) (boundV_sim hhi hhh) (boundV_sim hlo hll) (.inl ⟨rfl, rfl⟩) h1 (Nat.zero_le c') (Nat.le_refl _) (Nat.zero_le _), run_sizeOf' hsz]
        cases a' <;> by_cases hz : c' = 0 <;> simp [hz, Addr.add]
      · simp at h
    | some m0 =>
      simp only [Option.bind_eq_some_iff] at h
      obtain ⟨m, hm, h⟩ := h
      split at h
      · rename_i hc
        exact absurd rfl hc.2.2.2.2
      · simp at h
  case slice b o n c p hp hn =>
    simp only [Option.bind_eq_some_iff] at h
    obtain ⟨e, he, sz, hsz, hh, hhh, ll, hll, h⟩ := h
    have hu := sliceT_some he
    have hk : kcap c ≤ realCap c p.spare := by unfold kcap realCap; split <;> omega
    cases mx with
    | none =>
      have hm0 : mx' = none := (boundV_none hmx).1 rfl
      subst hm0
      simp only at h
      split at h
      · rename_i hc
        obtain ⟨h1, h2⟩ := hc
        have hrun : (Instr.sliceAt t (.slice (some ⟨p.blk, p.off + o, none⟩) n (realCap c p.spare)) lo' hi' none).run P w =
            .ok (.slice (if realCap c p.spare = ll then some ⟨p.blk, p.off + o, none⟩ else some ⟨p.blk, p.off + o + ll * sz, none⟩) (hh - ll) (realCap c p.spare - ll)) w := by
          simp only [Instr.sliceAt, Sem.run_bind, run_underlying' hu, Result.andThen_ok, Instr.slice, sliceBounds_run (b := true) (boundV_sim hhi hhh) (boundV_sim hlo hll) (.inl ⟨rfl, rfl⟩) h1 (Nat.le_trans h2 hk) (Nat.le_refl _) hn, run_sizeOf' hsz]
          simp only [Sem.run_pure, Option.map_some, Addr.add_none]
        split at h
        · rename_i hf
          simp only [Option.map_eq_some_iff] at h
          obtain ⟨a2, ha2, rfl⟩ := h
          rcases addrAdd_sim ha2 with ⟨h0, _⟩ | ⟨b', o', h0, rfl⟩
          · simp at h0
          · simp only [Option.some.injEq, Addr.mk.injEq, and_true] at h0
            obtain ⟨rfl, rfl⟩ := h0
            refine ⟨_, hrun, ?_⟩
            by_cases hlk : ll = kcap c
            · obtain rfl : hh = ll := by omega
              rw [hlk, Nat.sub_self]
              by_cases hz : realCap c p.spare = kcap c
              · rw [if_pos hz]; exact .sliceEnd _ _ _
              · rw [if_neg hz]; exact .sliceEnd _ _ _
            · have hrc : realCap c p.spare = kcap c + p.spare := by unfold realCap kcap; simp [hf]
              rw [if_neg (by omega)]
              have e1 : realCap c p.spare - ll = realCap (capFlag + (kcap c - ll)) p.spare := by
                rw [hrc]; unfold realCap; rw [if_pos (by omega)]; omega
              rw [e1, Nat.add_assoc]
              exact .slice _ _ _ _ _ hp (by unfold realCap; rw [if_pos (by omega)]; omega)
        · rename_i hf
          have hrc : realCap c p.spare = c := by unfold realCap; rw [if_neg hf]
          have hkc : kcap c = c := by unfold kcap; rw [if_neg hf]
          simp only [Option.map_eq_some_iff] at h
          obtain ⟨a2, ha2, rfl⟩ := h
          refine ⟨_, hrun, ?_⟩
          rw [hrc]
          have e1 : c - ll = realCap (c - ll) p.spare := by unfold realCap; rw [if_neg (by omega)]
          split at ha2
          · rename_i hcl
            simp at ha2
            subst ha2
            rw [if_pos hcl]
            have := VR.slice (f := f) b o (hh - ll) (c - ll) p hp (by rw [← e1]; omega)
            rwa [← e1] at this
          · rename_i hcl
            rcases addrAdd_sim ha2 with ⟨h0, _⟩ | ⟨b', o', h0, rfl⟩
            · simp at h0
            · simp only [Option.some.injEq, Addr.mk.injEq, and_true] at h0
              obtain ⟨rfl, rfl⟩ := h0
              rw [if_neg hcl]
              have := VR.slice (f := f) b (o + ll * sz) (hh - ll) (c - ll) p hp (by rw [← e1]; omega)
              rw [← e1] at this
              rwa [Nat.add_assoc]
      · simp at h
    | some m0 =>
      simp only [Option.bind_eq_some_iff] at h
      obtain ⟨m, hm, h⟩ := h
      split at h
      · rename_i hc
        obtain ⟨h1, h2, h3, h4, h5⟩ := hc
        have hmn : mx' ≠ none := fun e => by simpa using (boundV_none hmx).2 e
        have hhn : hi' ≠ none := fun e => hx3 (by simp) ((boundV_none hhi).2 e)
        have hrun : (Instr.sliceAt t (.slice (some ⟨p.blk, p.off + o, none⟩) n (realCap c p.spare)) lo' hi' mx').run P w =
            .ok (.slice (if m = ll then some ⟨p.blk, p.off + o, none⟩ else some ⟨p.blk, p.off + o + ll * sz, none⟩) (hh - ll) (m - ll)) w := by
          simp only [Instr.sliceAt, Sem.run_bind, run_underlying' hu, Result.andThen_ok, Instr.slice, sliceBounds_run (b := true) (boundV_sim hhi hhh) (boundV_sim hlo hll) (.inr ⟨hmn, boundV_sim hmx hm, hhn⟩) h1 h2 (Nat.le_trans h3 hk) hn, run_sizeOf' hsz]
          simp only [Sem.run_pure, Option.map_some, Addr.add_none]
        simp only [Option.map_eq_some_iff] at h
        obtain ⟨a2, ha2, rfl⟩ := h
        refine ⟨_, hrun, ?_⟩
        have e1 : m - ll = realCap (m - ll) p.spare := by unfold realCap; rw [if_neg (by omega)]
        split at ha2
        · rename_i hcl
          simp at ha2
          subst ha2
          rw [if_pos hcl]
          have := VR.slice (f := f) b o (hh - ll) (m - ll) p hp (by rw [← e1]; omega)
          rwa [← e1] at this
        · rename_i hcl
          rcases addrAdd_sim ha2 with ⟨h0, _⟩ | ⟨b', o', h0, rfl⟩
          · simp at h0
          · simp only [Option.some.injEq, Addr.mk.injEq, and_true] at h0
            obtain ⟨rfl, rfl⟩ := h0
            rw [if_neg hcl]
            have := VR.slice (f := f) b (o + ll * sz) (hh - ll) (m - ll) p hp (by rw [← e1]; omega)
            rw [← e1] at this
            rwa [Nat.add_assoc]
      · simp at h
end
end Go.Am

namespace Go.Am
open Go
section
variable {P : Program} {f : Ren} {w : World}

theorem aFieldAddr_sim {t : TypeId} {x x' v : Value} {k : Nat} (h : aFieldAddr P t x k = some v) (hx : VR f x x') : ∃ v', (Instr.fieldAt t x' k).run P w = .ok v' w ∧ VR f v v' := by
  cases hx <;> simp only [aFieldAddr, reduceCtorEq] at h
  case ptr b o p hp =>
    simp only [Option.bind_eq_some_iff] at h
    obtain ⟨fs, hfs, fd, hfd, n, hn, h⟩ := h
    split at h
    · simp at h
    · rename_i hn0
      simp at h; subst h
      refine ⟨_, ?_, .ptr _ _ _ hp⟩
      simp [Instr.fieldAt, run_underlying' (structT_some hfs), hfd, Instr.sureAddr, fieldPlace, run_sizeOf' hn, hn0, Addr.add_none, Nat.add_assoc]
theorem aIndexAddr_sim {t : TypeId} {x x' i i' v : Value} (h : aIndexAddr P t x i = some v) (hx : VR f x x') (hi : VR f i i') : ∃ v', (Instr.indexAt t x' i').run P w = .ok v' w ∧ VR f v v' := by
  cases hx <;> cases hi <;> simp only [aIndexAddr, reduceCtorEq] at h
  case slice.int b o n c p hp hn k j =>
    simp only [Option.bind_eq_some_iff] at h
    obtain ⟨e, he, sz, hsz, h⟩ := h
    split at h
    · rename_i hc
      simp at h; subst h
      refine ⟨_, ?_, .ptr _ _ _ hp⟩
      simp [Instr.indexAt, asIntOf, run_underlying' (sliceT_some he), hc, run_sizeOf' hsz, Addr.add_none, Nat.add_assoc]
    · simp at h
  case sliceEnd.int => 
    rename_i a a' c' k j
    obtain ⟨b, o, s⟩ := a
    cases s <;> simp only [Option.bind_eq_some_iff, reduceCtorEq] at h
    obtain ⟨e, he, sz, hsz, h⟩ := h
    split at h
    · rename_i hc; simp at hc; omega
    · simp at h
  case ptr.int b o p hp k j =>
    split at h
    · rename_i n e hu
      simp only [Option.bind_eq_some_iff] at h
      obtain ⟨sz, hsz, h⟩ := h
      split at h
      · rename_i hc
        simp at h; subst h
        refine ⟨_, ?_, .ptr _ _ _ hp⟩
        simp [Instr.indexAt, asIntOf, run_underlying' hu, Instr.sureAddr, hc, run_sizeOf' hsz, Addr.add_none, Nat.add_assoc]
      · simp at h
    · simp at h
theorem aField_sim {t : TypeId} {x x' v : Value} {k : Nat} (h : aField P t x k = some v) (hx : VR f x x') : ∃ v', (Instr.field t x' k).run P w = .ok v' w ∧ VR f v v' := by
  cases hx <;> simp only [aField, reduceCtorEq] at h
  case agg xs xs' hs h1 =>
    simp only [Option.bind_eq_some_iff] at h
    obtain ⟨fs, hfs, fd, hfd, h⟩ := h
    obtain ⟨v', hr, hv⟩ := aPart_sim (w := w) h hs h1
    exact ⟨v', by simp [Instr.field, run_underlying' (structT_some hfs), hfd, asAgg, hr], hv⟩
theorem aExtract_sim {x x' v : Value} {k : Nat} (h : aExtract x k = some v) (hx : VR f x x') : ∃ v', (Instr.extract x' k).run P w = .ok v' w ∧ VR f v v' := by
  cases hx <;> try (simp only [aExtract, reduceCtorEq] at h)
  case tuple xs xs' hs hl =>
    rcases xs with _ | ⟨a, _ | ⟨b, l⟩⟩ <;> simp only [aExtract, reduceCtorEq] at h
    obtain ⟨y, hy, hv⟩ := hs.get k v h
    refine ⟨y, ?_, hv⟩
    have : (⟨xs'⟩ : Array Value)[k]? = some y := by simpa using hy
    simp [Instr.extract, this]
theorem nilEq_in {n : Nat} {t : TypeId} {d : TypeDesc} {x x' y y' : Value} {b : Bool} (hd : P.underlying t = some d) (h : nilEq d x y = some b) (hx : VR f x x') (hy : VR f y y') :
    (Op.equalIn (n + 1) t x' y').run P w = .ok b w := by
  unfold nilEq at h
  split at h <;> simp only [Option.some.injEq, reduceCtorEq] at h <;> subst h <;> cases hx <;> cases hy <;> simp [Op.equalIn, run_underlying' hd]
theorem nilEq_sim {t : TypeId} {d : TypeDesc} {x x' y y' : Value} {b : Bool} (hd : P.underlying t = some d) (h : nilEq d x y = some b) (hx : VR f x x') (hy : VR f y y') :
    (∀ xo yo op, (eqGuard op t xo yo x' y').run P w = .ok () w) ∧ (binOp .eql t x' y').run P w = .ok (.bool b) w ∧ (binOp .neq t x' y').run P w = .ok (.bool !b) w := by
  have h1 : (Op.equal t x' y').run P w = .ok b w := nilEq_in (n := 9999) hd h hx hy
  have key : (∀ xo yo op, (eqGuard op t xo yo x' y').run P w = .ok () w) ∧ (binOp .eql t x' y' = do pure (.bool (← Op.equal t x' y'))) ∧ (binOp .neq t x' y' = do pure (.bool (!(← Op.equal t x' y')))) := by
    clear h1
    unfold nilEq at h
    split at h <;> simp only [Option.some.injEq, reduceCtorEq] at h <;> clear h <;> cases hx <;> cases hy <;>
      (refine ⟨fun xo yo op => ?_, rfl, rfl⟩
       cases op <;> simp [eqGuard])
  obtain ⟨h2, h3, h4⟩ := key
  exact ⟨h2, by rw [h3]; simp [h1], by rw [h4]; simp [h1]⟩
theorem aBin_sim {op : BinOp} {t : TypeId} {x x' y y' v : Value} {xo yo : Operand} (h : aBin P op t x y xo yo = some v) (hx : VR f x x') (hy : VR f y y') :
    ∃ v', (do eqGuard op t xo yo x' y'; binOp op t x' y' : Sem Value).run P w = .ok v' w ∧ VR f v v' := by
  unfold aBin at h
  cases hp : pureV x && pureV y with
  | true =>
    rw [hp] at h
    simp only [cond_true] at h
    simp only [Bool.and_eq_true] at hp
    rw [hx.pure_eq hp.1, hy.pure_eq hp.2]
    obtain ⟨h1, h2⟩ := keepPure_some h
    exact ⟨v, pureRun_sound h1 w, pureV_VR f h2⟩
  | false =>
    rw [hp] at h
    simp only [cond_false] at h
    split at h
    · simp only [Option.map_eq_some_iff, Option.bind_eq_some_iff] at h
      obtain ⟨b, ⟨d, hd, hb⟩, rfl⟩ := h
      obtain ⟨h1, h2, h3⟩ := nilEq_sim (w := w) hd hb hx hy
      exact ⟨_, by simp only [Sem.run_bind, h1, Result.andThen_ok, h2], .bool b⟩
    · simp only [Option.map_eq_some_iff, Option.bind_eq_some_iff] at h
      obtain ⟨b, ⟨d, hd, hb⟩, rfl⟩ := h
      obtain ⟨h1, h2, h3⟩ := nilEq_sim (w := w) hd hb hx hy
      exact ⟨_, by simp only [Sem.run_bind, h1, Result.andThen_ok, h3], .bool _⟩
    · simp at h
theorem pure_sim {s : Value → Sem Value} {x x' v : Value} (h : (bif pureV x then keepPure (pureRun P (s x)) else none) = some v) (hx : VR f x x') : ∃ v', (s x').run P w = .ok v' w ∧ VR f v v' := by
  cases hp : pureV x with
  | true =>
    rw [hp] at h
    obtain ⟨h1, h2⟩ := keepPure_some h
    rw [hx.pure_eq hp]
    exact ⟨v, pureRun_sound h1 w, pureV_VR f h2⟩
  | false => rw [hp] at h; simp at h
theorem aIndex_sim {t : TypeId} {x x' y y' v : Value} (h : aIndex P t x y = some v) (hx : VR f x x') (hy : VR f y y') : ∃ v', (Instr.index t x' y').run P w = .ok v' w ∧ VR f v v' := by
  unfold aIndex at h
  cases hp : pureV x && pureV y with
  | true =>
    rw [hp] at h
    simp only [Bool.and_eq_true] at hp
    obtain ⟨h1, h2⟩ := keepPure_some h
    rw [hx.pure_eq hp.1, hy.pure_eq hp.2]
    exact ⟨v, pureRun_sound h1 w, pureV_VR f h2⟩
  | false => rw [hp] at h; simp at h
theorem aIface_sim {t : TypeId} {x x' v : Value} (h : aIface P t x = some v) (hx : VR f x x') : ∃ v', (Instr.makeInterface t x').run P w = .ok v' w ∧ VR f v v' := by
  unfold aIface at h
  split at h
  · simp at h
  · rename_i d hd hu
    simp at h; subst h
    refine ⟨_, ?_, .iface _ _ _ hx⟩
    cases d <;> simp_all [Instr.makeInterface, run_underlying' hu]
  · simp at h
theorem aAssert_sim {t xt : TypeId} {ok : Bool} {x x' v : Value} (h : aAssert P x t ok = some v) (hx : VR f x x') : ∃ v', (Instr.typeAssert x' xt t ok).run P w = .ok v' w ∧ VR f v v' := by
  unfold aAssert at h
  split at h
  · simp at h
  · rename_i d hd hu
    have hz : ∀ z, zeroT P t = some z → (zeroValue t).run P w = .ok z w ∧ VR f z z := fun z hz => ⟨(run_zero' hz).1, pureV_VR f (run_zero' (w := w) hz).2⟩
    cases hx <;> simp only [reduceCtorEq] at h
    case iface u a a' ha =>
      by_cases hut : u = t
      · rw [if_pos hut] at h
        simp at h; subst h
        cases ok with
        | true =>
          refine ⟨.tuple ⟨[a', .bool true]⟩, ?_, .tuple _ _ (.cons ha (.cons (.bool _) .nil)) (by simp)⟩
          cases d <;> simp_all [Instr.typeAssert, run_underlying' hu]
        | false =>
          refine ⟨a', ?_, ha⟩
          cases d <;> simp_all [Instr.typeAssert, run_underlying' hu]
      · rw [if_neg hut] at h
        cases ok with
        | true =>
          simp only [cond_true, Option.map_eq_some_iff] at h
          obtain ⟨z, hz0, rfl⟩ := h
          obtain ⟨h1, h2⟩ := hz z hz0
          refine ⟨.tuple ⟨[z, .bool false]⟩, ?_, .tuple _ _ (.cons h2 (.cons (.bool _) .nil)) (by simp)⟩
          cases d <;> simp_all [Instr.typeAssert, run_underlying' hu]
        | false => simp at h
    case nilIface =>
      cases ok with
      | true =>
        simp only [cond_true, Option.map_eq_some_iff] at h
        obtain ⟨z, hz0, rfl⟩ := h
        obtain ⟨h1, h2⟩ := hz z hz0
        refine ⟨.tuple ⟨[z, .bool false]⟩, ?_, .tuple _ _ (.cons h2 (.cons (.bool _) .nil)) (by simp)⟩
        cases d <;> simp_all [Instr.typeAssert, run_underlying' hu]
      | false => simp at h
  · simp at h
theorem aLen_sim {t : TypeId} {x x' v : Value} (h : aLen P t x = some v) (hx : VR f x x') (ts : Array TypeId) (ty : TypeId) : ∃ v', (Builtin.len_ ⟨t :: ts.toList⟩ ty ⟨[x']⟩).run P w = .ok v' w ∧ VR f v v' := by
  unfold aLen at h
  split at h
  · rename_i hu
    simp at h; subst h
    cases hx
    exact ⟨_, by simp [Builtin.len_, run_underlying' hu, goInt], .int _ _⟩
  · rename_i hu
    simp at h; subst h
    cases hx <;> exact ⟨_, by simp [Builtin.len_, run_underlying' hu, goInt], .int _ _⟩
  · simp at h
theorem aCap_sim {t : TypeId} {x x' v : Value} (h : aCap P t x = some v) (hx : VR f x x') (ts : Array TypeId) (ty : TypeId) : ∃ v', (Builtin.cap_ ⟨t :: ts.toList⟩ ty ⟨[x']⟩).run P w = .ok v' w ∧ VR f v v' := by
  unfold aCap at h
  split at h
  · rename_i a n c hu
    split at h
    · rename_i hc
      simp at h; subst h
      cases hx
      case slice b o p hp hn =>
        have e : realCap c p.spare = c := by unfold realCap; rw [if_neg (by omega)]
        exact ⟨_, by simp [Builtin.cap_, run_underlying' hu, goInt, e], .int _ _⟩
      case sliceNil => exact ⟨_, by simp [Builtin.cap_, run_underlying' hu, goInt], .int _ _⟩
      case sliceEnd => exact absurd hc (by simp)
      case sliceAny => exact absurd hc (by simp)
    · simp at h
  · simp at h
theorem aPick_sim {c c' x x' y y' v : Value} (h : aPick c x y = some v) (hc : VR f c c') (hx : VR f x x') (hy : VR f y y') : ∃ b, c' = .bool b ∧ VR f v (if b then x' else y') := by
  cases hc <;> simp only [aPick, reduceCtorEq] at h
  rename_i b
  simp at h; subst h
  refine ⟨b, rfl, ?_⟩
  cases b <;> simpa

theorem opP_sim {o : Oper} {tm : List Value} {a : Act} {v : Value} (hcl : cls P o.op = .P) (h : opP P tm o.op = some v) (ht : VRs f tm a.tmps.toList) (hmx : ∀ t x hi mx lo, o.op = .slice t x lo hi mx → mx ≠ none → hi ≠ none) :
    ∃ v', (execOp a.eval o).run P w = .ok (.value v') w ∧ VR f v v' := by
  have ofV : ∀ s : Sem Value, (∃ v', s.run P w = .ok v' w ∧ VR f v v') → ∃ v', (do pure (Next.value (← s)) : Sem Next).run P w = .ok (.value v') w ∧ VR f v v' := by
    rintro s ⟨v', hr, hv⟩
    exact ⟨v', by simp [hr], hv⟩
  cases hop : o.op <;> rw [hop] at h hcl <;> simp only [opP, reduceCtorEq, cls] at h hcl <;> simp only [execOp, hop]
  case move x => exact ⟨_, rfl, ev_sim h ht⟩
  case assign x => exact ⟨_, rfl, ev_sim h ht⟩
  case pick c x y =>
    simp only [Option.bind_eq_some_iff] at h
    obtain ⟨cv, hc, xv, hx, yv, hy, h⟩ := h
    obtain ⟨b, hb, hv⟩ := aPick_sim h (ev_sim hc ht) (ev_sim hx ht) (ev_sim hy ht)
    exact ⟨_, by simp [hb, asBool], hv⟩
  case build t parts =>
    simp only [Option.bind_eq_some_iff] at h
    obtain ⟨ps, hps, h⟩ := h
    have := evp_sim ht hps
    refine ofV _ ?_
    have hb := aBuild_sim (w := w) h this
    have e : (parts.map fun (x : Nat × Operand) => match x with | (i, x) => (i, a.eval x)) = ⟨parts.toList.map fun p => (p.1, a.eval p.2)⟩ := by
      apply Array.ext'
      simp
    rw [e]; exact hb
  case nilCheck x =>
    simp only [Option.bind_eq_some_iff] at h
    obtain ⟨xv, hx, h⟩ := h
    have hv := ev_sim hx ht
    revert hv
    generalize a.eval x = x'
    intro hv
    cases hv <;> simp only [aNilCheck, reduceCtorEq, Option.some.injEq] at h <;> subst h
    · exact ⟨_, rfl, by constructor; assumption⟩
    · exact ⟨_, rfl, by constructor <;> assumption⟩
    · exact ⟨_, rfl, by constructor; assumption⟩
  case binOp op t x y yt =>
    simp only [Option.bind_eq_some_iff] at h
    obtain ⟨xv, hx, yv, hy, h⟩ := h
    exact ofV _ (aBin_sim h (ev_sim hx ht) (ev_sim hy ht))
  case unOp op t x =>
    simp only [Option.bind_eq_some_iff] at h
    obtain ⟨xv, hx, h⟩ := h
    exact ofV _ (pure_sim h (ev_sim hx ht))
  case convert s d x =>
    simp only [Option.bind_eq_some_iff] at h
    obtain ⟨xv, hx, h⟩ := h
    exact ofV _ (pure_sim h (ev_sim hx ht))
  case makeInterface t x =>
    simp only [Option.bind_eq_some_iff] at h
    obtain ⟨xv, hx, h⟩ := h
    exact ofV _ (aIface_sim h (ev_sim hx ht))
  case makeFunc fn first cap =>
    cases fn <;> simp only [opP, reduceCtorEq] at h
    simp only [Option.bind_eq_some_iff] at h
    obtain ⟨xs, hxs, ys, hys, h⟩ := h
    simp at h; subst h
    refine ofV _ ⟨_, rfl, ?_⟩
    have e1 : first.map a.eval = ⟨first.toList.map a.eval⟩ := Array.ext' (by simp)
    have e2 : cap.map a.eval = ⟨cap.toList.map a.eval⟩ := Array.ext' (by simp)
    rw [e1, e2]
    exact .func _ _ _ _ _ (evs_sim ht hxs) (evs_sim ht hys)
  case slice t x lo hi mx =>
    simp only [Option.bind_eq_some_iff] at h
    obtain ⟨xv, hx, lv, hl, hv, hh, mv, hm, h⟩ := h
    have e1 := evo_sim ht hl
    have e2 := evo_sim ht hh
    have e3 := evo_sim ht hm
    refine ofV _ (aSlice_sim h (ev_sim hx ht) e1 e2 e3 ?_)
    intro hmn hhn
    have h1 : mx ≠ none := by
      rintro rfl
      simp [evo] at hm
      exact hmn hm.symm
    have h2 := hmx t x hi mx lo hop h1
    cases hi with
    | none => exact h2 rfl
    | some y => simp [evo] at hh; obtain ⟨u, _, rfl⟩ := hh; simp at hhn
  case fieldAddr t x k =>
    simp only [Option.bind_eq_some_iff] at h
    obtain ⟨xv, hx, h⟩ := h
    exact ofV _ (aFieldAddr_sim h (ev_sim hx ht))
  case field t x k =>
    simp only [Option.bind_eq_some_iff] at h
    obtain ⟨xv, hx, h⟩ := h
    exact ofV _ (aField_sim h (ev_sim hx ht))
  case indexAddr t x i =>
    simp only [Option.bind_eq_some_iff] at h
    obtain ⟨xv, hx, yv, hy, h⟩ := h
    exact ofV _ (aIndexAddr_sim h (ev_sim hx ht) (ev_sim hy ht))
  case index t x i =>
    simp only [Option.bind_eq_some_iff] at h
    obtain ⟨xv, hx, yv, hy, h⟩ := h
    exact ofV _ (aIndex_sim h (ev_sim hx ht) (ev_sim hy ht))
  case typeAssert x xt t ok =>
    simp only [Option.bind_eq_some_iff] at h
    obtain ⟨xv, hx, h⟩ := h
    exact ofV _ (aAssert_sim h (ev_sim hx ht))
  case extract x k =>
    simp only [Option.bind_eq_some_iff] at h
    obtain ⟨xv, hx, h⟩ := h
    exact ofV _ (aExtract_sim h (ev_sim hx ht))
  case call c =>
    obtain ⟨callee, ⟨args⟩, ⟨ts⟩⟩ := c
    simp only at h
    rcases args with _ | ⟨x, _ | ⟨y, l⟩⟩ <;> rcases ts with _ | ⟨t, ts⟩ <;> simp only [reduceCtorEq] at h
    cases callee <;> simp only [reduceCtorEq] at hcl
    rename_i b
    cases b <;> simp only [reduceCtorEq] at hcl
    case len =>
      simp only [Option.bind_eq_some_iff] at h
      obtain ⟨xv, hx, h⟩ := h
      obtain ⟨v', hr, hv⟩ := aLen_sim (w := w) h (ev_sim hx ht) ⟨ts⟩ o.type
      exact ⟨v', by simp [resolve, invoke, builtin, hr], hv⟩
    case cap =>
      simp only [Option.bind_eq_some_iff] at h
      obtain ⟨xv, hx, h⟩ := h
      obtain ⟨v', hr, hv⟩ := aCap_sim (w := w) h (ev_sim hx ht) ⟨ts⟩ o.type
      exact ⟨v', by simp [resolve, invoke, builtin, hr], hv⟩
end
end Go.Am

namespace Go.Am
open Go
section
variable {P : Program} {f : Ren} {w : World} {h : Heap}

theorem cell_at {b o : Nat} {cc : Array Value} {e : TypeId} {fz : Nat × Nat} (hb : w.heap[b]? = some (.cells cc e fz)) : w.cell? ⟨b, o, none⟩ = cc[o]? := by
  simp [World.cell?, hb]
theorem run_load_at {a : Addr} {v : Value} (hc : w.cell? a = some v) : (load a).run P w = .ok v w := by
  simp [hc]
theorem loadCells_go {a : Addr} : ∀ (vs : List Value) (i : Nat) (acc : Array Value), (∀ j v, vs[j]? = some v → w.cell? (a.add (i + j)) = some v) →
    (loadCellsFrom a i vs.length acc).run P w = .ok (acc ++ ⟨vs⟩) w
  | [], i, acc, _ => by simp [loadCellsFrom]
  | v :: vs, i, acc, hc => by
    have h0 := hc 0 v rfl
    simp only [Nat.add_zero] at h0
    simp only [List.length_cons, loadCellsFrom, Sem.run_bind, run_load_at h0, Result.andThen_ok]
    rw [loadCells_go vs (i + 1) (acc.push v) (fun j u hu => by have := hc (j + 1) u (by simpa using hu); rwa [show i + 1 + j = i + (j + 1) by omega])]
    congr 1
    apply Array.ext'
    simp
theorem run_loadCells_of {a : Addr} {n : Nat} (vs : List Value) (hl : vs.length = n) (hc : ∀ j v, vs[j]? = some v → w.cell? (a.add j) = some v) : (loadCells a n).run P w = .ok ⟨vs⟩ w := by
  subst hl
  have := loadCells_go (P := P) (w := w) (a := a) vs 0 #[] (fun j v hv => by rw [Nat.zero_add]; exact hc j v hv)
  unfold loadCells
  rw [this]
  congr 1
  apply Array.ext'
  simp

/-- The cells of a block that a value leads to, as the model has them. -/
theorem Sim.row (hs : Sim P f h w) {b : Nat} {p : Place} (hp : f b = some p) {e : TypeId} {cs : List Value} {own : Bool} (hb : h[b]? = some ⟨.cells e cs, own⟩) :
    ∃ cs' : List Value, VRs f cs cs' ∧ (∀ y ∈ cs', y.oneCell' = true) ∧ ∀ j v, cs'[j]? = some v → w.cell? ⟨p.blk, p.off + j, none⟩ = some v := by
  obtain ⟨q, cc, e', fz, hq, hh, hc, ho⟩ := hs.blk b _ hb
  rw [hp] at hq
  simp at hq; subst hq
  have hc' : ∀ j v, cs[j]? = some v → ∃ v', cc.toList[p.off + j]? = some v' ∧ VR f v v' ∧ v'.oneCell' = true := fun j v hv => by
    obtain ⟨v', h1, h2⟩ := hc j v hv
    exact ⟨v', by rw [Array.getElem?_toList]; exact h1, h2⟩
  have hcell : ∀ j v, cc.toList[p.off + j]? = some v → w.cell? ⟨p.blk, p.off + j, none⟩ = some v := fun j v hv => by
    rw [cell_at hh, ← Array.getElem?_toList]; exact hv
  clear hc ho hh
  generalize cc.toList = L at hc' hcell
  refine ⟨(L.drop p.off).take cs.length, ?_, ?_, ?_⟩
  · refine VRs.of_get ?_ ?_
    · have : p.off + cs.length ≤ L.length ∨ cs.length = 0 := by
        rcases Nat.eq_zero_or_pos cs.length with h0 | h0
        · exact .inr h0
        · obtain ⟨v', h1, _⟩ := hc' (cs.length - 1) (cs[cs.length - 1]'(by omega)) (List.getElem?_eq_getElem (by omega))
          have := (List.getElem?_eq_some_iff.1 h1).1
          left; omega
      rw [List.length_take, List.length_drop]
      omega
    · intro i x y hx hy
      obtain ⟨v', h1, h2, h3⟩ := hc' i x hx
      rw [List.getElem?_take] at hy
      split at hy
      · rw [List.getElem?_drop, h1] at hy
        simp at hy; subst hy; exact h2
      · simp at hy
  · intro y hy
    obtain ⟨i, hi⟩ := List.mem_iff_getElem?.1 hy
    rw [List.getElem?_take] at hi
    split at hi
    · rename_i hlt
      obtain ⟨v', h1, h2, h3⟩ := hc' i cs[i] (List.getElem?_eq_getElem hlt)
      rw [List.getElem?_drop, h1] at hi
      simp at hi; subst hi; exact h3
    · simp at hi
  · intro j v hv
    rw [List.getElem?_take] at hv
    split at hv
    · rw [List.getElem?_drop] at hv
      exact hcell j v hv
    · simp at hv

theorem aLoad_sim {t : TypeId} {x x' v : Value} (hs : Sim P f h w) (hl : aLoad P t h x = some v) (hx : VR f x x') : ∃ v', (Instr.loadAt t x').run P w = .ok v' w ∧ VR f v v' ∧ (∀ b, aggT P t = some b → b = false → v'.oneCell' = true) := by
  cases hx <;> simp only [aLoad, reduceCtorEq] at hl
  case ptr b o p hp =>
    split at hl
    · rename_i e cs own hb
      obtain ⟨cs', hc, h1, hcell⟩ := hs.row hp hb
      have hl' := hc.length
      unfold aPart at hl
      simp only [Option.bind_eq_some_iff] at hl
      obtain ⟨bb, hbb, hl⟩ := hl
      cases bb with
      | true =>
        simp only [cond_true, Option.bind_eq_some_iff] at hl
        obtain ⟨m, hm, hl⟩ := hl
        split at hl
        · rename_i hlen
          simp at hl; subst hl
          refine ⟨.agg ⟨(cs'.drop o).take m⟩, ?_, .agg _ _ ((hc.drop o).take m) fun y hy => h1 y (List.mem_of_mem_drop (List.mem_of_mem_take hy)), fun b hb => by simp_all⟩
          have := run_loadCells_of (P := P) (w := w) (a := ⟨p.blk, p.off + o, none⟩) (n := m) ((cs'.drop o).take m) (by rw [List.length_take, List.length_drop] at hlen ⊢; omega) (fun j v hv => by
            rw [Addr.add_none, Nat.add_assoc]
            refine hcell _ _ ?_
            rw [List.getElem?_take] at hv
            split at hv
            · rwa [List.getElem?_drop] at hv
            · simp at hv)
          simp only [Instr.loadAt, Instr.sureAddr, loadVar, Sem.run_bind, Sem.run_pure, Result.andThen_ok, run_isAgg hbb, if_true, run_sizeOf' hm, this]
        · simp at hl
      | false =>
        simp only [cond_false] at hl
        obtain ⟨y, hy, hv⟩ := hc.get o v hl
        refine ⟨y, ?_, hv, fun _ _ _ => h1 y (List.mem_of_getElem? hy)⟩
        simp only [Instr.loadAt, Instr.sureAddr, loadVar, Sem.run_bind, Sem.run_pure, Result.andThen_ok, run_isAgg hbb, Bool.false_eq_true, if_false, run_load_at (hcell o y hy)]
    · simp at hl

/-! maps -/
theorem findA_now {d : TypeDesc} {k : Value} : ∀ {es : List (Value × Value)} {es' : List MapEntry} {i : Nat} {r : Option (Nat × Value)}, MapR f es es' → findA d k es i = some r →
    ∃ r', Instr.findNow d k es' i = some r' ∧ ((r = none ∧ r' = none) ∨ ∃ j v v', r = some (j, v) ∧ r' = some (j, v') ∧ VR f v v' ∧ i ≤ j ∧ j < i + es.length ∧ ∃ kk, es[j - i]? = some (kk, v) ∧ Instr.sameNow d k kk = some true)
  | [], [], i, r, _, h => by simp [findA] at h; subst h; exact ⟨none, rfl, .inl ⟨rfl, rfl⟩⟩
  | [], _ :: _, _, _, hm, _ => hm.elim
  | _ :: _, [], _, _, hm, _ => hm.elim
  | (k', v) :: es, e :: es', i, r, ⟨h1, h2, h3, h4⟩, h => by
    simp only [findA] at h
    simp only [Instr.findNow, h1]
    split at h
    · rename_i hq
      simp at h; subst h
      rw [hq]
      exact ⟨_, rfl, .inr ⟨i, v, _, rfl, rfl, h3, Nat.le_refl _, by simp, k', by simp, hq⟩⟩
    · rename_i hq
      rw [hq]
      obtain ⟨r', hr, hh⟩ := findA_now h4 h
      refine ⟨r', hr, ?_⟩
      rcases hh with hh | ⟨j, u, u', rfl, rfl, hu, hj1, hj2, kk, hk1, hk2⟩
      · exact .inl hh
      · refine .inr ⟨j, u, u', rfl, rfl, hu, by omega, by simp; omega, kk, ?_, hk2⟩
        rw [show j - i = (j - (i + 1)) + 1 by omega]
        simpa using hk1
    · simp at h
theorem MapR.length : ∀ {es : List (Value × Value)} {es' : List MapEntry}, MapR f es es' → es'.length = es.length
  | [], [], _ => rfl
  | (_, _) :: _, _ :: _, ⟨_, _, _, h4⟩ => by simp [MapR.length h4]
  | [], _ :: _, h => h.elim
  | _ :: _, [], h => h.elim
theorem simpleKey_pure {d : TypeDesc} {k k' : Value} (hk : simpleKey d k = true) (hv : VR f k k') : k' = k ∧ pureV k = true := by
  unfold simpleKey at hk
  split at hk <;> first | (cases hv; exact ⟨rfl, rfl⟩) | simp at hk
theorem checkKey_run {kt : TypeId} {d : TypeDesc} {k : Value} (hd : P.underlying kt = some d) (hk : simpleKey d k = true) (e : Bool) : (Instr.checkKey e 10000 kt k).run P w = .ok () w := by
  show (Instr.checkKey e (9999 + 1) kt k).run P w = .ok () w
  generalize 9999 = n
  unfold simpleKey at hk
  split at hk <;> first | (simp [Instr.checkKey, run_underlying' hd]; done) | simp at hk
theorem Sim.mapAt (hs : Sim P f h w) {b : Nat} {p : Place} (hp : f b = some p) {es : List (Value × Value)} {own : Bool} (hb : h[b]? = some ⟨.map es, own⟩) :
    ∃ es' clock, w.heap[p.blk]? = some (.map es' clock) ∧ MapR f es es'.toList := by
  obtain ⟨q, es', clock, hq, hh, hm⟩ := hs.blk b _ hb
  rw [hp] at hq
  simp at hq; subst hq
  exact ⟨es', clock, hh, hm⟩
theorem getObj_run {r : Nat} {es : Array MapEntry} {clock : Nat} (hb : w.heap[r]? = some (.map es clock)) : (getObj r).run P w = .ok (.map es clock) w := by
  simp [getObj, Sem.run, hb]
theorem aLookup_sim {t : TypeId} {m m' k k' v : Value} {ok : Bool} (hs : Sim P f h w) (hl : aLookup P t h m k ok = some v) (hm : VR f m m') (hk : VR f k k') : ∃ v', (Instr.lookup t m' k' ok).run P w = .ok v' w ∧ VR f v v' := by
  unfold aLookup at hl
  split at hl
  · rename_i kt et r hu
    split at hl
    · rename_i es own hb
      simp only [Option.bind_eq_some_iff] at hl
      obtain ⟨d, hd, hl⟩ := hl
      cases hsk : simpleKey d k with
      | false => rw [hsk] at hl; simp at hl
      | true =>
        rw [hsk] at hl
        simp only [cond_true, Option.bind_eq_some_iff] at hl
        obtain ⟨fr, hfr, hl⟩ := hl
        obtain ⟨rfl, hpk⟩ := simpleKey_pure hsk hk
        cases hm
        rename_i p hp
        obtain ⟨es', clock, hh, hmr⟩ := hs.mapAt hp hb
        obtain ⟨r', hr', hcase⟩ := findA_now hmr hfr
        have hfk : (Instr.findKey kt k' es'.toList).run P w = .ok r' w := by
          simp only [Instr.findKey, Sem.run_bind, run_underlying' hd, Result.andThen_ok, hr', Sem.run_pure]
        rcases hcase with ⟨rfl, rfl⟩ | ⟨j, u, u', rfl, rfl, hu', _⟩
        · simp only [Option.map_eq_some_iff] at hl
          obtain ⟨z, hz, rfl⟩ := hl
          obtain ⟨hz1, hz2⟩ := run_zero' (w := w) hz
          cases ok with
          | true =>
            refine ⟨.tuple ⟨[z, .bool false]⟩, ?_, .tuple _ _ (.cons (pureV_VR f hz2) (.cons (.bool _) .nil)) (by simp)⟩
            simp [Instr.lookup, run_underlying' hu, getObj_run hh, checkKey_run hd hsk, hfk, hz1]
          | false =>
            refine ⟨z, ?_, pureV_VR f hz2⟩
            simp [Instr.lookup, run_underlying' hu, getObj_run hh, checkKey_run hd hsk, hfk, hz1]
        · simp only [Option.some.injEq] at hl
          subst hl
          cases ok with
          | true =>
            refine ⟨.tuple ⟨[u', .bool true]⟩, ?_, .tuple _ _ (.cons hu' (.cons (.bool _) .nil)) (by simp)⟩
            simp [Instr.lookup, run_underlying' hu, getObj_run hh, checkKey_run hd hsk, hfk]
          | false =>
            refine ⟨u', ?_, hu'⟩
            simp [Instr.lookup, run_underlying' hu, getObj_run hh, checkKey_run hd hsk, hfk]
    · simp at hl
  · simp at hl
theorem aLenM_sim {t : TypeId} {m m' v : Value} (hs : Sim P f h w) (hl : aLenM P t h m = some v) (hm : VR f m m') (ts : Array TypeId) (ty : TypeId) : ∃ v', (Builtin.len_ ⟨t :: ts.toList⟩ ty ⟨[m']⟩).run P w = .ok v' w ∧ VR f v v' := by
  cases hm <;> simp only [aLenM, reduceCtorEq] at hl
  case map b p hp =>
    split at hl
    · rename_i kt et es own hu hb
      simp at hl; subst hl
      obtain ⟨es', clock, hh, hmr⟩ := hs.mapAt hp hb
      refine ⟨_, ?_, .int _ _⟩
      have hl := hmr.length
      simp only [Array.length_toList] at hl
      simp [Builtin.len_, run_underlying' hu, getObj_run hh, goInt, hl]
    · simp at hl

/-! bytes as a text -/
theorem bytesV_cons {c : Value} {cs : List Value} {bs : List UInt8} (h : bytesV (c :: cs) = some bs) : ∃ n l, c = .int .u8 n ∧ bytesV cs = some l ∧ bs = UInt8.ofNat n.toNat :: l := by
  unfold bytesV at h
  split at h
  · rename_i hq; simp at hq
  · rename_i n vs hq
    simp only [List.cons.injEq] at hq
    obtain ⟨rfl, rfl⟩ := hq
    simp only [Option.map_eq_some_iff] at h
    obtain ⟨l, hl, rfl⟩ := h
    exact ⟨n, l, rfl, hl, rfl⟩
  · simp at h
theorem bytesV_eq : ∀ {cs cs' : List Value} {bs : List UInt8}, bytesV cs = some bs → VRs f cs cs' → bytesV cs' = some bs
  | [], cs', bs, hb, hv => by cases hv; exact hb
  | c :: cs, cs', bs, hb, hv => by
    obtain ⟨n, l, rfl, hl, rfl⟩ := bytesV_cons hb
    cases hv with
    | cons hx ht =>
      cases hx
      simp [bytesV, bytesV_eq hl ht]
theorem bytesV_run {g : Value → ByteArray → Sem (ForInStep ByteArray)} (hg : ∀ n s, g (.int .u8 n) s = pure (ForInStep.yield (s.push (UInt8.ofNat n.toNat)))) : ∀ {cs : List Value} {bs : List UInt8} (s : ByteArray), bytesV cs = some bs →
    (forIn (m := Sem) cs s g).run P w = .ok ⟨⟨s.data.toList ++ bs⟩⟩ w
  | [], bs, s, hb => by simp [bytesV] at hb; subst hb; simp
  | c :: cs, bs, s, hb => by
    obtain ⟨n, l, rfl, hl, rfl⟩ := bytesV_cons hb
    have ih := bytesV_run hg (s.push (UInt8.ofNat n.toNat)) hl
    simp only [List.forIn_cons, hg, Sem.run_bind, Sem.run_pure, Result.andThen_ok, ih]
    simp [ByteArray.push]
theorem aBytesStr_sim {s d : TypeId} {x x' v : Value} (hs : Sim P f h w) (hl : aBytesStr P s d h x = some v) (hx : VR f x x') : ∃ v', (convert s d x').run P w = .ok v' w ∧ VR f v v' := by
  have hu8 : ∀ {u}, (sliceT P s).bind P.underlying = some u → ∃ e, P.underlying s = some (.slice e) ∧ P.underlying e = some u := fun hu => by
    simp only [Option.bind_eq_some_iff] at hu
    obtain ⟨e, he, hu⟩ := hu
    exact ⟨e, sliceT_some he, hu⟩
  cases hx <;> simp only [aBytesStr, reduceCtorEq] at hl
  case sliceNil =>
    split at hl
    · rename_i hud hue
      obtain ⟨e, he, hu⟩ := hu8 hue
      simp at hl; subst hl
      exact ⟨_, by simp [convert, run_underlying' he, run_underlying' hud, run_underlying' hu, Conv.bytesToString]; rfl, .string _⟩
    · simp at hl
  case slice b o n c p hp hn =>
    split at hl
    · rename_i e0 cs own hb hud hue
      obtain ⟨e, he, hu⟩ := hu8 hue
      split at hl
      · rename_i hlen
        simp only [Option.map_eq_some_iff] at hl
        obtain ⟨bs, hbs, rfl⟩ := hl
        obtain ⟨cs', hc, h1, hcell⟩ := hs.row hp hb
        have hlc := hc.length
        have hb' := bytesV_eq hbs ((hc.drop o).take n)
        have hrun := run_loadCells_of (P := P) (w := w) (a := ⟨p.blk, p.off + o, none⟩) (n := n) ((cs'.drop o).take n) (by rw [List.length_take, List.length_drop] at hlen ⊢; omega) (fun j v hv => by
            rw [Addr.add_none, Nat.add_assoc]
            refine hcell _ _ ?_
            rw [List.getElem?_take] at hv
            split at hv
            · rwa [List.getElem?_drop] at hv
            · simp at hv)
        refine ⟨_, ?_, .string _⟩
        simp only [convert, Sem.run_bind, run_underlying' he, run_underlying' hud, run_underlying' hu, Result.andThen_ok, Conv.bytesToString, hrun, List.forIn_toArray]
        rw [bytesV_run (fun _ _ => rfl) ByteArray.empty hb']
        rfl
      · simp at hl
    · simp at hl
  case sliceAny a' c' =>
    split at hl
    · rename_i hud hue
      obtain ⟨e, he, hu⟩ := hu8 hue
      simp at hl; subst hl
      refine ⟨_, ?_, .string _⟩
      cases a' with
      | none =>
        simp [convert, run_underlying' he, run_underlying' hud, run_underlying' hu, Conv.bytesToString]
        rfl
      | some a' =>
        have hrun := run_loadCells_of (P := P) (w := w) (a := a') (n := 0) [] rfl (fun j v hv => by simp at hv)
        simp [convert, run_underlying' he, run_underlying' hud, run_underlying' hu, Conv.bytesToString, hrun]
        rfl
    · simp at hl
  case sliceEnd a a' c' =>
    obtain ⟨b, o, sp⟩ := a
    cases sp <;> simp only [reduceCtorEq] at hl
    split at hl
    · rename_i e0 cs own hb hud hue
      obtain ⟨e, he, hu⟩ := hu8 hue
      split at hl
      · simp [bytesV] at hl
        subst hl
        refine ⟨_, ?_, .string _⟩
        have hrun := run_loadCells_of (P := P) (w := w) (a := a') (n := 0) [] rfl (fun j v hv => by simp at hv)
        simp [convert, run_underlying' he, run_underlying' hud, run_underlying' hu, Conv.bytesToString, hrun]
        rfl
      · simp at hl
    · simp at hl
theorem opL_sim {o : Oper} {tm : List Value} {a : Act} {v : Value} (hs : Sim P f h w) (hcl : cls P o.op = .L) (hl : opL P tm h o.op = some v) (ht : VRs f tm a.tmps.toList) :
    ∃ v', (execOp a.eval o).run P w = .ok (.value v') w ∧ VR f v v' := by
  have ofV : ∀ s : Sem Value, (∃ v', s.run P w = .ok v' w ∧ VR f v v') → ∃ v', (do pure (Next.value (← s)) : Sem Next).run P w = .ok (.value v') w ∧ VR f v v' := by
    rintro s ⟨v', hr, hv⟩
    exact ⟨v', by simp [hr], hv⟩
  cases hop : o.op <;> rw [hop] at hl hcl <;> simp only [opL, reduceCtorEq, cls] at hl hcl <;> simp only [execOp, hop]
  case load t x =>
    simp only [Option.bind_eq_some_iff] at hl
    obtain ⟨xv, hx, hl⟩ := hl
    obtain ⟨v', h1, h2, _⟩ := aLoad_sim hs hl (ev_sim hx ht)
    exact ofV _ ⟨v', h1, h2⟩
  case convert s d x =>
    simp only [Option.bind_eq_some_iff] at hl
    obtain ⟨xv, hx, hl⟩ := hl
    exact ofV _ (aBytesStr_sim hs hl (ev_sim hx ht))
  case lookup t m k ok =>
    simp only [Option.bind_eq_some_iff] at hl
    obtain ⟨mv, hm, kv, hk, hl⟩ := hl
    exact ofV _ (aLookup_sim hs hl (ev_sim hm ht) (ev_sim hk ht))
  case call c =>
    obtain ⟨callee, ⟨args⟩, ⟨ts⟩⟩ := c
    simp only at hl
    rcases args with _ | ⟨x, _ | ⟨y, l⟩⟩ <;> rcases ts with _ | ⟨t, ts⟩ <;> simp only [reduceCtorEq] at hl
    cases callee <;> simp only [reduceCtorEq] at hcl
    rename_i b
    cases b <;> simp only [reduceCtorEq] at hcl
    simp only [Option.bind_eq_some_iff] at hl
    obtain ⟨xv, hx, hl⟩ := hl
    obtain ⟨v', hr, hv⟩ := aLenM_sim hs hl (ev_sim hx ht) ⟨ts⟩ o.type
    exact ⟨v', by simp [resolve, invoke, builtin, hr], hv⟩
end
end Go.Am

namespace Go.Am
open Go

def upd (f : Ren) (i : Nat) (p : Place) : Ren := fun j => if j = i then some p else f j
theorem le_upd {f : Ren} {i : Nat} {p : Place} (h : f i = none) : f.le (upd f i p) := fun j q hq => by
  unfold upd
  split
  · rename_i e; subst e; rw [h] at hq; simp at hq
  · exact hq
theorem upd_same (f : Ren) (i : Nat) (p : Place) : upd f i p i = some p := by simp [upd]
theorem upd_other {f : Ren} {i j : Nat} {p : Place} (h : j ≠ i) : upd f i p j = f j := by simp [upd, h]

section
variable {P : Program} {f : Ren} {w : World} {h : Heap}

/-- A block more. -/
structure Made (P : Program) (f : Ren) (w : World) (blk : Blk) (mk : Nat → Value) (v' : Value) (w' : World) : Prop where
  heap : ∃ o, w'.heap = w.heap.push o
  os : w'.os = w.os
  tape : w'.tape = w.tape
  output : w'.output = w.output
  place : ∀ i, f i = none → ∃ p, p.blk = w.heap.size ∧ VR (upd f i p) (mk i) v' ∧ BlkR P (upd f i p) w' i blk
  own : blk.own = true

theorem Made.row {e : TypeId} {cs cs' : List Value} {fz : Nat × Nat} {mk : Nat → Value} {v' : Value} {w' : World} (spare : Nat) (hh : w'.heap = w.heap.push (.cells ⟨cs'⟩ e fz)) (ho : w'.os = w.os) (ht : w'.tape = w.tape) (hp : w'.output = w.output)
    (hc : ∀ (j : Nat) (v : Value), cs[j]? = some v → ∃ v', cs'[j]? = some v' ∧ VR f v v' ∧ v'.oneCell' = true) (hf : Unfrozen cs'.length fz) (hs : cs.length + spare * P.cellsOf e ≤ cs'.length)
    (hv : ∀ i (f' : Ren), f' i = some ⟨w.heap.size, 0, spare⟩ → VR f' (mk i) v') : Made P f w (newBlk e cs) mk v' w' where
  heap := ⟨_, hh⟩
  os := ho
  tape := ht
  output := hp
  place := fun i hi => ⟨⟨w.heap.size, 0, spare⟩, rfl, hv i _ (upd_same _ _ _), ⟨_, ⟨cs'⟩, e, fz, upd_same _ _ _, by rw [hh]; simp, fun j v hj => by
    obtain ⟨v', h1, h2, h3⟩ := hc j v hj
    exact ⟨v', by simpa using h1, h2.mono (le_upd hi), h3⟩, fun _ => ⟨rfl, hf, by simpa using hs⟩⟩⟩
  own := rfl
theorem unfrozen0 (n : Nat) : Unfrozen n (0, 0) := fun j _ h => by omega
theorem VRs.cellsR {cs cs' : List Value} (hv : VRs f cs cs') (h1 : ∀ y ∈ cs', y.oneCell' = true) : ∀ (j : Nat) (v : Value), cs[j]? = some v → ∃ v', cs'[j]? = some v' ∧ VR f v v' ∧ v'.oneCell' = true := fun j v hj => by
  obtain ⟨y, hy, hv⟩ := hv.get j v hj
  exact ⟨y, hy, hv, h1 y (List.mem_of_getElem? hy)⟩

theorem newVar_made {t : TypeId} {v v' : Value} {cs : List Value} (hv : VR f v v') (hc : cellsOfV v = some cs) : ∃ v2 w', (do pure (Value.pointer (some (← newVar t v'))) : Sem Value).run P w = .ok v2 w' ∧ Made P f w (newBlk t cs) ptrTo v2 w' := by
  obtain ⟨cs', e, hvs, h1⟩ := hv.cells hc
  refine ⟨.pointer (some ⟨w.heap.size, 0, none⟩), w.alloc (.cells ⟨cs'⟩ t), ?_, ?_⟩
  · simp [newVar, newRow, e]
  · exact .row 0 rfl rfl rfl rfl (hvs.cellsR h1) (unfrozen0 _) (by simp [hvs.length]) (fun i f' hf => by
      have := VR.ptr i 0 _ hf
      simpa [ptrTo] using this)

theorem repL_length (n : Nat) (l : List Value) : (repL n l).length = n * l.length := by
  induction n with
  | zero => simp [repL]
  | succ n ih =>
    have e : repL (n + 1) l = l ++ repL n l := by simp [repL, List.replicate_succ]
    rw [e, List.length_append, ih, Nat.succ_mul, Nat.add_comm]
theorem repL_get (l : List Value) : ∀ (n i : Nat), i < n * l.length → (repL n l)[i]? = l[i % l.length]?
  | 0, i, h => by simp at h
  | n + 1, i, h => by
    have e : repL (n + 1) l = l ++ repL n l := by simp [repL, List.replicate_succ]
    rw [e]
    rcases Nat.lt_or_ge i l.length with hi | hi
    · rw [List.getElem?_append_left hi, Nat.mod_eq_of_lt hi]
    · rw [List.getElem?_append_right hi, repL_get l n (i - l.length) (by rw [Nat.succ_mul] at h; omega)]
      congr 1
      rw [Nat.mod_eq_sub_mod hi]
theorem range_rep {zs : List Value} {n : Nat} (hz : 0 < zs.length) : (Array.range (n * zs.length)).map (fun i => (⟨zs⟩ : Array Value)[i % (⟨zs⟩ : Array Value).size]!) = ⟨repL n zs⟩ := by
  apply Array.ext'
  apply List.ext_getElem?
  intro i
  simp only [Array.toList_map, Array.toList_range, List.getElem?_map]
  rcases Nat.lt_or_ge i (n * zs.length) with hi | hi
  · rw [List.getElem?_range hi, repL_get zs n i hi]
    have hm := Nat.mod_lt i hz
    simp only [Option.map_some, List.size_toArray]
    rw [List.getElem?_eq_getElem hm]
    simp [hm]
  · rw [List.getElem?_eq_none (by simpa using hi), List.getElem?_eq_none (by rw [repL_length]; exact hi)]
    rfl
theorem VRs.repL {zs zs' : List Value} (hv : VRs f zs zs') : ∀ n, VRs f (repL n zs) (repL n zs')
  | 0 => by simp [Am.repL]; exact .nil
  | n + 1 => by
    have e : ∀ l : List Value, Am.repL (n + 1) l = l ++ Am.repL n l := fun l => by simp [Am.repL, List.replicate_succ]
    rw [e, e]; exact hv.append (VRs.repL hv n)
theorem mem_repL {zs : List Value} {n : Nat} {y : Value} (h : y ∈ repL n zs) : y ∈ zs := by
  simp only [repL, List.mem_flatten] at h
  obtain ⟨l, hl, hy⟩ := h
  rw [(List.mem_replicate.1 hl).2] at hy
  exact hy

theorem mkLit_sim {t : TypeId} {n : Nat} {ps ps' : List (Nat × Value)} {r : Blk × (Nat → Value)} (hk : mkLit P t n ps = some r) (hp : VRp f ps ps') :
    ∃ v2 w', (Instr.buildSlice t n ⟨ps'⟩).run P w = .ok v2 w' ∧ Made P f w r.1 r.2 v2 w' := by
  simp only [mkLit, Option.bind_eq_some_iff] at hk
  obtain ⟨e, he, sz, hsz, z, hz, zs, hzs, hk⟩ := hk
  split at hk
  · rename_i hc
    obtain ⟨hc1, hc2, hc3⟩ := hc
    simp only [Option.map_eq_some_iff] at hk
    obtain ⟨l, hl, rfl⟩ := hk
    obtain ⟨z1, z2, z3, z4⟩ := zero_cells (f := f) (w := w) hz hzs
    obtain ⟨out, ho, hv, h1⟩ := fill_sim (f := f) (place' := fun i => some (i * sz, sz)) (fun i p hi => hi) hp (z3.repL n) (fun y hy => z4 y (mem_repL hy)) hl
    refine ⟨.slice (some ⟨w.heap.size, 0, none⟩) n n, w.alloc (.cells ⟨out⟩ e), ?_, ?_⟩
    · subst hc1
      unfold Instr.buildSlice
      simp only [Sem.run_bind, run_underlying' (sliceT_some he), Result.andThen_ok, run_sizeOf' hsz, Sem.run_ite, Sem.run_pure]
      rw [if_neg (by omega)]
      by_cases hn : n * zs.length = 0
      · have hn0 : n = 0 := by
          rcases Nat.mul_eq_zero.1 hn with h | h
          · exact h
          · omega
        subst hn0
        have e1 : (Array.range (0 * zs.length)).map (fun i => (#[] : Array Value)[i % (#[] : Array Value).size]!) = ⟨repL 0 zs⟩ := by
          simp [repL]
        simp only [Result.andThen_ok, if_true, Nat.zero_mul, Sem.run_pure] at e1 ⊢
        rw [e1, ho]
        simp [newRow]
      · rw [if_neg hn]
        simp only [Sem.run_bind, z1, Result.andThen_ok, Sem.run_pure, z2, range_rep hc2, ho]
        simp [newRow]
    · refine .row 0 rfl rfl rfl rfl (hv.cellsR h1) (unfrozen0 _) (by simp [hv.length]) (fun i f' hf => ?_)
      have hr : realCap n 0 = n := by
        unfold realCap
        rw [if_neg]
        unfold capFlag
        have : n ≤ n * sz := Nat.le_mul_of_pos_right n hc2
        omega
      have := VR.slice i 0 n n _ hf (by rw [hr]; exact Nat.le_refl _)
      simp only [hr] at this
      simpa [sliceTo] using this
  · simp at hk

theorem wrap64_id {x : Int} (h0 : 0 ≤ x) (h1 : x < 4611686018427387904) : IntKind.i64.wrap x = x := by
  unfold IntKind.wrap
  simp [IntKind.bits, IntKind.signed]
  omega
theorem mkMake_sim {t : TypeId} {l l' c c' : Value} {r : Blk × (Nat → Value)} (hk : mkMake P t l c = some r) (hl : VR f l l') (hc : VR f c c') :
    ∃ v2 w', (Instr.makeSlice t l' c').run P w = .ok v2 w' ∧ Made P f w r.1 r.2 v2 w' := by
  unfold mkMake at hk
  split at hk
  · rename_i li ci
    cases hl; cases hc
    simp only [Option.bind_eq_some_iff] at hk
    obtain ⟨e, he, i, hi, z, hz, zs, hzs, hk⟩ := hk
    split at hk
    · rename_i hcnd
      obtain ⟨c1, c2, c3, c4, c5, c6⟩ := hcnd
      simp at hk; subst hk
      obtain ⟨z1, z2, z3, z4⟩ := zero_cells (f := f) (w := w) hz hzs
      have hsz : sizeT P e = some i.size := by simp [sizeT, hi]
      refine ⟨.slice (some ⟨w.heap.size, 0, none⟩) li.toNat ci.toNat, w.alloc (.cells ⟨repL ci.toNat zs⟩ e), ?_, ?_⟩
      · unfold Instr.makeSlice
        simp only [Sem.run_bind, run_underlying' (sliceT_some he), Result.andThen_ok, asInt, asIntOf, Sem.run_pure, run_typeInfo' hi, wrap64_id c3 (show li < 4611686018427387904 by omega), wrap64_id (show 0 ≤ ci by omega) c6]
        have q1 : (decide (ci < 0) || decide ((i.bytes : Int) * ci > 2 ^ 48) || decide (li < 0) || decide (li > ci)) = false := by
          simp; omega
        simp only [Bool.or_assoc] at q1 ⊢
        rw [if_neg (by simpa using q1)]
        simp only [Sem.run_bind, Sem.run_pure, Result.andThen_ok, run_askRoom, run_sizeOf' hsz, Sem.run_ite]
        rw [← c1]
        by_cases hn : ci.toNat * zs.length = 0
        · have hn0 : ci.toNat = 0 := by
            rcases Nat.mul_eq_zero.1 hn with h | h
            · exact h
            · omega
          rw [hn0]
          have e1 : (Array.range (0 * zs.length)).map (fun i => (#[] : Array Value)[i % (#[] : Array Value).size]!) = ⟨repL 0 zs⟩ := by
            simp [repL]
          simp only [Result.andThen_ok, if_true, Nat.zero_mul, Sem.run_pure] at e1 ⊢
          rw [e1]
          simp [newRow]
        · rw [if_neg hn]
          simp only [Sem.run_bind, z1, Result.andThen_ok, Sem.run_pure, z2, range_rep (show 0 < zs.length by omega)]
          simp [newRow]
      · have hrep : VRs f (repL ci.toNat zs) (repL ci.toNat zs) := z3.repL _
        refine .row 0 rfl rfl rfl rfl (hrep.cellsR (fun y hy => z4 y (mem_repL hy))) (unfrozen0 _) (by simp) (fun i f' hf => ?_)
        have hr : realCap ci.toNat 0 = ci.toNat := by
          unfold realCap
          rw [if_neg]
          unfold capFlag
          omega
        have := VR.slice i 0 li.toNat ci.toNat _ hf (by rw [hr]; omega)
        simp only [hr] at this
        simpa [sliceTo] using this
    · simp at hk
  · simp at hk

theorem mkBytes_sim {s d : TypeId} {x x' : Value} {r : Blk × (Nat → Value)} (hk : mkBytes P s d x = some r) (hx : VR f x x') :
    ∃ v2 w', (convert s d x').run P w = .ok v2 w' ∧ Made P f w r.1 r.2 v2 w' := by
  unfold mkBytes at hk
  split at hk
  · rename_i b
    cases hx
    split at hk
    · rename_i e hus hud
      split at hk
      · rename_i hue
        split at hk
        · rename_i hc
          obtain ⟨hc1, hc2⟩ := hc
          simp at hk; subst hk
          have hud' := sliceT_some hud
          generalize hcap : Question.cut (.appendCap b.size 0 e) (w.tape w.drawn (.appendCap b.size 0 e)) = cap
          have hge : b.size ≤ cap := by rw [← hcap]; simp [Question.cut]
          let cs' : List Value := b.data.toList.map (fun b => Value.int .u8 b.toNat) ++ List.replicate (cap - b.size) (.int .u8 0)
          have hl : cs'.length = cap := by simp [cs']; show b.data.size + _ = _; have : b.data.size = b.size := rfl; omega
          refine ⟨.slice (some ⟨w.heap.size, 0, none⟩) b.size cap, { w with drawn := w.drawn + 1, heap := w.heap.push (.cells ⟨cs'⟩ e (cap, cap + 1)) }, ?_, ?_⟩
          · have e1 : (b.data.map fun b => Value.int .u8 b.toNat) ++ Array.replicate (cap - b.size) (Value.int .u8 0) = ⟨cs'⟩ := by
              apply Array.ext'; simp [cs']
            simp only [convert, Sem.run_bind, run_underlying' hus, run_underlying' hud', run_underlying' hue, Result.andThen_ok, Conv.stringToBytes, run_choose, Question.forced, Bool.false_eq_true, if_false, hcap, Sem.run_pure]
            rw [e1]
            have hsh : (w.drew.alloc (.cells ⟨cs'⟩ e)).shape? w.heap.size = some (e, cap) := by
              have : (w.drew.alloc (.cells ⟨cs'⟩ e)).heap[w.heap.size]? = some (.cells ⟨cs'⟩ e (0, 0)) := by
                show (w.heap.push _)[w.heap.size]? = _
                simp
              unfold World.shape?
              rw [this]
              simp [hl]
            have hfz : (w.drew.alloc (.cells ⟨cs'⟩ e)).freeze ⟨w.heap.size, cap, none⟩ 1 = { w with drawn := w.drawn + 1, heap := w.heap.push (.cells ⟨cs'⟩ e (cap, cap + 1)) } := by
              unfold World.freeze
              simp only [Nat.one_ne_zero, if_false]
              show World.mk ((w.heap.push _).modify w.heap.size _) _ _ _ _ = World.mk _ _ _ _ _
              congr 1
              apply Array.ext_getElem?
              intro i
              rw [Array.getElem?_modify, Array.getElem?_push, Array.getElem?_push]
              by_cases hi : i = w.heap.size
              · subst hi; simp
              · rw [if_neg (fun e => hi e.symm), if_neg hi, if_neg hi]
            simp only [newRow, Sem.run_bind, run_newObj, Result.andThen_ok, Sem.run_pure, World.alloc_eq, World.drew_eq, World.size_drew, markStringish, run_shape, hsh, run_freeze, hfz]
          · refine .row (cap - b.size) rfl rfl rfl rfl ?_ ?_ ?_ ?_
            · intro j v hj
              refine ⟨v, ?_, ?_, ?_⟩
              · simp only [cs']
                rw [List.getElem?_append_left (List.getElem?_eq_some_iff.1 hj).1]
                exact hj
              · rw [List.getElem?_map] at hj
                simp only [Option.map_eq_some_iff] at hj
                obtain ⟨u, _, rfl⟩ := hj
                exact .int _ _
              · rw [List.getElem?_map] at hj
                simp only [Option.map_eq_some_iff] at hj
                obtain ⟨u, _, rfl⟩ := hj
                rfl
            · intro j hj hh
              rw [hl] at hj
              simp at hh
              omega
            · rw [hl, hc1]; simp; show b.data.size + _ ≤ _; have : b.data.size = b.size := rfl; omega
            · intro i f' hf
              have := VR.slice i 0 b.size (capFlag + b.size) _ hf (by unfold realCap; rw [if_pos (by omega)]; omega)
              simp only [sliceTo]
              have hr : realCap (capFlag + b.size) (cap - b.size) = cap := by unfold realCap; rw [if_pos (by omega)]; omega
              simp only [hr] at this
              simpa using this
        · simp at hk
      · simp at hk
    · simp at hk
  · simp at hk
theorem opA_sim {o : Oper} {tm : List Value} {a : Act} {r : Blk × (Nat → Value)} (hcl : cls P o.op = .A) (hk : opA P tm o.op = some r) (ht : VRs f tm a.tmps.toList) :
    ∃ v' w', (execOp a.eval o).run P w = .ok (.value v') w' ∧ Made P f w r.1 r.2 v' w' := by
  have ofV : ∀ s : Sem Value, (∃ v' w', s.run P w = .ok v' w' ∧ Made P f w r.1 r.2 v' w') → ∃ v' w', (do pure (Next.value (← s)) : Sem Next).run P w = .ok (.value v') w' ∧ Made P f w r.1 r.2 v' w' := by
    rintro s ⟨v', w', hr, hv⟩
    exact ⟨v', w', by simp [hr], hv⟩
  cases hop : o.op <;> rw [hop] at hk hcl <;> simp only [opA, reduceCtorEq, cls] at hk hcl <;> simp only [execOp, hop]
  case alloc t =>
    simp only [mkAlloc, Option.bind_eq_some_iff, Option.map_eq_some_iff] at hk
    obtain ⟨z, hz, cs, hcs, rfl⟩ := hk
    obtain ⟨z1, z2⟩ := run_zero' (w := w) hz
    obtain ⟨v2, w', h1, h2⟩ := newVar_made (P := P) (w := w) (t := t) (pureV_VR f z2) hcs
    refine ofV _ ⟨v2, w', ?_, h2⟩
    simp only [Instr.alloc, Sem.run_bind, z1, Result.andThen_ok]
    simpa using h1
  case box t x =>
    simp only [Option.bind_eq_some_iff] at hk
    obtain ⟨xv, hx, hk⟩ := hk
    simp only [mkBox, Option.map_eq_some_iff] at hk
    obtain ⟨cs, hcs, rfl⟩ := hk
    exact ofV _ (newVar_made (ev_sim hx ht) hcs)
  case buildSlice t n parts =>
    simp only [Option.bind_eq_some_iff] at hk
    obtain ⟨ps, hps, hk⟩ := hk
    refine ofV _ ?_
    have e : (parts.map fun (x : Nat × Operand) => match x with | (i, x) => (i, a.eval x)) = ⟨parts.toList.map fun p => (p.1, a.eval p.2)⟩ := by
      apply Array.ext'
      simp
    rw [e]
    exact mkLit_sim hk (evp_sim ht hps)
  case convert s d x =>
    simp only [Option.bind_eq_some_iff] at hk
    obtain ⟨xv, hx, hk⟩ := hk
    exact ofV _ (mkBytes_sim hk (ev_sim hx ht))
  case makeMap t rsv =>
    cases rsv with
    | some y => simp [opA] at hk
    | none =>
      simp only [opA, mkMap, Option.some.injEq] at hk
      subst hk
      refine ofV _ ⟨.map (some w.heap.size), w.alloc (.map #[] 0), by simp [Instr.makeMap], ⟨⟨_, rfl⟩, rfl, rfl, rfl, fun i hi => ?_, rfl⟩⟩
      refine ⟨⟨w.heap.size, 0, 0⟩, rfl, .map _ _ (upd_same _ _ _), ⟨_, #[], 0, upd_same _ _ _, ?_, ?_⟩⟩
      · show (w.heap.push _)[w.heap.size]? = _
        simp
      · exact trivial
  case makeSlice t l c =>
    simp only [Option.bind_eq_some_iff] at hk
    obtain ⟨lv, hl, cv, hc, hk⟩ := hk
    exact ofV _ (mkMake_sim hk (ev_sim hl ht) (ev_sim hc ht))
end
end Go.Am

namespace Go.Am
open Go
section
variable {P : Program} {f : Ren} {w w0 : World} {h : Heap} {prot : Nat → Prop}

theorem BlkR.mono {f' : Ren} {w' : World} {i : Nat} {b : Blk} (hb : BlkR P f w i b) (hf : f.le f') (hw : ∀ p o, f i = some p → w.heap[p.blk]? = some o → w'.heap[p.blk]? = some o) : BlkR P f' w' i b := by
  unfold BlkR at *
  split at hb
  · trivial
  · obtain ⟨p, cc, e', fz, h1, h2, h3, h4⟩ := hb
    exact ⟨p, cc, e', fz, hf _ _ h1, hw p _ h1 h2, fun j v hj => by
      obtain ⟨v', a, b, c⟩ := h3 j v hj
      exact ⟨v', a, b.mono hf, c⟩, h4⟩
  · obtain ⟨p, es', clock, h1, h2, h3⟩ := hb
    exact ⟨p, es', clock, hf _ _ h1, hw p _ h1 h2, h3.mono hf⟩
theorem BlkR.place {i : Nat} {b : Blk} (hb : BlkR P f w i b) (hl : b.live = true) : ∃ p o, f i = some p ∧ w.heap[p.blk]? = some o := by
  unfold BlkR at hb
  unfold Blk.live at hl
  split at hb
  · simp_all
  · obtain ⟨p, cc, e', fz, h1, h2, h3, h4⟩ := hb; exact ⟨p, _, h1, h2⟩
  · obtain ⟨p, es', clock, h1, h2, h3⟩ := hb; exact ⟨p, _, h1, h2⟩
theorem lt_of_some {w : World} {b : Nat} {o : Obj} (h : w.heap[b]? = some o) : b < w.heap.size := (Array.getElem?_eq_some_iff.1 h).1

/-- A block more, at its place: behind all others, or where one was laid out for it. -/
theorem Inv.newAt {blk : Blk} {mk : Nat → Value} {v' : Value} {w' : World} {i : Nat} {h' : Heap} (hinv : Inv P w0 prot f h w) (hi : f i = none) (hm : Made P f w blk mk v' w')
    (hb : (i = h.length ∧ h' = h ++ [blk]) ∨ (i < h.length ∧ h' = h.set i blk)) :
    ∃ f', f.le f' ∧ (∀ j, j ≠ i → f' j = f j) ∧ VR f' (mk i) v' ∧ Inv P w0 prot f' h' w' := by
  obtain ⟨p, hp, hv, hr⟩ := hm.place i hi
  obtain ⟨o, hpush⟩ := hm.heap
  have hget : ∀ j b, h'[j]? = some b → (j = i ∧ b = blk) ∨ (j ≠ i ∧ h[j]? = some b) := by
    intro j b hj
    rcases hb with ⟨rfl, rfl⟩ | ⟨hlt, rfl⟩
    · rcases Nat.lt_trichotomy j h.length with hlt | rfl | hgt
      · rw [List.getElem?_append_left hlt] at hj
        exact .inr ⟨by omega, hj⟩
      · simp at hj; exact .inl ⟨rfl, hj.symm⟩
      · rw [List.getElem?_append_right (by omega)] at hj
        rw [List.getElem?_eq_none (by simp; omega)] at hj
        simp at hj
    · by_cases hji : j = i
      · subst hji
        rw [List.getElem?_set_self hlt] at hj
        simp at hj; exact .inl ⟨rfl, hj.symm⟩
      · rw [List.getElem?_set_ne (fun e => hji e.symm)] at hj
        exact .inr ⟨hji, hj⟩
  have hold : ∀ k q, w.heap[k]? = some q → w'.heap[k]? = some q := fun k q hk => by
    rw [hpush, Array.getElem?_push, if_neg (by have := lt_of_some hk; omega)]; exact hk
  have hlen : i < h'.length ∧ ∀ j, j < h.length → j < h'.length := by
    rcases hb with ⟨rfl, rfl⟩ | ⟨hlt, rfl⟩
    · exact ⟨by simp, fun j hj => by simp; omega⟩
    · exact ⟨by simpa using hlt, fun j hj => by simpa using hj⟩
  have hle := le_upd (p := p) hi
  refine ⟨upd f i p, hle, fun j hj => upd_other hj, hv, ⟨⟨?_, ?_, ?_⟩, ⟨?_, ?_, ?_, ?_, ?_, ?_⟩⟩⟩
  · intro j q hj
    by_cases hji : j = i
    · subst hji; exact hlen.1
    · rw [upd_other hji] at hj
      exact hlen.2 j (hinv.sim.dom j q hj)
  · intro j b hj
    rcases hget j b hj with ⟨rfl, rfl⟩ | ⟨hji, hj⟩
    · exact hr
    · exact (hinv.sim.blk j b hj).mono hle fun q o _ ho => hold _ _ ho
  · intro j k bj bk pj pk hjk hj hk lj lk oj fj fk
    rcases hget j bj hj with ⟨rfl, rfl⟩ | ⟨hji, hj2⟩ <;> rcases hget k bk hk with ⟨rfl, rfl⟩ | ⟨hki, hk2⟩
    · exact absurd rfl hjk
    · rw [upd_same] at fj
      rw [upd_other hki] at fk
      simp at fj; subst fj
      obtain ⟨q, o', hq, ho⟩ := (hinv.sim.blk k bk hk2).place lk
      rw [fk] at hq; simp at hq; subst hq
      have := lt_of_some ho
      omega
    · rw [upd_same] at fk
      rw [upd_other hji] at fj
      simp at fk; subst fk
      obtain ⟨q, o', hq, ho⟩ := (hinv.sim.blk j bj hj2).place lj
      rw [fj] at hq; simp at hq; subst hq
      have := lt_of_some ho
      omega
    · rw [upd_other hji] at fj
      rw [upd_other hki] at fk
      exact hinv.sim.inj j k bj bk pj pk hjk hj2 hk2 lj lk oj fj fk
  · exact hm.os.trans hinv.fr.os
  · exact hm.tape.trans hinv.fr.tape
  · exact hm.output.trans hinv.fr.output
  · rw [hpush]; simp; have := hinv.fr.size; omega
  · intro b hb'
    obtain ⟨h1, h2⟩ := hinv.fr.keep b hb'
    refine ⟨h1, ?_⟩
    rw [hpush, Array.getElem?_push, if_neg (by have := hinv.fr.size; omega)]
    exact h2
  · intro j b q hj ho hq hpr
    rcases hget j b hj with ⟨rfl, rfl⟩ | ⟨hji, hj⟩
    · rw [upd_same] at hq
      simp at hq; subst hq
      have := (hinv.fr.keep _ hpr).1
      have := hinv.fr.size
      omega
    · rw [upd_other hji] at hq
      exact hinv.fr.owns j b q hj ho hq hpr

theorem Inv.reserve (hinv : Inv P w0 prot f h w) (n : Nat) : Inv P w0 prot f (h ++ List.replicate n deadBlk) w := by
  have hget : ∀ j b, (h ++ List.replicate n deadBlk)[j]? = some b → h[j]? = some b ∨ (h.length ≤ j ∧ b = deadBlk) := by
    intro j b hj
    rcases Nat.lt_or_ge j h.length with hlt | hge
    · rw [List.getElem?_append_left hlt] at hj; exact .inl hj
    · rw [List.getElem?_append_right hge, List.getElem?_replicate] at hj
      split at hj
      · simp at hj; exact .inr ⟨hge, hj.symm⟩
      · simp at hj
  refine ⟨⟨fun i p hi => by have := hinv.sim.dom i p hi; simp; omega, ?_, ?_⟩, ⟨hinv.fr.os, hinv.fr.tape, hinv.fr.output, hinv.fr.size, hinv.fr.keep, ?_⟩⟩
  · intro j b hj
    rcases hget j b hj with hj | ⟨_, rfl⟩
    · exact hinv.sim.blk j b hj
    · trivial
  · intro j k bj bk pj pk hjk hj hk lj lk oj fj fk
    rcases hget j bj hj with hj | ⟨_, rfl⟩
    · rcases hget k bk hk with hk | ⟨_, rfl⟩
      · exact hinv.sim.inj j k bj bk pj pk hjk hj hk lj lk oj fj fk
      · simp [deadBlk, Blk.live] at lk
    · simp [deadBlk, Blk.live] at lj
  · intro j b q hj ho hq
    rcases hget j b hj with hj | ⟨hge, rfl⟩
    · exact hinv.fr.owns j b q hj ho hq
    · have := hinv.sim.dom j q hq; omega

/-- The model's memory, one block written. -/
structure Wrote (w : World) (g : Nat) (o : Obj) (w' : World) : Prop where
  at_ : w'.heap[g]? = some o
  other : ∀ k, k ≠ g → w'.heap[k]? = w.heap[k]?
  size : w'.heap.size = w.heap.size
  os : w'.os = w.os
  tape : w'.tape = w.tape
  output : w'.output = w.output
theorem Wrote.trans {g : Nat} {o o' : Obj} {w1 w2 : World} (h1 : Wrote w g o w1) (h2 : Wrote w1 g o' w2) : Wrote w g o' w2 :=
  ⟨h2.at_, fun k hk => (h2.other k hk).trans (h1.other k hk), h2.size.trans h1.size, h2.os.trans h1.os, h2.tape.trans h1.tape, h2.output.trans h1.output⟩
theorem Wrote.none {g : Nat} {o : Obj} (hg : w.heap[g]? = some o) : Wrote w g o w := ⟨hg, fun _ _ => rfl, rfl, rfl, rfl, rfl⟩

/-- One of the call's own blocks, written; perhaps it bears another number now. -/
theorem Inv.replace {b : Nat} {b0 b1 : Blk} {p : Place} {o : Obj} {w' : World} (hinv : Inv P w0 prot f h w) (hb : h[b]? = some b0) (hl : b0.live = true) (ho : b0.own = true) (hp : f b = some p)
    (hw : Wrote w p.blk o w') (ho1 : b1.own = true) (hr : BlkR P f w' b b1) : Inv P w0 prot f (h.set b b1) w' := by
  have hblt : b < h.length := (List.getElem?_eq_some_iff.1 hb).1
  have hget : ∀ j c, (h.set b b1)[j]? = some c → (j = b ∧ c = b1) ∨ (j ≠ b ∧ h[j]? = some c) := by
    intro j c hj
    by_cases hjb : j = b
    · subst hjb
      rw [List.getElem?_set_self hblt] at hj
      simp at hj; exact .inl ⟨rfl, hj.symm⟩
    · rw [List.getElem?_set_ne (fun e => hjb e.symm)] at hj
      exact .inr ⟨hjb, hj⟩
  have hne : ∀ j c q, j ≠ b → h[j]? = some c → c.live = true → f j = some q → q.blk ≠ p.blk := fun j c q hj hc lc hq e =>
    hinv.sim.inj b j b0 c p q (fun e => hj e.symm) hb hc hl lc ho hp hq e.symm
  refine ⟨⟨fun i q hi => by simpa using hinv.sim.dom i q hi, ?_, ?_⟩, ⟨hw.os.trans hinv.fr.os, hw.tape.trans hinv.fr.tape, hw.output.trans hinv.fr.output, by rw [hw.size]; exact hinv.fr.size, ?_, ?_⟩⟩
  · intro j c hj
    rcases hget j c hj with ⟨rfl, rfl⟩ | ⟨hjb, hj⟩
    · exact hr
    · cases hlc : c.live with
      | false =>
        unfold BlkR
        unfold Blk.live at hlc
        split <;> simp_all
      | true => exact (hinv.sim.blk j c hj).mono (Ren.le_refl _) fun q o' hq ho' => by rw [hw.other _ (hne j c q hjb hj hlc hq)]; exact ho'
  · intro j k bj bk pj pk hjk hj hk lj lk oj fj fk
    rcases hget j bj hj with ⟨rfl, rfl⟩ | ⟨hji, hj2⟩ <;> rcases hget k bk hk with ⟨rfl, rfl⟩ | ⟨hki, hk2⟩
    · exact absurd rfl hjk
    · rw [hp] at fj; simp at fj; subst fj
      exact fun e => hne k bk pk hki hk2 lk fk e.symm
    · rw [hp] at fk; simp at fk; subst fk
      exact hne j bj pj hji hj2 lj fj
    · exact hinv.sim.inj j k bj bk pj pk hjk hj2 hk2 lj lk oj fj fk
  · intro c hc
    obtain ⟨h1, h2⟩ := hinv.fr.keep c hc
    refine ⟨h1, ?_⟩
    rw [hw.other c ?_]
    · exact h2
    · rintro rfl
      exact hinv.fr.owns b b0 p hb ho hp hc
  · intro j c q hj hoc hq
    rcases hget j c hj with ⟨rfl, rfl⟩ | ⟨hji, hj⟩
    · rw [hp] at hq; simp at hq; subst hq
      exact hinv.fr.owns _ b0 p hb ho hp
    · exact hinv.fr.owns j c q hj hoc hq
/-- A block that is not asked for any more; where it lay, another one may lie. -/
theorem Inv.moved {b : Nat} {b0 blk : Blk} {p q : Place} {o : Obj} {w' : World} (hinv : Inv P w0 prot f h w) (hb : h[b]? = some b0) (hl : b0.live = true) (ho : b0.own = true) (hp : f b = some p)
    (hw : Wrote w p.blk o w') (hq : q.blk = p.blk) (ho1 : blk.own = true) (hr : BlkR P (upd f h.length q) w' h.length blk) : Inv P w0 prot (upd f h.length q) (h.set b ⟨.dead, true⟩ ++ [blk]) w' := by
  have h1 := hinv.replace (b1 := ⟨.dead, true⟩) hb hl ho hp hw rfl trivial
  have hfn : f h.length = none := by
    cases hf : f h.length with
    | none => rfl
    | some r => have := hinv.sim.dom _ _ hf; omega
  have hblt : b < h.length := (List.getElem?_eq_some_iff.1 hb).1
  have hlen : (h.set b ⟨.dead, true⟩).length = h.length := by simp
  have hget : ∀ j c, (h.set b (⟨.dead, true⟩ : Blk) ++ [blk])[j]? = some c → (j = h.length ∧ c = blk) ∨ (j ≠ h.length ∧ (h.set b (⟨.dead, true⟩ : Blk))[j]? = some c) := by
    intro j c hj
    rcases Nat.lt_trichotomy j h.length with hlt | rfl | hgt
    · rw [List.getElem?_append_left (by rw [hlen]; exact hlt)] at hj
      exact .inr ⟨by omega, hj⟩
    · rw [List.getElem?_append_right (by rw [hlen]; exact Nat.le_refl _), hlen] at hj
      simp at hj; exact .inl ⟨rfl, hj.symm⟩
    · rw [List.getElem?_eq_none (by simp; omega)] at hj
      simp at hj
  have hle := le_upd (p := q) hfn
  have hne : ∀ j c r, j ≠ h.length → (h.set b (⟨.dead, true⟩ : Blk))[j]? = some c → c.live = true → f j = some r → r.blk ≠ p.blk := by
    intro j c r hj hc lc hr'
    by_cases hjb : j = b
    · subst hjb
      rw [List.getElem?_set_self hblt] at hc
      simp at hc; subst hc; simp [Blk.live] at lc
    · rw [List.getElem?_set_ne (fun e => hjb e.symm)] at hc
      exact fun e => hinv.sim.inj b j b0 c p r (fun e => hjb e.symm) hb hc hl lc ho hp hr' e.symm
  refine ⟨⟨?_, ?_, ?_⟩, ⟨h1.fr.os, h1.fr.tape, h1.fr.output, h1.fr.size, h1.fr.keep, ?_⟩⟩
  · intro j r hj
    by_cases hjn : j = h.length
    · subst hjn; simp
    · rw [upd_other hjn] at hj
      have := hinv.sim.dom j r hj
      simp; omega
  · intro j c hj
    rcases hget j c hj with ⟨rfl, rfl⟩ | ⟨hjn, hj⟩
    · exact hr
    · exact (h1.sim.blk j c hj).mono hle fun _ _ _ ho => ho
  · intro j k bj bk pj pk hjk hj hk lj lk oj fj fk
    rcases hget j bj hj with ⟨rfl, rfl⟩ | ⟨hji, hj2⟩ <;> rcases hget k bk hk with ⟨rfl, rfl⟩ | ⟨hki, hk2⟩
    · exact absurd rfl hjk
    · rw [upd_same] at fj; simp at fj; subst fj
      rw [upd_other hki] at fk
      rw [hq]
      exact fun e => hne k bk pk hki hk2 lk fk e.symm
    · rw [upd_same] at fk; simp at fk; subst fk
      rw [upd_other hji] at fj
      rw [hq]
      exact hne j bj pj hji hj2 lj fj
    · rw [upd_other hji] at fj
      rw [upd_other hki] at fk
      exact h1.sim.inj j k bj bk pj pk hjk hj2 hk2 lj lk oj fj fk
  · intro j c r hj hoc hr'
    rcases hget j c hj with ⟨rfl, rfl⟩ | ⟨hjn, hj⟩
    · rw [upd_same] at hr'; simp at hr'; subst hr'
      rw [hq]
      exact hinv.fr.owns b b0 p hb ho hp
    · rw [upd_other hjn] at hr'
      exact h1.fr.owns j c r hj hoc hr'
/-- A block that is not asked for any more. -/
theorem Inv.drop {b : Nat} {b0 : Blk} (hinv : Inv P w0 prot f h w) (hb : h[b]? = some b0) (ho : b0.own = true) : Inv P w0 prot f (h.set b ⟨.dead, true⟩) w := by
  have hblt : b < h.length := (List.getElem?_eq_some_iff.1 hb).1
  have hget : ∀ j c, (h.set b (⟨.dead, true⟩ : Blk))[j]? = some c → (j = b ∧ c = ⟨.dead, true⟩) ∨ (j ≠ b ∧ h[j]? = some c) := by
    intro j c hj
    by_cases hjb : j = b
    · subst hjb
      rw [List.getElem?_set_self hblt] at hj
      simp at hj; exact .inl ⟨rfl, hj.symm⟩
    · rw [List.getElem?_set_ne (fun e => hjb e.symm)] at hj
      exact .inr ⟨hjb, hj⟩
  refine ⟨⟨fun i q hi => by simpa using hinv.sim.dom i q hi, ?_, ?_⟩, ⟨hinv.fr.os, hinv.fr.tape, hinv.fr.output, hinv.fr.size, hinv.fr.keep, ?_⟩⟩
  · intro j c hj
    rcases hget j c hj with ⟨rfl, rfl⟩ | ⟨hjb, hj⟩
    · trivial
    · exact hinv.sim.blk j c hj
  · intro j k bj bk pj pk hjk hj hk lj lk oj fj fk
    rcases hget j bj hj with ⟨rfl, rfl⟩ | ⟨hji, hj⟩
    · simp [Blk.live] at lj
    · rcases hget k bk hk with ⟨rfl, rfl⟩ | ⟨hki, hk⟩
      · simp [Blk.live] at lk
      · exact hinv.sim.inj j k bj bk pj pk hjk hj hk lj lk oj fj fk
  · intro j c q hj hoc hq
    rcases hget j c hj with ⟨rfl, rfl⟩ | ⟨hji, hj⟩
    · exact hinv.fr.owns _ b0 q hb ho hq
    · exact hinv.fr.owns j c q hj hoc hq

/-! ### stores -/
theorem frozen_at {g o : Nat} {cc : Array Value} {e : TypeId} {fz : Nat × Nat} (hb : w.heap[g]? = some (.cells cc e fz)) (hf : Unfrozen cc.size fz) (ho : o < cc.size) : w.frozen? ⟨g, o, none⟩ = false := by
  unfold World.frozen?
  rw [hb]
  have := hf o ho
  simp
  omega
theorem store_run {g o : Nat} {v : Value} {cc : Array Value} {e : TypeId} {fz : Nat × Nat} (hb : w.heap[g]? = some (.cells cc e fz)) (hf : Unfrozen cc.size fz) (ho : o < cc.size) (h1 : v.oneCell' = true) :
    ∃ w', (store ⟨g, o, none⟩ v).run P w = .ok () w' ∧ Wrote w g (.cells (cc.setIfInBounds o v) e fz) w' := by
  refine ⟨w.setCell ⟨g, o, none⟩ v, ?_, ?_⟩
  · rw [run_store P w _ v .plain h1, cell_at hb, Array.getElem?_eq_getElem ho]
    simp [frozen_at hb hf ho]
  · refine ⟨?_, ?_, by simp [World.setCell], rfl, rfl, rfl⟩
    · simp only [World.setCell, Array.getElem?_modify, if_true, hb]
      simp
    · intro k hk
      simp only [World.setCell, Array.getElem?_modify]
      rw [if_neg (fun e => hk e.symm)]
theorem splice_step (l : List Value) (k : Nat) (v : Value) (vs : List Value) (h : k + vs.length < l.length) :
    (l.set k v).take (k + 1) ++ vs ++ (l.set k v).drop (k + 1 + vs.length) = l.take k ++ v :: vs ++ l.drop (k + (vs.length + 1)) := by
  have hs : l.set k v = l.take k ++ v :: l.drop (k + 1) := by
    rw [List.set_eq_take_append_cons_drop, if_pos (by omega)]
  have hA : (l.take k).length = k := by rw [List.length_take]; omega
  have e1 : (l.set k v).take (k + 1) = l.take k ++ [v] := by
    rw [hs, List.take_append, hA, List.take_of_length_le (by omega), show k + 1 - k = 1 by omega]
    simp
  have e2 : (l.set k v).drop (k + 1 + vs.length) = l.drop (k + (vs.length + 1)) := by
    rw [hs, List.drop_append, hA, List.drop_of_length_le (by omega), show k + 1 + vs.length - k = vs.length + 1 by omega]
    simp [List.drop_drop]
    congr 1
    omega
  rw [e1, e2]
  simp
theorem storeCells_run {g o : Nat} {e : TypeId} {fz : Nat × Nat} : ∀ (vs : List Value) (i : Nat) (w : World) (cc : Array Value), w.heap[g]? = some (.cells cc e fz) → Unfrozen cc.size fz → o + i + vs.length ≤ cc.size → (∀ y ∈ vs, y.oneCell' = true) →
    ∃ w', (storeCells ⟨g, o, none⟩ vs i).run P w = .ok () w' ∧ Wrote w g (.cells ⟨cc.toList.take (o + i) ++ vs ++ cc.toList.drop (o + i + vs.length)⟩ e fz) w'
  | [], i, w, cc, hb, hf, hl, h1 => ⟨w, rfl, by simpa using Wrote.none hb⟩
  | v :: vs, i, w, cc, hb, hf, hl, h1 => by
    simp only [List.length_cons] at hl
    obtain ⟨w1, hr1, hw1⟩ := store_run (P := P) (w := w) (o := o + i) hb hf (by omega) (h1 v (by simp))
    obtain ⟨w2, hr2, hw2⟩ := storeCells_run (o := o) vs (i + 1) w1 _ hw1.at_ (by simpa using hf) (by simp; omega) (fun y hy => h1 y (by simp [hy]))
    refine ⟨w2, ?_, ?_⟩
    · simp only [storeCells, Sem.run_bind, Addr.add_none, hr1, Result.andThen_ok, hr2]
    · have e1 : (cc.setIfInBounds (o + i) v).toList = cc.toList.set (o + i) v := by simp
      rw [e1] at hw2
      have hs := splice_step cc.toList (o + i) v vs (by have := Array.length_toList (xs := cc); omega)
      rw [show o + (i + 1) = o + i + 1 by omega, hs] at hw2
      exact hw1.trans hw2
end
end Go.Am

namespace Go.Am
open Go
section
variable {P : Program} {f : Ren} {w w0 : World} {h : Heap} {prot : Nat → Prop}

theorem ba_beq (a b : ByteArray) : (a == b) = true ↔ a = b := by
  show ByteArray.beq a b = true ↔ _
  cases a; cases b
  simp [ByteArray.beq]
theorem splice_get (l xs : List Value) (o n j : Nat) (hx : xs.length = n) (h : o + n ≤ l.length) :
    (l.take o ++ xs ++ l.drop (o + n))[j]? = if j < o then l[j]? else if j < o + n then xs[j - o]? else l[j]? := by
  have hA : (l.take o).length = o := by rw [List.length_take]; omega
  rw [List.append_assoc, List.getElem?_append, hA]
  split
  · rename_i hj; rw [List.getElem?_take, if_pos hj]
  · rw [List.getElem?_append, hx]
    split
    · rename_i hj; rw [if_pos (by omega)]
    · rename_i hj; rw [if_neg (by omega), List.getElem?_drop]; congr 1; omega
/-- Cells of a block, some of them written on both sides. -/
theorem spliceR {f : Ren} {cs L xs xs' : List Value} {off o : Nat} (hc : ∀ (j : Nat) (v : Value), cs[j]? = some v → ∃ v', L[off + j]? = some v' ∧ VR f v v' ∧ v'.oneCell' = true)
    (hx : VRs f xs xs') (h1 : ∀ y ∈ xs', y.oneCell' = true) (hl : o + xs.length ≤ cs.length) (hL : off + cs.length ≤ L.length) (j : Nat) (v : Value)
    (hj : (cs.take o ++ xs ++ cs.drop (o + xs.length))[j]? = some v) :
    ∃ v', (L.take (off + o) ++ xs' ++ L.drop (off + o + xs.length))[off + j]? = some v' ∧ VR f v v' ∧ v'.oneCell' = true := by
  rw [splice_get cs xs o _ j rfl hl] at hj
  rw [splice_get L xs' (off + o) xs.length (off + j) hx.length (by omega)]
  split at hj
  · rename_i h; rw [if_pos (by omega)]; exact hc j v hj
  · rename_i h
    rw [if_neg (by omega)]
    split at hj
    · rename_i h2
      rw [if_pos (by omega)]
      obtain ⟨y, hy, hv⟩ := hx.get _ v hj
      exact ⟨y, by rw [show off + j - (off + o) = j - o by omega]; exact hy, hv, h1 y (List.mem_of_getElem? hy)⟩
    · rename_i h2; rw [if_neg (by omega)]; exact hc j v hj
theorem splice_len (l xs : List Value) (o n : Nat) (hx : xs.length = n) (h : o + n ≤ l.length) : (l.take o ++ xs ++ l.drop (o + n)).length = l.length := by
  simp only [List.length_append, List.length_take, List.length_drop]
  omega
/-- A block of one's own, with all that is known of it. -/
theorem Inv.own (hinv : Inv P w0 prot f h w) {b : Nat} {p : Place} (hp : f b = some p) {e : TypeId} {cs : List Value} (hb : h[b]? = some ⟨.cells e cs, true⟩) :
    ∃ cc fz, w.heap[p.blk]? = some (.cells cc e fz) ∧ Unfrozen cc.size fz ∧ p.off + cs.length + p.spare * P.cellsOf e ≤ cc.size ∧
      ∀ (j : Nat) (v : Value), cs[j]? = some v → ∃ v', cc.toList[p.off + j]? = some v' ∧ VR f v v' ∧ v'.oneCell' = true := by
  obtain ⟨q, cc, e', fz, hq, hh, hc, ho⟩ := hinv.sim.blk b _ hb
  rw [hp] at hq
  simp at hq; subst hq
  obtain ⟨rfl, h2, h3⟩ := ho rfl
  exact ⟨cc, fz, hh, h2, h3, fun j v hj => by
    obtain ⟨v', a, b⟩ := hc j v hj
    exact ⟨v', by rw [Array.getElem?_toList]; exact a, b⟩⟩
/-- Cells written in a block of one's own. -/
theorem Inv.splice (hinv : Inv P w0 prot f h w) {b : Nat} {p : Place} (hp : f b = some p) {e : TypeId} {cs xs xs' : List Value} {o : Nat} (hb : h[b]? = some ⟨.cells e cs, true⟩)
    (hx : VRs f xs xs') (h1 : ∀ y ∈ xs', y.oneCell' = true) (hl : o + xs.length ≤ cs.length) :
    ∃ w', (storeCells ⟨p.blk, p.off + o, none⟩ xs').run P w = .ok () w' ∧ Inv P w0 prot f (h.set b ⟨.cells e (cs.take o ++ xs ++ cs.drop (o + xs.length)), true⟩) w' := by
  obtain ⟨cc, fz, hh, hf, hs, hc⟩ := hinv.own hp hb
  have hxl := hx.length
  obtain ⟨w', hr, hw⟩ := storeCells_run (P := P) (o := p.off + o) xs' 0 w cc hh hf (by omega) h1
  refine ⟨w', hr, hinv.replace hb rfl rfl hp hw rfl ⟨p, _, e, fz, hp, hw.at_, ?_, fun _ => ⟨rfl, ?_, ?_⟩⟩⟩
  · intro j v hj
    obtain ⟨v', a, b, c⟩ := spliceR hc hx h1 hl (by have := Array.length_toList (xs := cc); omega) j v hj
    refine ⟨v', ?_, b, c⟩
    rw [Nat.add_zero, hxl]
    simpa using a
  · have : (⟨cc.toList.take (p.off + o + 0) ++ xs' ++ cc.toList.drop (p.off + o + 0 + xs'.length)⟩ : Array Value).size = cc.size := by
      have := splice_len cc.toList xs' (p.off + o + 0) xs'.length rfl (by have := Array.length_toList (xs := cc); omega)
      rw [Array.length_toList] at this
      exact this
    rw [this]; exact hf
  · have : (⟨cc.toList.take (p.off + o + 0) ++ xs' ++ cc.toList.drop (p.off + o + 0 + xs'.length)⟩ : Array Value).size = cc.size := by
      have := splice_len cc.toList xs' (p.off + o + 0) xs'.length rfl (by have := Array.length_toList (xs := cc); omega)
      rw [Array.length_toList] at this
      exact this
    rw [this, splice_len cs xs o _ rfl hl]
    exact hs

theorem aStore_sim {t : TypeId} {x x' v v' : Value} {h' : Heap} (hinv : Inv P w0 prot f h w) (hs : aStore P t x v h = some h') (hx : VR f x x') (hv : VR f v v') :
    ∃ w', (Instr.storeAt t x' v').run P w = .ok () w' ∧ Inv P w0 prot f h' w' := by
  cases hx <;> simp only [aStore, reduceCtorEq] at hs
  case ptr b o p hp =>
    split at hs
    · rename_i e cs hb
      have key : ∀ xs xs', cellsOfV v = some xs → VRs f xs xs' → v'.cells = ⟨xs'⟩ → (∀ y ∈ xs', y.oneCell' = true) → some xs.length = sizeT P t → o + xs.length ≤ cs.length →
          ∃ w', (Instr.storeAt t (.pointer (some ⟨p.blk, p.off + o, none⟩)) v').run P w = .ok () w' ∧ Inv P w0 prot f (h.set b ⟨.cells e (cs.take o ++ xs ++ cs.drop (o + xs.length)), true⟩) w' := by
        intro xs xs' hcv hxs hc h1 hsz hl
        obtain ⟨w', hr, hi⟩ := hinv.splice hp hb hxs h1 hl
        refine ⟨w', ?_, hi⟩
        have hxl := hxs.length
        simp only [Instr.storeAt, Instr.sureAddr, storeVar, Sem.run_bind, Sem.run_pure, Result.andThen_ok, run_sizeOf' hsz.symm, hc, List.size_toArray, Sem.run_ite]
        rw [if_neg (by simp; omega)]
        simpa using hr
      cases hv with
      | any u => simp at hs
      | skipped => simp at hs
      | tuple => simp at hs
      | agg xs xs' hxs h1 =>
        simp only at hs
        split at hs
        · rename_i hc
          simp only [Option.some.injEq] at hs; subst hs
          exact key xs xs' rfl hxs rfl h1 hc.1 hc.2
        · simp at hs
      | _ =>
        simp only at hs
        split at hs
        · rename_i hc
          simp at hs; subst hs
          have hset : ∀ u : Value, cs.set o u = cs.take o ++ [u] ++ cs.drop (o + 1) := fun u => by
            rw [List.set_eq_take_append_cons_drop, if_pos hc.2]; simp
          rw [hset]
          exact key [_] [_] rfl (.cons (by constructor <;> assumption) .nil) rfl (by simp [Value.oneCell']) hc.1 hc.2
        · simp at hs
    · simp at hs

theorem Inv.mapSet {r : Nat} {p : Place} {es es1 : List (Value × Value)} {es' es1' : Array MapEntry} {clock clock' : Nat} (hinv : Inv P w0 prot f h w) (hp : f r = some p) (hb : h[r]? = some ⟨.map es, true⟩)
    (hh : w.heap[p.blk]? = some (.map es' clock)) (hm : MapR f es1 es1'.toList) : ∃ w', (setObj p.blk (.map es1' clock')).run P w = .ok () w' ∧ Inv P w0 prot f (h.set r ⟨.map es1, true⟩) w' := by
  have hlt := lt_of_some hh
  have hw : Wrote w p.blk (.map es1' clock') { w with heap := w.heap.setIfInBounds p.blk (.map es1' clock') } :=
    ⟨by simp [hlt], fun k hk => by simp [Array.getElem?_setIfInBounds, Ne.symm hk], by simp, rfl, rfl, rfl⟩
  refine ⟨{ w with heap := w.heap.setIfInBounds p.blk (.map es1' clock') }, ?_, hinv.replace hb rfl rfl hp hw rfl ⟨p, es1', clock', hp, hw.at_, hm⟩⟩
  simp [setObj, Sem.run, hh]
theorem MapR.set : ∀ {es : List (Value × Value)} {es' : List MapEntry} {i : Nat} {k v v' : Value}, MapR f es es' → pureV k = true → VR f v v' → MapR f (es.set i (k, v)) (es'.modify i fun e => { e with key := k, val := v' })
  | [], [], i, _, _, _, _, _, _ => by simp [MapR]
  | (_, _) :: es, e :: es', 0, k, v, v', ⟨_, _, _, h4⟩, hk, hv => ⟨rfl, hk, hv, h4⟩
  | (a, b) :: es, e :: es', i + 1, k, v, v', ⟨h1, h2, h3, h4⟩, hk, hv => by
    have := MapR.set (i := i) h4 hk hv
    exact ⟨h1, h2, h3, this⟩
  | [], _ :: _, _, _, _, _, h, _, _ => h.elim
  | _ :: _, [], _, _, _, _, h, _, _ => h.elim
theorem MapR.snoc : ∀ {es : List (Value × Value)} {es' : List MapEntry} {k v v' : Value} {b : Nat}, MapR f es es' → pureV k = true → VR f v v' → MapR f (es ++ [(k, v)]) (es' ++ [{ key := k, val := v', born := b }])
  | [], [], k, v, v', b, _, hk, hv => ⟨rfl, hk, hv, trivial⟩
  | (_, _) :: es, e :: es', k, v, v', b, ⟨h1, h2, h3, h4⟩, hk, hv => ⟨h1, h2, h3, MapR.snoc h4 hk hv⟩
  | [], _ :: _, _, _, _, _, h, _, _ => h.elim
  | _ :: _, [], _, _, _, _, h, _, _ => h.elim
theorem sameNow_bits {d : TypeDesc} {k k' : Value} (hk : simpleKey d k = true) (hs : Instr.sameNow d k k' = some true) : ∀ n, Instr.sameBits n k' k = true := by
  intro n
  unfold simpleKey at hk
  split at hk
  · cases k' <;> simp [Instr.sameNow] at hs
    obtain ⟨rfl, rfl⟩ := hs
    simp [Instr.sameBits]
  · cases k' <;> simp [Instr.sameNow] at hs
    have hs := (ba_beq _ _).1 hs
    subst hs
    simp [Instr.sameBits, (ba_beq _ _).2 rfl]
  · cases k' <;> simp [Instr.sameNow] at hs
    subst hs
    simp [Instr.sameBits]
  · simp at hk
theorem aMapUpd_sim {t : TypeId} {m m' k k' v v' : Value} {h' : Heap} (hinv : Inv P w0 prot f h w) (hs : aMapUpd P t m k v h = some h') (hm : VR f m m') (hk : VR f k k') (hv : VR f v v') :
    ∃ w', (Instr.mapUpdate t m' k' v').run P w = .ok () w' ∧ Inv P w0 prot f h' w' := by
  unfold aMapUpd at hs
  split at hs
  · rename_i kt et r hu
    split at hs
    · rename_i es hb
      simp only [Option.bind_eq_some_iff] at hs
      obtain ⟨d, hd, hs⟩ := hs
      cases hsk : simpleKey d k with
      | false => rw [hsk] at hs; simp at hs
      | true =>
        rw [hsk] at hs
        simp only [cond_true, Option.map_eq_some_iff] at hs
        obtain ⟨fr, hfr, hs⟩ := hs
        obtain ⟨rfl, hpk⟩ := simpleKey_pure hsk hk
        cases hm
        rename_i p hp
        obtain ⟨es', clock, hh, hmr⟩ := hinv.sim.mapAt hp hb
        obtain ⟨r', hr', hcase⟩ := findA_now hmr hfr
        have hfk : (Instr.findKey kt k' es'.toList).run P w = .ok r' w := by
          simp only [Instr.findKey, Sem.run_bind, run_underlying' hd, Result.andThen_ok, hr', Sem.run_pure]
        rcases hcase with ⟨rfl, rfl⟩ | ⟨j, u, u', rfl, rfl, hu', hj1, hj2, kk, hkk, hsame⟩
        · simp only at hs
          subst hs
          obtain ⟨w', hr, hi⟩ := hinv.mapSet (es1 := es ++ [(k', v)]) (es1' := es'.push { key := k', val := v', born := clock }) (clock' := clock + 1) hp hb hh (by simpa using hmr.snoc hpk hv)
          refine ⟨w', ?_, hi⟩
          simp only [Instr.mapUpdate, Sem.run_bind, run_underlying' hu, Result.andThen_ok, getObj_run hh, checkKey_run hd hsk, hfk, hr]
        · simp only at hs
          subst hs
          obtain ⟨w', hr, hi⟩ := hinv.mapSet (es1 := es.set j (k', v)) (es1' := es'.modify j fun e => { e with key := k', val := v' }) (clock' := clock) hp hb hh (by simpa using hmr.set hpk hv)
          refine ⟨w', ?_, hi⟩
          have hbits : ∀ kk', (((es'[j]?).map (·.key)).getD k') = kk' → Instr.sameBits 10000 kk' k' = true := by
            intro kk' hkk'
            have hkj : es[j]? = some (kk, u) := by simpa using hkk
            have : ∀ {es : List (Value × Value)} {es' : List MapEntry} {j : Nat} {kk u : Value}, MapR f es es' → es[j]? = some (kk, u) → ∃ e, es'[j]? = some e ∧ e.key = kk := by
              intro es
              induction es with
              | nil => intro es' j kk u _ h; simp at h
              | cons a es ih =>
                intro es' j kk u hm h
                cases es' with
                | nil => obtain ⟨a1, a2⟩ := a; exact hm.elim
                | cons e es' =>
                  obtain ⟨a1, a2⟩ := a
                  obtain ⟨h1, _, _, h4⟩ := hm
                  cases j with
                  | zero => simp at h; exact ⟨e, rfl, by rw [h1]; exact h.1⟩
                  | succ j => simpa using ih h4 (by simpa using h)
            obtain ⟨e, he, hek⟩ := this hmr hkj
            rw [Array.getElem?_toList] at he
            rw [he] at hkk'
            simp at hkk'
            rw [← hkk', hek]
            exact sameNow_bits hsk hsame _
          have hkt := hbits _ rfl
          simp only [Instr.mapUpdate, Sem.run_bind, run_underlying' hu, Result.andThen_ok, getObj_run hh, checkKey_run hd hsk, hfk, Instr.keyThatStays, hkt, if_true, Sem.run_pure, hr]
    · simp at hs
  · simp at hs
theorem aClear_sim {m m' : Value} {h' : Heap} {t ty : TypeId} (hinv : Inv P w0 prot f h w) (hs : aClear h m = some h') (hm : VR f m m') (hut : P.underlying t ≠ none) :
    ∃ w', (Builtin.clear_ ⟨[t]⟩ ty ⟨[m']⟩).run P w = .ok (.tuple ⟨[]⟩) w' ∧ Inv P w0 prot f h' w' := by
  cases hm <;> simp only [aClear, reduceCtorEq] at hs
  case map r p hp =>
    split at hs
    · rename_i es hb
      simp at hs; subst hs
      obtain ⟨es', clock, hh, hmr⟩ := hinv.sim.mapAt hp hb
      obtain ⟨w', hr, hi⟩ := hinv.mapSet (es1 := []) (es1' := #[]) (clock' := clock) hp hb hh trivial
      refine ⟨w', ?_, hi⟩
      cases hu : P.underlying t with
      | none => exact absurd hu hut
      | some d => cases d <;> simp [Builtin.clear_, run_underlying' hu, getObj_run hh, hr]
    · simp at hs

/-! ### append -/
theorem srcCells_sim {sz : Nat} {x x' : Value} {new : List Value} {m : Nat} (hs : Sim P f h w) (hk : srcCells sz h x = some (new, m)) (hx : VR f x x') :
    (Builtin.lenOf x').run P w = .ok m w ∧ new.length = m * sz ∧ ∃ new', VRs f new new' ∧ (∀ y ∈ new', y.oneCell' = true) ∧ ∀ W : World, W.heap = w.heap → (Builtin.firstCells sz m x').run P W = .ok ⟨new'⟩ W := by
  cases hx <;> simp only [srcCells, reduceCtorEq] at hk
  case string s =>
    split at hk
    · rename_i h1
      simp only [Option.some.injEq, Prod.mk.injEq] at hk
      obtain ⟨rfl, rfl⟩ := hk
      refine ⟨by simp [Builtin.lenOf], by rw [h1]; simp, s.data.toList.map (fun b => .int .u8 b.toNat), ?_, ?_, ?_⟩
      · refine VRs.of_get rfl fun i x y hx hy => ?_
        rw [hx] at hy
        simp at hy; subst hy
        rw [List.getElem?_map] at hx
        simp only [Option.map_eq_some_iff] at hx
        obtain ⟨u, _, rfl⟩ := hx
        exact .int _ _
      · intro y hy
        simp only [List.mem_map] at hy
        obtain ⟨u, _, rfl⟩ := hy
        rfl
      · intro W _
        have : s.extract 0 s.size = s := by
          apply ByteArray.ext
          simp [ByteArray.extract, ByteArray.copySlice]
        simp only [Builtin.firstCells, this, Sem.run_pure]
        congr 1
        apply Array.ext'
        simp
    · simp at hk
  case sliceNil =>
    simp only [Option.some.injEq, Prod.mk.injEq] at hk
    obtain ⟨rfl, rfl⟩ := hk
    exact ⟨by simp [Builtin.lenOf], by simp, [], .nil, fun y hy => by simp at hy, fun W _ => by simp [Builtin.firstCells]⟩
  case sliceAny a' c' =>
    simp only [Option.some.injEq, Prod.mk.injEq] at hk
    obtain ⟨rfl, rfl⟩ := hk
    refine ⟨by simp [Builtin.lenOf], by simp, [], .nil, fun y hy => by simp at hy, fun W _ => ?_⟩
    cases a' with
    | none => simp [Builtin.firstCells]
    | some a' =>
      simp only [Builtin.firstCells]
      exact run_loadCells_of [] (by simp) (fun j v hv => by simp at hv)
  case sliceEnd a a' c' =>
    obtain ⟨b, o, sp⟩ := a
    cases sp <;> simp only [srcCells, reduceCtorEq] at hk
    split at hk
    · split at hk
      · simp only [Nat.zero_mul, List.take_zero, Option.some.injEq, Prod.mk.injEq] at hk
        obtain ⟨rfl, rfl⟩ := hk
        refine ⟨by simp [Builtin.lenOf], by simp, [], .nil, fun y hy => by simp at hy, fun W _ => ?_⟩
        simp only [Builtin.firstCells]
        exact run_loadCells_of [] (by simp) (fun j v hv => by simp at hv)
      · simp at hk
    · simp at hk
  case slice b o n c p hp hn =>
    split at hk
    · rename_i e cs own hb
      split at hk
      · rename_i hlen
        simp only [Option.some.injEq, Prod.mk.injEq] at hk
        obtain ⟨rfl, rfl⟩ := hk
        obtain ⟨cs', hc, h1, hcell⟩ := hs.row hp hb
        have hlc := hc.length
        refine ⟨by simp [Builtin.lenOf], hlen, (cs'.drop o).take (n * sz), (hc.drop o).take _, fun y hy => h1 y (List.mem_of_mem_drop (List.mem_of_mem_take hy)), fun W hW => ?_⟩
        simp only [Builtin.firstCells]
        refine run_loadCells_of _ (by rw [List.length_take, List.length_drop] at hlen ⊢; omega) (fun j v hv => ?_)
        rw [Addr.add_none, Nat.add_assoc]
        have : W.cell? ⟨p.blk, p.off + (o + j), none⟩ = w.cell? ⟨p.blk, p.off + (o + j), none⟩ := by simp [World.cell?, hW]
        rw [this]
        refine hcell _ _ ?_
        rw [List.getElem?_take] at hv
        split at hv
        · rwa [List.getElem?_drop] at hv
        · simp at hv
      · simp at hk
    · simp at hk
theorem growBy_le (n : Nat) : ∀ (r c : Nat), c ≤ 2 * n + 192 → Builtin.growBy n r c ≤ 2 * n + 192
  | 0, c, h => h
  | r + 1, c, h => by
    unfold Builtin.growBy
    split
    · exact h
    · exact growBy_le n r _ (by omega)
theorem nextslicecap_le {n c : Nat} (h : c < n) : Builtin.nextslicecap n c ≤ 2 * n + 192 := by
  unfold Builtin.nextslicecap
  split
  · omega
  · split
    · omega
    · exact growBy_le n 4 c (by omega)
theorem zeroCells_eq (zs : List Value) (n : Nat) (hz : 0 < zs.length) : Builtin.zeroCells ⟨zs⟩ n = ⟨repL n zs⟩ := by
  unfold Builtin.zeroCells
  exact range_rep hz
/-- A slice that has no room goes on in a new row. -/
theorem grow_run {t0 t1 ty e : TypeId} {i : TypeInfo} {x' : Value} {base : Option Addr} {n cap m : Nat} {old new : List Value} {zs : List Value} (ht : P.underlying t0 = some (.slice e)) (hi : P.info? e = some i) (hn1 : notIntT P t1 = true)
    (hz : ∃ z, (∀ W, (zeroValue e).run P W = .ok z W) ∧ z.cells = ⟨zs⟩) (hzl : zs.length = i.size) (hsz : 0 < i.size)
    (hlen : ∀ W : World, (Builtin.lenOf x').run P W = .ok m W) (hnew : ∀ W : World, W.heap = w.heap → (Builtin.firstCells i.size m x').run P W = .ok ⟨new⟩ W) (hold : ∀ W : World, W.heap = w.heap → (Builtin.firstCells i.size n (.slice base n cap)).run P W = .ok ⟨old⟩ W)
    (hgt : cap < n + m) (hb1 : (n + m) * i.bytes ≤ 70368744177664) (hb2 : n + m < 1152921504606846976) (hb3 : i.bytes ≤ 4294967296) :
    ∃ c2 w', n + m ≤ c2 ∧ (Builtin.append_ ⟨[t0, t1]⟩ ty ⟨[.slice base n cap, x']⟩).run P w = .ok (.slice (some ⟨w.heap.size, 0, none⟩) (n + m) c2) w' ∧
      w'.heap = w.heap.push (.cells ⟨old ++ new ++ repL (c2 - (n + m)) zs⟩ e) ∧ w'.os = w.os ∧ w'.tape = w.tape ∧ w'.output = w.output := by
  obtain ⟨z, hz1, hz2⟩ := hz
  generalize hcap : Question.cut (.appendCap (n + m) cap e) (w.tape w.drawn (.appendCap (n + m) cap e)) = c2
  have hge : n + m ≤ c2 := by rw [← hcap]; simp [Question.cut]
  have hszT : sizeT P e = some i.size := by simp [sizeT, hi]
  refine ⟨c2, { w with drawn := w.drawn + 1, heap := w.heap.push (.cells ⟨old ++ new ++ repL (c2 - (n + m)) zs⟩ e) }, hge, ?_, rfl, rfl, rfl, rfl⟩
  have q1 : ¬ (((n + m : Nat) : Int) > IntKind.i64.max ∧ (False ∨ i.bytes = 0)) := by
    intro hq
    have : IntKind.i64.max = 9223372036854775807 := rfl
    omega
  have q2 : ¬ (Builtin.nextslicecap (n + m) cap * i.bytes > 2 ^ 48) := by
    have h1 := nextslicecap_le hgt
    have h2 : Builtin.nextslicecap (n + m) cap * i.bytes ≤ (2 * (n + m) + 192) * i.bytes := Nat.mul_le_mul_right _ h1
    have h3 : (2 * (n + m) + 192) * i.bytes = 2 * ((n + m) * i.bytes) + 192 * i.bytes := by rw [Nat.add_mul, Nat.mul_assoc]
    omega
  obtain ⟨d, hu, hd⟩ : ∃ d, P.underlying t1 = some d ∧ ∀ k, d ≠ .int k := by
    unfold notIntT at hn1
    split at hn1
    · simp at hn1
    · rename_i d hd hu; exact ⟨d, hu, fun k hk => hd k hk⟩
    · simp at hn1
  have hw2 : ∀ W : World, W.heap = w.heap → (do let newCap ← (pure c2 : Sem Nat); let old ← Builtin.firstCells i.size n (.slice base n cap); let new ← Builtin.firstCells i.size m x'; let z ← zeroValue e; pure (Value.slice (some (← newRow e (old ++ new ++ Builtin.zeroCells z.cells (newCap - (n + m))))) (n + m) newCap) : Sem Value).run P W =
      .ok (.slice (some ⟨w.heap.size, 0, none⟩) (n + m) c2) { W with heap := w.heap.push (.cells ⟨old ++ new ++ repL (c2 - (n + m)) zs⟩ e) } := by
    intro W hW
    simp only [Sem.run_bind, Sem.run_pure, Result.andThen_ok, hold W hW, hnew W hW, hz1, hz2, newRow, run_newObj, zeroCells_eq zs _ (show 0 < zs.length by omega), hW]
    simp
  cases d
  case int k => exact absurd rfl (hd k)
  all_goals
    unfold Builtin.append_
    simp only [List.getElem?_toArray, List.getElem?_cons_zero, List.getElem?_cons_succ, Sem.run_bind, run_underlying' ht, run_underlying' hu, Result.andThen_ok, run_sizeOf' hszT, Sem.run_pure, Bool.false_eq_true, if_false, hlen, Sem.run_ite, Bool.not_false, if_true]
    rw [if_neg (by omega)]
    simp only [run_typeInfo' hi, Sem.run_bind, Sem.run_pure, Sem.run_ite, Result.andThen_ok]
    rw [if_neg (by simpa using q1), if_neg q2]
    simp only [Sem.run_bind, run_choose, Question.forced, Bool.false_eq_true, if_false, hcap, Result.andThen_ok, run_typeInfo' hi, run_askRoom]
    have := hw2 { w with drawn := w.drawn + 1 } rfl
    simp only [Sem.run_bind, Sem.run_pure, Result.andThen_ok] at this
    exact this

/-- A slice that has room: the new cells are stored behind it. -/
theorem room_run {t0 t1 ty e : TypeId} {i : TypeInfo} {x' : Value} {a : Option Addr} {n cap m : Nat} {new : List Value} (ht : P.underlying t0 = some (.slice e)) (hi : P.info? e = some i) (hn1 : notIntT P t1 = true)
    (hlen : ∀ W : World, (Builtin.lenOf x').run P W = .ok m W) (hnew : (Builtin.firstCells i.size m x').run P w = .ok ⟨new⟩ w) (hle : n + m ≤ cap) {w' : World}
    (hst : ∀ b, a = some b → (storeCells (b.add (n * i.size)) new).run P w = .ok () w') (hw : a = none → w' = w) :
    (Builtin.append_ ⟨[t0, t1]⟩ ty ⟨[.slice a n cap, x']⟩).run P w = .ok (.slice a (n + m) cap) w' := by
  have hszT : sizeT P e = some i.size := by simp [sizeT, hi]
  obtain ⟨d, hu, hd⟩ : ∃ d, P.underlying t1 = some d ∧ ∀ k, d ≠ .int k := by
    unfold notIntT at hn1
    split at hn1
    · simp at hn1
    · rename_i d hd hu; exact ⟨d, hu, fun k hk => hd k hk⟩
    · simp at hn1
  cases d
  case int k => exact absurd rfl (hd k)
  all_goals
    unfold Builtin.append_
    simp only [List.getElem?_toArray, List.getElem?_cons_zero, List.getElem?_cons_succ, Sem.run_bind, run_underlying' ht, run_underlying' hu, Result.andThen_ok, run_sizeOf' hszT, Sem.run_pure, Bool.false_eq_true, if_false, hlen, Sem.run_ite, Bool.not_false, if_true]
    rw [if_pos hle]
    simp only [Sem.run_bind, hnew, Result.andThen_ok]
    cases a with
    | none => rw [hw rfl]; rfl
    | some b => simp only [Sem.run_bind, hst b rfl, Result.andThen_ok, Sem.run_pure]
theorem VRs.cut {f : Ren} {cs L : List Value} {off : Nat} (hc : ∀ (j : Nat) (v : Value), cs[j]? = some v → ∃ v', L[off + j]? = some v' ∧ VR f v v' ∧ v'.oneCell' = true) (o n : Nat) (hl : o + n ≤ cs.length) :
    VRs f ((cs.drop o).take n) ((L.drop (off + o)).take n) ∧ ∀ y ∈ (L.drop (off + o)).take n, y.oneCell' = true := by
  have hL : ∀ j, j < n → off + o + j < L.length := fun j hj => by
    obtain ⟨v', h1, _⟩ := hc (o + j) (cs[o + j]'(by omega)) (List.getElem?_eq_getElem (by omega))
    have := (List.getElem?_eq_some_iff.1 h1).1
    omega
  have hLn : off + o + n ≤ L.length ∨ n = 0 := by
    rcases Nat.eq_zero_or_pos n with h0 | h0
    · exact .inr h0
    · have := hL (n - 1) (by omega); left; omega
  constructor
  · refine VRs.of_get ?_ fun i x y hx hy => ?_
    · simp only [List.length_take, List.length_drop]; omega
    · rw [List.getElem?_take] at hx hy
      split at hx
      · rename_i hi
        rw [if_pos hi] at hy
        rw [List.getElem?_drop] at hx hy
        obtain ⟨v', h1, h2, h3⟩ := hc _ x hx
        rw [show off + o + i = off + (o + i) by omega, h1] at hy
        simp at hy; subst hy; exact h2
      · simp at hx
  · intro y hy
    obtain ⟨i, hi⟩ := List.mem_iff_getElem?.1 hy
    rw [List.getElem?_take] at hi
    split at hi
    · rename_i hlt
      rw [List.getElem?_drop] at hi
      obtain ⟨v', h1, h2, h3⟩ := hc (o + i) (cs[o + i]'(by omega)) (List.getElem?_eq_getElem (by omega))
      rw [show off + o + i = off + (o + i) by omega, h1] at hi
      simp at hi; subst hi; exact h3
    · simp at hi
theorem f_new (hs : Sim P f h w) : f h.length = none := by
  cases hf : f h.length with
  | none => rfl
  | some p => have := hs.dom _ _ hf; omega

set_option maxHeartbeats 4000000 in
theorem aApp_sim {t0 t1 ty e : TypeId} {i : TypeInfo} {a : Option Addr} {s' x' v : Value} {n c m : Nat} {new new' : List Value} {h' : Heap} (hinv : Inv P w0 prot f h w) (ht : P.underlying t0 = some (.slice e)) (hi : P.info? e = some i) (hn1 : notIntT P t1 = true)
    (hsz : 0 < i.size) {zs : List Value} {z : Value} (hz : zeroT P e = some z) (hzs : cellsOfV z = some zs) (hzl : zs.length = i.size) (hs : VR f (.slice a n c) s')
    (hlen : ∀ W : World, (Builtin.lenOf x').run P W = .ok m W) (hnl : new.length = m * i.size) (hnv : VRs f new new') (hn2 : ∀ y ∈ new', y.oneCell' = true) (hnew : ∀ W : World, W.heap = w.heap → (Builtin.firstCells i.size m x').run P W = .ok ⟨new'⟩ W)
    (hk : aApp e i.size i.bytes a n c new m h = some (v, h')) :
    ∃ f' v' w', (Builtin.append_ ⟨[t0, t1]⟩ ty ⟨[s', x']⟩).run P w = .ok v' w' ∧ Ext h.length f f' ∧ VR f' v v' ∧ Inv P w0 prot f' h' w' ∧ h.length ≤ h'.length := by
  have hcellsOf : P.cellsOf e = i.size := by simp [Program.cellsOf, hi]
  have hzz : ∃ z, (∀ W, (zeroValue e).run P W = .ok z W) ∧ z.cells = ⟨zs⟩ := ⟨z, fun W => (zero_cells (f := f) (w := W) hz hzs).1, (zero_cells (f := f) (w := w) hz hzs).2.1⟩
  have hnvl := hnv.length
  obtain ⟨_, _, _, hz1⟩ := zero_cells (f := f) (w := w) hz hzs
  unfold aApp at hk
  split at hk
  · -- nothing is appended
    rename_i hm
    subst hm
    simp only [Option.some.injEq, Prod.mk.injEq] at hk
    obtain ⟨rfl, rfl⟩ := hk
    have hn0 : new' = [] := by
      have : new'.length = 0 := by rw [hnvl, hnl]; simp
      exact List.length_eq_zero_iff.1 this
    subst hn0
    have hcap : ∃ a' cap, s' = .slice a' n cap ∧ n ≤ cap := by
      cases hs with
      | sliceNil => exact ⟨_, _, rfl, Nat.le_refl _⟩
      | sliceEnd b b' c' => exact ⟨_, _, rfl, Nat.zero_le _⟩
      | sliceAny b' c' => exact ⟨_, _, rfl, Nat.zero_le _⟩
      | slice b o n c p hp hn => exact ⟨_, _, rfl, hn⟩
    obtain ⟨a', cap, rfl, hle⟩ := hcap
    refine ⟨f, _, w, room_run (w' := w) (m := 0) ht hi hn1 hlen (hnew w rfl) (by omega) (fun b hb => by simp [storeCells]) (fun _ => rfl), Ext.refl _ f, by simpa using hs, hinv, Nat.le_refl _⟩
  · rename_i hm
    split at hk
    · rename_i hbd
      obtain ⟨b1, b2, b3⟩ := hbd
      -- a new row
      have fresh : ∀ (a' : Option Addr) (cap : Nat) (old old' : List Value), s' = .slice a' n cap → cap < n + m → VRs f old old' → (∀ y ∈ old', y.oneCell' = true) → old.length = n * i.size →
          (∀ W : World, W.heap = w.heap → (Builtin.firstCells i.size n (.slice a' n cap)).run P W = .ok ⟨old'⟩ W) → ∀ h2, Inv P w0 prot f h2 w → h2.length = h.length →
          ∃ f' v' w', (Builtin.append_ ⟨[t0, t1]⟩ ty ⟨[s', x']⟩).run P w = .ok v' w' ∧ Ext h.length f f' ∧ VR f' (.slice (some ⟨h.length, 0, none⟩) (n + m) (capFlag + (n + m))) v' ∧ Inv P w0 prot f' (h2 ++ [newBlk e (old ++ new)]) w' ∧ h.length ≤ (h2 ++ [newBlk e (old ++ new)]).length := by
        intro a' cap old old' hs' hgt hov ho1 hol hold h2 hinv2 hl2
        obtain ⟨c2, w', hge, hrun, hheap, hos, htape, hout⟩ := grow_run (w := w) (ty := ty) ht hi hn1 hzz hzl hsz hlen hnew hold hgt b1 b2 b3
        have hovl := hov.length
        have hmade : Made P f w (newBlk e (old ++ new)) (sliceTo (n + m) (capFlag + (n + m))) (.slice (some ⟨w.heap.size, 0, none⟩) (n + m) c2) w' := by
          refine .row (cs' := old' ++ new' ++ repL (c2 - (n + m)) zs) (fz := (0, 0)) (c2 - (n + m)) hheap hos htape hout ?_ (unfrozen0 _) ?_ ?_
          · intro j u hj
            obtain ⟨u', p1, p2, p3⟩ := (hov.append hnv).cellsR (fun y hy => by
              rcases List.mem_append.1 hy with hy | hy
              · exact ho1 y hy
              · exact hn2 y hy) j u hj
            exact ⟨u', by rw [List.getElem?_append_left (List.getElem?_eq_some_iff.1 p1).1]; exact p1, p2, p3⟩
          · simp only [List.length_append, repL_length, hcellsOf, hzl]
            omega
          · intro j f' hf'
            have hr : realCap (capFlag + (n + m)) (c2 - (n + m)) = c2 := by unfold realCap; rw [if_pos (by omega)]; omega
            have := VR.slice j 0 (n + m) (capFlag + (n + m)) _ hf' (by rw [hr]; exact hge)
            simp only [hr] at this
            simpa [sliceTo] using this
        obtain ⟨f', hle, hoth, hv', hinv'⟩ := hinv2.newAt (i := h.length) (h' := h2 ++ [newBlk e (old ++ new)]) (f_new hinv.sim) hmade (.inl ⟨hl2.symm, rfl⟩)
        exact ⟨f', _, w', by rw [hs']; exact hrun, ⟨hle, fun j hj => hoth j (by omega)⟩, by simpa [sliceTo] using hv', hinv', by simp; omega⟩
      split at hk
      · -- nil
        split at hk
        · rename_i hc0
          obtain ⟨rfl, rfl⟩ := hc0
          simp only [Option.some.injEq, Prod.mk.injEq] at hk
          obtain ⟨rfl, rfl⟩ := hk
          cases hs with
          | sliceNil =>
            have := fresh none 0 [] [] rfl (by omega) .nil (fun y hy => by simp at hy) (by simp) (fun W _ => by simp [Builtin.firstCells]) h hinv rfl
            simpa using this
        · simp at hk
      · rename_i b o
        split at hk
        · rename_i e' cs own hb
          cases hs with
          | sliceEnd _ a' c' =>
            have hk0 : kcap capFlag = 0 := by simp [kcap]
            rw [hk0] at hk
            rw [if_neg (by omega), if_pos (Nat.le_refl _), if_neg (by simp)] at hk
            simp at hk
          | slice b o n c p hp hn =>
            split at hk
            · -- there is room
              rename_i hroom
              split at hk
              · rename_i hcnd
                obtain ⟨rfl, rfl, hfit⟩ := hcnd
                simp only [Option.some.injEq, Prod.mk.injEq] at hk
                obtain ⟨rfl, rfl⟩ := hk
                have hmul : (n + m) * i.size = n * i.size + new.length := by rw [hnl, Nat.add_mul]
                obtain ⟨w', hst, hinv'⟩ := hinv.splice hp hb hnv hn2 (o := o + n * i.size) (by omega)
                have hkr : kcap c ≤ realCap c p.spare := by unfold kcap realCap; split <;> omega
                have hrun := room_run (w := w) (ty := ty) (a := some ⟨p.blk, p.off + o, none⟩) (cap := realCap c p.spare) ht hi hn1 hlen (hnew w rfl) (show n + m ≤ realCap c p.spare by omega) (w' := w') (fun b' hb' => by
                  simp only [Option.some.injEq] at hb'
                  subst hb'
                  rw [Addr.add_none, Nat.add_assoc]; exact hst) (fun hh => by simp at hh)
                refine ⟨f, _, w', hrun, Ext.refl _ f, .slice b o (n + m) c p hp (by omega), ?_, by simp⟩
                rw [show o + (n + m) * i.size = o + n * i.size + new.length by omega]
                exact hinv'
              · simp at hk
            · rename_i hroom
              split at hk
              · -- it is not known whether there is room
                rename_i hflag
                split at hk
                · rename_i hcnd
                  obtain ⟨rfl, rfl, hk0, hnk, hend⟩ := hcnd
                  simp only [Option.some.injEq, Prod.mk.injEq] at hk
                  obtain ⟨rfl, rfl⟩ := hk
                  obtain ⟨cc, fz, hh, hf, hspace, hc⟩ := hinv.own hp hb
                  have hrc : realCap c p.spare = kcap c + p.spare := by unfold realCap kcap; simp [hflag]
                  have hnsz : n * i.size ≤ kcap c * i.size := Nat.mul_le_mul_right _ hnk
                  obtain ⟨hov, ho1⟩ := VRs.cut hc o (n * i.size) (by omega)
                  by_cases hreal : n + m ≤ realCap c p.spare
                  · -- in place
                    have hsp : (n + m) * i.size ≤ (kcap c + p.spare) * i.size := Nat.mul_le_mul_right _ (by omega)
                    have hmul : (n + m) * i.size = n * i.size + new.length := by rw [hnl, Nat.add_mul]
                    have hmul2 : (kcap c + p.spare) * i.size = kcap c * i.size + p.spare * i.size := Nat.add_mul _ _ _
                    rw [hcellsOf] at hspace
                    obtain ⟨w', hst, hw⟩ := storeCells_run (P := P) (o := p.off + o + n * i.size) new' 0 w cc hh hf (by omega) hn2
                    have hrun := room_run (w := w) (ty := ty) (a := some ⟨p.blk, p.off + o, none⟩) (cap := realCap c p.spare) ht hi hn1 hlen (hnew w rfl) hreal (w' := w') (fun b' hb' => by
                      simp only [Option.some.injEq] at hb'
                      subst hb'
                      rw [Addr.add_none]; exact hst) (fun hh => by simp at hh)
                    have hccl := Array.length_toList (xs := cc)
                    have hL2 : (cc.toList.take (p.off + o + n * i.size + 0) ++ new' ++ cc.toList.drop (p.off + o + n * i.size + 0 + new'.length)).length = cc.size := by
                      rw [splice_len cc.toList new' _ _ rfl (by omega), hccl]
                    have hr : BlkR P (upd f h.length ⟨p.blk, p.off + o, realCap c p.spare - (n + m)⟩) w' h.length (newBlk e' ((cs.drop o).take (n * i.size) ++ new)) := by
                      refine ⟨_, _, e', fz, upd_same _ _ _, hw.at_, ?_, fun _ => ⟨rfl, ?_, ?_⟩⟩
                      · intro j u hj
                        have hol : ((cs.drop o).take (n * i.size)).length = n * i.size := by simp only [List.length_take, List.length_drop]; omega
                        simp only [List.getElem?_toArray]
                        rw [splice_get cc.toList new' _ _ _ rfl (by omega)]
                        rw [List.getElem?_append, hol] at hj
                        split at hj
                        · rename_i hjl
                          rw [if_pos (by omega)]
                          rw [List.getElem?_take, if_pos hjl, List.getElem?_drop] at hj
                          obtain ⟨u', p1, p2, p3⟩ := hc _ u hj
                          exact ⟨u', by rw [Nat.add_assoc]; exact p1, p2.mono (le_upd (f_new hinv.sim)), p3⟩
                        · rename_i hjl
                          obtain ⟨u', p1, p2⟩ := hnv.get _ u hj
                          have := (List.getElem?_eq_some_iff.1 p1).1
                          rw [if_neg (by omega), if_pos (by omega)]
                          exact ⟨u', by rw [show p.off + o + j - (p.off + o + n * i.size + 0) = j - n * i.size by omega]; exact p1, p2.mono (le_upd (f_new hinv.sim)), hn2 _ (List.mem_of_getElem? p1)⟩
                      · have : (⟨cc.toList.take (p.off + o + n * i.size + 0) ++ new' ++ cc.toList.drop (p.off + o + n * i.size + 0 + new'.length)⟩ : Array Value).size = cc.size := hL2
                        rw [this]; exact hf
                      · have : (⟨cc.toList.take (p.off + o + n * i.size + 0) ++ new' ++ cc.toList.drop (p.off + o + n * i.size + 0 + new'.length)⟩ : Array Value).size = cc.size := hL2
                        rw [this, hcellsOf]
                        simp only [List.length_append, List.length_take, List.length_drop]
                        have : (realCap c p.spare - (n + m)) * i.size = (kcap c + p.spare) * i.size - (n + m) * i.size := by rw [hrc, Nat.sub_mul]
                        omega
                    have hinv' := hinv.moved (blk := newBlk e' ((cs.drop o).take (n * i.size) ++ new)) hb rfl rfl hp hw (q := ⟨p.blk, p.off + o, realCap c p.spare - (n + m)⟩) rfl rfl hr
                    refine ⟨_, _, w', hrun, ⟨le_upd (f_new hinv.sim), fun j hj => upd_other (by omega)⟩, ?_, hinv', by simp⟩
                    have hr2 : realCap (capFlag + (n + m)) (realCap c p.spare - (n + m)) = realCap c p.spare := by
                      generalize realCap c p.spare = R at hreal
                      unfold realCap
                      rw [if_pos (by omega)]
                      omega
                    have := VR.slice (f := upd f h.length ⟨p.blk, p.off + o, realCap c p.spare - (n + m)⟩) h.length 0 (n + m) (capFlag + (n + m)) _ (upd_same _ _ _) (by rw [hr2]; exact hreal)
                    simp only [hr2, Nat.add_zero] at this
                    exact this
                  · have hdrop := hinv.drop hb rfl
                    refine fresh _ _ ((cs.drop o).take (n * i.size)) _ rfl (by omega) hov ho1 (by simp only [List.length_take, List.length_drop]; omega) (fun W hW => ?_) _ hdrop (by simp)
                    simp only [Builtin.firstCells]
                    refine run_loadCells_of _ (by have := hov.length; rw [this]; simp only [List.length_take, List.length_drop]; omega) (fun j u hu => ?_)
                    rw [Addr.add_none]
                    have hcell : W.cell? ⟨p.blk, p.off + o + j, none⟩ = cc.toList[p.off + o + j]? := by rw [cell_at (w := W) (by rw [hW]; exact hh), Array.getElem?_toList]
                    rw [hcell]
                    rw [List.getElem?_take] at hu
                    split at hu
                    · rwa [List.getElem?_drop] at hu
                    · simp at hu
                · simp at hk
              · -- there is none
                rename_i hflag
                split at hk
                · rename_i hcnd
                  simp only [Option.some.injEq, Prod.mk.injEq] at hk
                  obtain ⟨rfl, rfl⟩ := hk
                  have hrc : realCap c p.spare = c := by unfold realCap; rw [if_neg hflag]
                  have hkc : kcap c = c := by unfold kcap; rw [if_neg hflag]
                  obtain ⟨cs', hcv, h1, hcell⟩ := hinv.sim.row hp hb
                  have hcl := hcv.length
                  refine fresh _ _ ((cs.drop o).take (n * i.size)) ((cs'.drop o).take (n * i.size)) rfl (by omega) ((hcv.drop o).take _) (fun y hy => h1 y (List.mem_of_mem_drop (List.mem_of_mem_take hy))) (by simp only [List.length_take, List.length_drop]; omega) (fun W hW => ?_) h hinv rfl
                  simp only [Builtin.firstCells]
                  refine run_loadCells_of _ (by simp only [List.length_take, List.length_drop]; omega) (fun j u hu => ?_)
                  rw [Addr.add_none, Nat.add_assoc]
                  have : W.cell? ⟨p.blk, p.off + (o + j), none⟩ = w.cell? ⟨p.blk, p.off + (o + j), none⟩ := by simp [World.cell?, hW]
                  rw [this]
                  refine hcell _ _ ?_
                  rw [List.getElem?_take] at hu
                  split at hu
                  · rwa [List.getElem?_drop] at hu
                  · simp at hu
                · simp at hk
        · simp at hk
      · simp at hk
    · simp at hk

theorem aAppend_sim {t0 t1 ty : TypeId} {s s' x x' v : Value} {h' : Heap} (hinv : Inv P w0 prot f h w) (hk : aAppend P t0 t1 s x h = some (v, h')) (hs : VR f s s') (hx : VR f x x') :
    ∃ f' v' w', (Builtin.append_ ⟨[t0, t1]⟩ ty ⟨[s', x']⟩).run P w = .ok v' w' ∧ Ext h.length f f' ∧ VR f' v v' ∧ Inv P w0 prot f' h' w' ∧ h.length ≤ h'.length := by
  unfold aAppend at hk
  split at hk
  · rename_i a n c
    simp only [Option.bind_eq_some_iff] at hk
    obtain ⟨e, he, i, hi, hk⟩ := hk
    cases hc : (notIntT P t1 && decide (0 < i.size) && zeroFits P e i.size) with
    | false => rw [hc] at hk; simp at hk
    | true =>
      rw [hc] at hk
      simp only [Bool.and_eq_true, decide_eq_true_eq] at hc
      obtain ⟨⟨h1, h2⟩, h3⟩ := hc
      simp only [cond_true, Option.bind_eq_some_iff] at hk
      obtain ⟨⟨new, m⟩, hsrc, hk⟩ := hk
      obtain ⟨hl, hnl, new', hnv, hn2, hnew⟩ := srcCells_sim hinv.sim hsrc hx
      have hlen : ∀ W : World, (Builtin.lenOf x').run P W = .ok m W := by
        intro W
        cases x' <;> simp [Builtin.lenOf] at hl ⊢ <;> exact hl
      unfold zeroFits at h3
      split at h3
      · rename_i zs hzs
        simp only [Option.bind_eq_some_iff] at hzs
        obtain ⟨z, hz, hzs⟩ := hzs
        exact aApp_sim hinv (sliceT_some he) hi h1 h2 hz hzs (by simpa using h3) hs hlen hnl hnv hn2 hnew hk
      · simp at h3
  · simp at hk

theorem aStore_len {t : TypeId} {x v : Value} {h' : Heap} (hs : aStore P t x v h = some h') : h.length ≤ h'.length := by
  unfold aStore at hs
  repeat' split at hs
  all_goals first
    | (simp only [Option.some.injEq] at hs; subst hs; simp)
    | simp at hs
theorem aMapUpd_len {t : TypeId} {m k v : Value} {h' : Heap} (hs : aMapUpd P t m k v h = some h') : h.length ≤ h'.length := by
  unfold aMapUpd at hs
  split at hs
  · split at hs
    · simp only [Option.bind_eq_some_iff] at hs
      obtain ⟨d, hd, hs⟩ := hs
      cases hsk : simpleKey d k with
      | false => rw [hsk] at hs; simp at hs
      | true =>
        rw [hsk] at hs
        simp only [cond_true, Option.map_eq_some_iff] at hs
        obtain ⟨fr, hfr, hs⟩ := hs
        split at hs <;> subst hs <;> simp
    · simp at hs
  · simp at hs
theorem aClear_len {x : Value} {h' : Heap} (hs : aClear h x = some h') : h.length ≤ h'.length := by
  unfold aClear at hs
  repeat' split at hs
  all_goals first
    | (simp only [Option.some.injEq] at hs; subst hs; simp)
    | simp at hs
/-- What an operation that writes comes to. -/
inductive XSim (P : Program) (w0 : World) (prot : Nat → Prop) (f : Ren) (n : Nat) (h' : Heap) : XR → Result Next → Prop where
  | val {v v' : Value} {f' : Ren} {w' : World} (hf : Ext n f f') (hv : VR f' v v') (hi : Inv P w0 prot f' h' w') (hn : n ≤ h'.length) : XSim P w0 prot f n h' (.val v) (.ok (.value v') w')
  | skip {w' : World} (hi : Inv P w0 prot f h' w') (hn : n ≤ h'.length) : XSim P w0 prot f n h' .skip (.ok .skip w')
  | pan {v v' : Value} {w' : World} (hv : VR f v v') (hi : Inv P w0 prot f h' w') (hn : n ≤ h'.length) : XSim P w0 prot f n h' (.pan v) (.halt (.panic v') w')
theorem opX_sim {o : Oper} {tm : List Value} {a : Act} {r : XR × Heap} (hinv : Inv P w0 prot f h w) (hk : opX P tm h o.op = some r) (ht : VRs f tm a.tmps.toList) (hty : ∀ c t, o.op = .call c → c.callee matches .builtin .clear → c.argTypes[0]? = some t → P.underlying t ≠ none) :
    XSim P w0 prot f h.length r.2 r.1 ((execOp a.eval o).run P w) := by
  cases hop : o.op <;> rw [hop] at hk <;> simp only [opX, reduceCtorEq] at hk <;> simp only [execOp, hop]
  case store t x v =>
    simp only [Option.bind_eq_some_iff, Option.map_eq_some_iff] at hk
    obtain ⟨xv, hx, vv, hv, h', hs, rfl⟩ := hk
    obtain ⟨w', hr, hi⟩ := aStore_sim hinv hs (ev_sim hx ht) (ev_sim hv ht)
    simp only [Sem.run_bind, hr, Result.andThen_ok]
    exact .skip hi (aStore_len hs)
  case insert t m k v =>
    simp only [Option.bind_eq_some_iff, Option.map_eq_some_iff] at hk
    obtain ⟨mv, hm, kv, hkv, vv, hv, h', hs, rfl⟩ := hk
    obtain ⟨w', hr, hi⟩ := aMapUpd_sim hinv hs (ev_sim hm ht) (ev_sim hkv ht) (ev_sim hv ht)
    simp only [Sem.run_bind, hr, Result.andThen_ok]
    exact .skip hi (aMapUpd_len hs)
  case mapUpdate t m k v =>
    simp only [Option.bind_eq_some_iff, Option.map_eq_some_iff] at hk
    obtain ⟨mv, hm, kv, hkv, vv, hv, h', hs, rfl⟩ := hk
    obtain ⟨w', hr, hi⟩ := aMapUpd_sim hinv hs (ev_sim hm ht) (ev_sim hkv ht) (ev_sim hv ht)
    simp only [Sem.run_bind, hr, Result.andThen_ok]
    exact .skip hi (aMapUpd_len hs)
  case panic x =>
    simp only [Option.bind_eq_some_iff] at hk
    obtain ⟨xv, hx, hk⟩ := hk
    have hv := ev_sim hx ht
    generalize hxe : Act.eval a _ = x' at hv
    split at hk
    · simp only [Option.some.injEq] at hk
      subst hk
      cases hv with
      | iface t u u' hu =>
        simp [Instr.panic, hxe]
        exact .pan (.iface _ _ _ hu) hinv (Nat.le_refl _)
    · simp at hk
  case call c =>
    obtain ⟨callee, ⟨args⟩, ⟨ts⟩⟩ := c
    simp only at hk
    split at hk
    · simp only [Option.bind_eq_some_iff, Option.map_eq_some_iff] at hk
      rename_i s x t0 t1
      obtain ⟨sv, hs, xv, hx, ⟨v, h'⟩, hap, rfl⟩ := hk
      obtain ⟨f', v', w', hr, hle, hv, hi⟩ := aAppend_sim (ty := o.type) hinv hap (ev_sim hs ht) (ev_sim hx ht)
      simp [resolve, invoke, builtin, hr]
      exact .val hle hv hi.1 hi.2
    · simp only [Option.bind_eq_some_iff, Option.map_eq_some_iff] at hk
      rename_i x t
      obtain ⟨xv, hx, h', hcl, rfl⟩ := hk
      obtain ⟨w', hr, hi⟩ := aClear_sim (ty := o.type) hinv hcl (ev_sim hx ht) (hty _ t hop rfl rfl)
      simp [resolve, invoke, builtin, hr]
      exact .val (Ext.refl _ f) (.any _) hi (aClear_len hcl)
    · simp only [Option.bind_eq_some_iff] at hk
      obtain ⟨xv, hx, hk⟩ := hk
      have hv := ev_sim hx ht
      generalize hxe : Act.eval a _ = x' at hv
      split at hk
      · simp only [Option.some.injEq] at hk
        subst hk
        cases hv with
        | iface t u u' hu =>
          simp [resolve, invoke, builtin, hxe, Instr.panic]
          exact .pan (.iface _ _ _ hu) hinv (Nat.le_refl _)
      · simp at hk
    · simp at hk
end
end Go.Am

namespace Go.Am
open Go

structure SR (P : Program) (w0 : World) (prot : Nat → Prop) (N : Nat) (f : Ren) (s : St) (a : Act) (w : World) : Prop where
  inv : Inv P w0 prot f s.h w
  tm : VRs f s.tm a.tmps.toList
  len : N ≤ s.h.length
def FnOk (P : Program) (g : FuncId) : Prop := ∃ fn, P.funcs[g]? = some fn ∧ fn.name ≠ "runtime.NumGoroutine" ∧ fn.body ≠ none
/-- What a call comes to. -/
def CR (P : Program) (w0 : World) (prot : Nat → Prop) (N : Nat) (f : Ren) (res : Ret × Heap) (e : Ending) (w' : World) : Prop :=
  match res.1 with
  | .ret v => ∃ v' f', e = .returned v' ∧ Ext N f f' ∧ VR f' v v' ∧ Inv P w0 prot f' res.2 w' ∧ N ≤ res.2.length
  | .pan v => ∃ v' f', e = .panicked [{ v := v', recovered := false }] ∧ Ext N f f' ∧ VR f' v v' ∧ Inv P w0 prot f' res.2 w' ∧ N ≤ res.2.length
def CallOk (P : Program) (w0 : World) (prot : Nat → Prop) (call : CallF) : Prop :=
  ∀ g xs h res, call g xs h = some res → FnOk P g ∧ ∀ f w (xs' : Array Value), Inv P w0 prot f h w → VRs f xs xs'.toList → Calls P g xs' w (CR P w0 prot h.length f res)
inductive ExR (f : Ren) : Ex → Exit → Prop where
  | normal : ExR f .normal .normal
  | exit (id : Nat) : ExR f (.exit id) (.exit id)
  | ret : ExR f .ret .ret
  | pan (v v' : Value) (h : VR f v v') : ExR f (.pan v) (.panic [{ v := v', recovered := false }])
/-- What may come behind: whatever it comes to on the one side, the other side's aim is met. -/
def KOk (P : Program) (w0 : World) (prot : Nat → Prop) (N : Nat) (K : Kt) (r : Ret × Heap) (f : Ren) (ds : List Deferred) (Q : Exit → Act → World → Prop) : Prop :=
  ∀ e e' s a w f', K e s = some r → Ext N f f' → ExR f' e e' → SR P w0 prot N f' s a w → a.defers = ds → Q e' a w

section
variable {P : Program} {w0 : World} {prot : Nat → Prop} {N : Nat} {call : CallF}

theorem KOk.le {K : Kt} {r : Ret × Heap} {f f' : Ren} {ds : List Deferred} {Q : Exit → Act → World → Prop} (h : KOk P w0 prot N K r f ds Q) (hf : Ext N f f') : KOk P w0 prot N K r f' ds Q :=
  fun e e' s a w g hk hg => h e e' s a w g hk (hf.trans hg)
theorem SR.put {f f' : Ren} {s : St} {a : Act} {w w' : World} {h' : Heap} {v v' : Value} {d : Option Tmp} (hs : SR P w0 prot N f s a w) (hf : f.le f') (hi : Inv P w0 prot f' h' w') (hn : s.h.length ≤ h'.length) (hv : VR f' v v') : SR P w0 prot N f' ⟨putA s.tm d v, h'⟩ (a.put d v') w' := by
  refine ⟨hi, ?_, Nat.le_trans hs.len hn⟩
  cases d with
  | none => exact hs.tm.mono hf
  | some d => simpa [putA, Act.put] using (hs.tm.mono hf).set d hv
theorem defers_put {a : Act} {d : Option Tmp} {v : Value} : (a.put d v).defers = a.defers := by cases d <;> rfl
theorem VRs.keep {f : Ren} {tm l : List Value} (h : VRs f tm l) {d : Nat} {v y : Value} (hy : l[d]? = some y) (hv : VR f v y) : VRs f (tm.set d v) l := by
  have := h.set d hv
  have e : l.set d y = l := by
    apply List.ext_getElem?
    intro i
    by_cases hi : i = d
    · subst hi
      rw [List.getElem?_set_self (List.getElem?_eq_some_iff.1 hy).1, hy]
    · rw [List.getElem?_set_ne (fun e => hi e.symm)]
  rwa [e] at this

theorem guarded_sim {ops : Array Oper} {o : Oper} {f : Ren} {s : St} {a : Act} {w : World} {yes no : St → R} {r : Ret × Heap} (hg : guarded ops.toList o s yes no = some r) (hs : SR P w0 prot N f s a w) :
    (Region.wanted o (yielded ops a.tmps) = true ∧ ∃ tm1, yes ⟨tm1, s.h⟩ = some r ∧ SR P w0 prot N f ⟨tm1, s.h⟩ a w) ∨
    (Region.wanted o (yielded ops a.tmps) = false ∧ ∃ tm1, no ⟨tm1, s.h⟩ = some r ∧ SR P w0 prot N f ⟨tm1, s.h⟩ (a.put o.dst undef) w) := by
  unfold guarded at hg
  split at hg
  · rename_i hgn
    exact .inl ⟨by simp [Region.wanted, hgn], s.tm, hg, hs⟩
  · rename_i j want hgs
    split at hg
    · simp at hg
    · rename_i d hd
      split at hg
      · simp at hg
      · rename_i v hv
        obtain ⟨y, hy, hvy⟩ := hs.tm.get d v hv
        have hy' : a.tmps[d]? = some y := by rw [← Array.getElem?_toList]; exact hy
        have hdst : (ops[j]?).bind (·.dst) = some d := by rw [← Array.getElem?_toList]; exact hd
        have hskip : ∀ tm1, VRs f tm1 a.tmps.toList → SR P w0 prot N f ⟨putA tm1 o.dst skipV, s.h⟩ (a.put o.dst undef) w := fun tm1 h1 => by
          have := (SR.mk (N := N) (s := ⟨tm1, s.h⟩) hs.inv h1 hs.len).put (d := o.dst) (v := skipV) (v' := undef) (Ren.le_refl f) hs.inv (Nat.le_refl _) .skipped
          simpa using this
        simp only at hg
        split at hg
        · rename_i b
          cases hvy
          have hyl : yielded ops a.tmps j = some b := by simp [yielded, hdst, hy']
          cases want <;> cases b <;> simp only [cond_true, cond_false] at hg
          · exact .inl ⟨by simp [Region.wanted, hgs, hyl], _, hg, hs.inv, hs.tm.keep hy (.bool _), hs.len⟩
          · exact .inr ⟨by simp [Region.wanted, hgs, hyl], _, hg, hskip _ (hs.tm.keep hy (.bool _))⟩
          · exact .inr ⟨by simp [Region.wanted, hgs, hyl], _, hg, hskip _ (hs.tm.keep hy (.bool _))⟩
          · exact .inl ⟨by simp [Region.wanted, hgs, hyl], _, hg, hs.inv, hs.tm.keep hy (.bool _), hs.len⟩
        · cases hvy with
          | tuple xs xs' h hl => exact absurd rfl hl
          | skipped =>
            have hyl : yielded ops a.tmps j = none := by simp [yielded, hdst, hy']
            exact .inr ⟨by simp [Region.wanted, hgs, hyl], _, hg, hskip _ (hs.tm.keep hy .skipped)⟩
        · simp at hg

theorem opC_sim {o : Oper} {tm : List Value} {a : Act} {f : Ren} {g : FuncId} {xs : List Value} {w : World} (hc : opC tm o.op = some (g, xs)) (ht : VRs f tm a.tmps.toList) (hf : FnOk P g) :
    ∃ xs' : Array Value, (execOp a.eval o).run P w = .ok (.enter g xs') w ∧ VRs f xs xs'.toList := by
  cases hop : o.op <;> rw [hop] at hc <;> simp only [opC, reduceCtorEq] at hc <;> simp only [execOp, hop]
  case call c =>
    obtain ⟨callee, ⟨args⟩, ts⟩ := c
    cases callee <;> simp only [reduceCtorEq] at hc
    rename_i fo
    simp only [Option.bind_eq_some_iff] at hc
    obtain ⟨fv, hfv, vs, hvs, hc⟩ := hc
    have hv := ev_sim hfv ht
    have hargs := evs_sim ht hvs
    split at hc
    · rename_i g' first cap
      simp only [Option.some.injEq, Prod.mk.injEq] at hc
      obtain ⟨rfl, rfl⟩ := hc
      generalize hfe : Act.eval a fo = fv' at hv
      cases hv with
      | func _ _ _ xs1 ys1 h1 h2 =>
        obtain ⟨fn, e1, e2, e3⟩ := hf
        refine ⟨⟨xs1 ++ args.map a.eval ++ ys1⟩, ?_, ?_⟩
        · simp [resolve, hfe, Deferred.ofValue, invoke, callFunc, e1, e2, e3]
        · exact (h1.append hargs).append h2
    · simp at hc

theorem doOp_sim (hcall : CallOk P w0 prot call) {o : Oper} {f : Ren} {s : St} {a : Act} {w : World} {k : St → R} {K : Kt} {r : Ret × Heap} {next : Act → World → Prop} {Q : Exit → Act → World → Prop}
    (hmx : ∀ t x hi mx lo, o.op = .slice t x lo hi mx → mx ≠ none → hi ≠ none) (hty : ∀ c t, o.op = .call c → c.callee matches .builtin .clear → c.argTypes[0]? = some t → P.underlying t ≠ none)
    (hd : doOp P call none o s k K = some r) (hs : SR P w0 prot N f s a w)
    (hk : ∀ s1 a1 w1 f1, k s1 = some r → Ext s.h.length f f1 → SR P w0 prot N f1 s1 a1 w1 → a1.defers = a.defers → next a1 w1)
    (hK : ∀ v v' s1 w1 f1, K (.pan v) s1 = some r → Ext s.h.length f f1 → VR f1 v v' → SR P w0 prot N f1 s1 a w1 → Q (.panic [{ v := v', recovered := false }]) a w1) :
    o.upon P a next Q ((execOp a.eval o).run P w) := by
  unfold doOp at hd
  split at hd
  · rename_i hcl
    simp only [Option.bind_eq_some_iff] at hd
    obtain ⟨v, hv, hd⟩ := hd
    obtain ⟨v', hr, hvv⟩ := opP_sim (w := w) hcl hv hs.tm hmx
    rw [hr, Oper.upon_value]
    exact hk _ _ _ f hd (Ext.refl _ f) (hs.put (Ren.le_refl f) hs.inv (Nat.le_refl _) hvv) defers_put
  · rename_i hcl
    simp only [Option.bind_eq_some_iff] at hd
    obtain ⟨v, hv, hd⟩ := hd
    obtain ⟨v', hr, hvv⟩ := opL_sim hs.inv.sim hcl hv hs.tm
    rw [hr, Oper.upon_value]
    exact hk _ _ _ f hd (Ext.refl _ f) (hs.put (Ren.le_refl f) hs.inv (Nat.le_refl _) hvv) defers_put
  · rename_i hcl
    simp only [Option.bind_eq_some_iff] at hd
    obtain ⟨m, hm, hd⟩ := hd
    obtain ⟨v', w', hr, hmade⟩ := opA_sim (w := w) hcl hm hs.tm
    obtain ⟨f', hle, hoth, hvv, hi⟩ := hs.inv.newAt (i := s.h.length) (f_new hs.inv.sim) hmade (.inl ⟨rfl, rfl⟩)
    rw [hr, Oper.upon_value]
    exact hk _ _ _ f' hd ⟨hle, fun j hj => hoth j (by omega)⟩ (hs.put hle hi (by simp) hvv) defers_put
  · rename_i hcl
    simp only [Option.bind_eq_some_iff] at hd
    obtain ⟨m, hm, hd⟩ := hd
    have hx := opX_sim hs.inv hm hs.tm hty
    obtain ⟨xr, h'⟩ := m
    simp only at hd hx
    generalize (execOp a.eval o).run P w = R at hx
    cases hx with
    | val hf hv hi hn =>
      rw [Oper.upon_value]
      exact hk _ _ _ _ hd hf (hs.put hf.1 hi hn hv) defers_put
    | skip hi hn =>
      rw [Oper.upon_skip]
      exact hk _ _ _ f hd (Ext.refl _ f) (hs.put (Ren.le_refl f) hi hn (.any _)) defers_put
    | pan hv hi hn =>
      rw [Oper.upon_panic]
      exact hK _ _ _ _ f hd (Ext.refl _ f) hv ⟨hi, hs.tm, Nat.le_trans hs.len hn⟩
  · rename_i hcl
    simp only [Option.bind_eq_some_iff] at hd
    obtain ⟨⟨g, xs⟩, hc, hd⟩ := hd
    unfold retK at hd
    split at hd
    · rename_i v h' hres
      obtain ⟨hfn, hok⟩ := hcall g xs s.h _ hres
      obtain ⟨xs', hr, hxs⟩ := opC_sim (w := w) hc hs.tm hfn
      rw [hr, Oper.upon_enter]
      refine (hok f w xs' hs.inv hxs).mono ?_
      rintro e w' ⟨v', f', rfl, hle, hv, hi, hn⟩
      exact hk _ _ _ f' hd hle (hs.put hle.1 hi hn hv) defers_put
    · rename_i v h' hres
      obtain ⟨hfn, hok⟩ := hcall g xs s.h _ hres
      obtain ⟨xs', hr, hxs⟩ := opC_sim (w := w) hc hs.tm hfn
      rw [hr, Oper.upon_enter]
      refine (hok f w xs' hs.inv hxs).mono ?_
      rintro e w' ⟨v', f', rfl, hle, hv, hi, hn⟩
      exact hK _ _ _ _ f' hd hle hv ⟨hi, hs.tm.mono hle.1, Nat.le_trans hs.len hn⟩
    · simp at hd
  · simp at hd

/-- What an operation's form must be; asked of the code once. -/
def OperOk (P : Program) (o : Oper) : Prop :=
  (∀ t x hi mx lo, o.op = .slice t x lo hi mx → mx ≠ none → hi ≠ none) ∧ (∀ c t, o.op = .call c → c.callee matches .builtin .clear → c.argTypes[0]? = some t → P.underlying t ≠ none)

theorem runL_sim (hcall : CallOk P w0 prot call) {ops : Array Oper} {K : Kt} {r : Ret × Heap} {Q : Exit → Act → World → Prop} (hops : ∀ o, o ∈ ops.toList → OperOk P o) :
    ∀ (n i : Nat), i + n = ops.size → ∀ (s : St) (a : Act) (w : World) (f : Ren), runL P call ops.toList (ops.toList.drop i) s K = some r → SR P w0 prot N f s a w → KOk P w0 prot N K r f a.defers Q →
      wpOps P ops Q (List.range' i n) a w
  | 0, i, hn, s, a, w, f, hr, hs, hK => by
    rw [List.drop_of_length_le (by have := Array.length_toList (xs := ops); omega)] at hr
    simp only [List.range'_zero, wpOps]
    exact hK .normal .normal s a w f hr (Ext.refl _ f) .normal hs rfl
  | n + 1, i, hn, s, a, w, f, hr, hs, hK => by
    have hlt : i < ops.toList.length := by have := Array.length_toList (xs := ops); omega
    have ho : ops[i]? = some (ops.toList[i]) := by rw [← Array.getElem?_toList]; exact List.getElem?_eq_getElem hlt
    rw [List.drop_eq_getElem_cons hlt] at hr
    generalize hoe : ops.toList[i] = o at ho hr
    simp only [runL] at hr
    have hmem : o ∈ ops.toList := hoe ▸ List.getElem_mem hlt
    rw [List.range'_succ]
    simp only [wpOps, ho]
    rcases guarded_sim hr hs with ⟨hw, tm1, hy, hs1⟩ | ⟨hw, tm1, hn', hs1⟩
    · rw [if_pos hw]
      left
      refine doOp_sim hcall (hops o hmem).1 (hops o hmem).2 hy hs1 ?_ ?_
      · intro s2 a2 w2 f2 hk hle hs2 hd
        exact runL_sim hcall hops n (i + 1) (by omega) s2 a2 w2 f2 hk hs2 (by rw [hd]; exact hK.le (hle.lower hs1.len))
      · intro v v' s2 w2 f2 hk hle hv hs2
        exact hK _ _ s2 a w2 f2 hk (hle.lower hs1.len) (.pan v v' hv) hs2 rfl
    · rw [if_neg (by rw [hw]; simp)]
      exact runL_sim hcall hops n (i + 1) (by omega) _ _ w f hn' hs1 (by rw [defers_put]; exact hK)

theorem maskGo_VRs {f : Ren} (l : List Nat) : ∀ (i : Nat) {tm ys : List Value}, VRs f tm ys → VRs f (maskGo l i tm) ys
  | i, [], ys, h => by cases h; exact .nil
  | i, v :: vs, ys, h => by
    cases h with
    | cons hv t =>
      simp only [maskGo]
      cases l.elem i with
      | true => exact .cons hv (maskGo_VRs l (i + 1) t)
      | false => exact .cons (.any _) (maskGo_VRs l (i + 1) t)
theorem SR.mask {f : Ren} {s : St} {a : Act} {w : World} (h : SR P w0 prot N f s a w) (l : Option (List Nat)) : SR P w0 prot N f (maskS l s) a w := by
  cases l with
  | none => exact h
  | some l => exact ⟨h.inv, maskGo_VRs l 0 h.tm, h.len⟩
end
end Go.Am

namespace Go.Am
open Go

structure Hist where
  ls : List (Nat × Nat × Option Blk)
  xs : List (Nat × Heap)
theorem set_self {l : List Value} {d : Nat} {v : Value} (h : l[d]? = some v) : l.set d v = l := by
  apply List.ext_getElem?
  intro i
  by_cases hi : i = d
  · subst hi
    rw [List.getElem?_set_self (List.getElem?_eq_some_iff.1 h).1, h]
  · rw [List.getElem?_set_ne (fun e => hi e.symm)]

inductive GSt (ops : List Oper) (o : Oper) (tm : List Value) : Bool → Prop where
  | free (h : o.guard = none) : GSt ops o tm true
  | test {j : Nat} {want : Bool} {d : Tmp} {c : Bool} (h : o.guard = some (j, want)) (hd : (ops[j]?).bind (·.dst) = some d) (hc : tm[d]? = some (.bool c)) : GSt ops o tm (c == want)
  | off {j : Nat} {want : Bool} {d : Tmp} (h : o.guard = some (j, want)) (hd : (ops[j]?).bind (·.dst) = some d) (hc : tm[d]? = some skipV) : GSt ops o tm false

theorem guarded_inv {ops : List Oper} {o : Oper} {s : St} {yes no : St → R} {r : Ret × Heap} (h : guarded ops o s yes no = some r) :
    (GSt ops o s.tm true ∧ yes s = some r) ∨ (GSt ops o s.tm false ∧ no ⟨putA s.tm o.dst skipV, s.h⟩ = some r) := by
  unfold guarded at h
  split at h
  · rename_i hg; exact .inl ⟨.free hg, h⟩
  · rename_i j want hg
    split at h
    · simp at h
    · rename_i d hd
      split at h
      · simp at h
      · rename_i v hv
        simp only at h
        split at h
        · rename_i b
          have hs := set_self hv
          cases want <;> cases b <;> simp only [cond_true, cond_false, Bool.not_true, Bool.not_false, hs] at h
          · exact .inl ⟨.test hg hd hv, h⟩
          · exact .inr ⟨.test hg hd hv, h⟩
          · exact .inr ⟨.test hg hd hv, h⟩
          · exact .inl ⟨.test hg hd hv, h⟩
        · have hs := set_self (v := skipV) hv
          rw [hs] at h
          exact .inr ⟨.off hg hd hv, h⟩
        · simp at h
theorem guarded_of {ops : List Oper} {o : Oper} {s : St} {yes no : St → R} {r : Ret × Heap} {b : Bool} (hg : GSt ops o s.tm b) (hy : b = true → yes s = some r) (hn : b = false → no ⟨putA s.tm o.dst skipV, s.h⟩ = some r) : guarded ops o s yes no = some r := by
  unfold guarded
  cases hg with
  | free h => rw [h]; exact hy rfl
  | @test j want d c h hd hc =>
    rw [h]
    simp only [hd, hc]
    have hs := set_self hc
    cases want <;> cases c <;> simp only [cond_true, cond_false, Bool.not_true, Bool.not_false, hs]
    · exact hy rfl
    · exact hn rfl
    · exact hn rfl
    · exact hy rfl
  | off h hd hc =>
    rw [h]
    simp only [hd, hc, skipV]
    have hs := set_self hc
    rw [show (Value.tuple ⟨[.bool false]⟩) = skipV from rfl, hs]
    exact hn rfl

/-- An operation that acts: whether it panics, what it hands back, the memory behind it. -/
inductive Acts (P : Program) (call : CallF) (o : Oper) (tm : List Value) (h : Heap) : Option Value → Value → Heap → Prop where
  | val {v : Value} {h' : Heap} (hc : cls P o.op = .X) (hx : opX P tm h o.op = some (.val v, h')) : Acts P call o tm h none v h'
  | skip {h' : Heap} (hc : cls P o.op = .X) (hx : opX P tm h o.op = some (.skip, h')) : Acts P call o tm h none undefA h'
  | pan {v : Value} {h' : Heap} (hc : cls P o.op = .X) (hx : opX P tm h o.op = some (.pan v, h')) : Acts P call o tm h (some v) undefA h'
  | ret {g : FuncId} {xs : List Value} {v : Value} {h' : Heap} (hc : cls P o.op = .C) (hx : opC tm o.op = some (g, xs)) (hr : call g xs h = some (.ret v, h')) : Acts P call o tm h none v h'
  | thrown {g : FuncId} {xs : List Value} {v : Value} {h' : Heap} (hc : cls P o.op = .C) (hx : opC tm o.op = some (g, xs)) (hr : call g xs h = some (.pan v, h')) : Acts P call o tm h (some v) undefA h'
def outTm (o : Oper) (fl : Option Value) (tm : List Value) (v : Value) : List Value :=
  match fl with
  | none => putA tm o.dst v
  | some _ => tm
theorem Acts.loud {P : Program} {call : CallF} {o : Oper} {tm : List Value} {h h' : Heap} {fl : Option Value} {v : Value} (ha : Acts P call o tm h fl v h') : loud (cls P o.op) = true := by
  cases ha <;> simp_all [Am.loud]

theorem doOp_acts {P : Program} {call : CallF} {o : Oper} {s : St} {k : St → R} {K : Kt} {r : Ret × Heap} (hl : loud (cls P o.op) = true) (h : doOp P call none o s k K = some r) :
    ∃ fl v h', Acts P call o s.tm s.h fl v h' ∧ (match fl with | none => k ⟨outTm o none s.tm v, h'⟩ | some u => K (.pan u) ⟨s.tm, h'⟩) = some r := by
  unfold doOp at h
  split at h <;> rename_i hc <;> try (rw [hc] at hl; simp [loud] at hl; done)
  · simp only [Option.bind_eq_some_iff] at h
    obtain ⟨⟨x, h'⟩, hx, h⟩ := h
    cases x with
    | val v => exact ⟨none, v, h', .val hc hx, h⟩
    | skip => exact ⟨none, undefA, h', .skip hc hx, h⟩
    | pan v => exact ⟨some v, undefA, h', .pan hc hx, h⟩
  · simp only [Option.bind_eq_some_iff] at h
    obtain ⟨⟨g, xs⟩, hx, h⟩ := h
    unfold retK at h
    split at h
    · rename_i v h' hr; exact ⟨none, v, h', .ret hc hx hr, h⟩
    · rename_i v h' hr; exact ⟨some v, undefA, h', .thrown hc hx hr, h⟩
    · simp at h
theorem doOp_of_acts {P : Program} {call : CallF} {o : Oper} {s : St} {k : St → R} {K : Kt} {r : Ret × Heap} {fl : Option Value} {v : Value} {h' : Heap} (ha : Acts P call o s.tm s.h fl v h')
    (h : (match fl with | none => k ⟨outTm o none s.tm v, h'⟩ | some u => K (.pan u) ⟨s.tm, h'⟩) = some r) : doOp P call none o s k K = some r := by
  cases ha with
  | val hc hx => unfold doOp; rw [hc]; simp only [hx, Option.bind_some]; exact h
  | skip hc hx => unfold doOp; rw [hc]; simp only [hx, Option.bind_some]; exact h
  | pan hc hx => unfold doOp; rw [hc]; simp only [hx, Option.bind_some]; exact h
  | ret hc hx hr => unfold doOp; rw [hc]; simp only [hx, Option.bind_some, hr, retK]; exact h
  | thrown hc hx hr => unfold doOp; rw [hc]; simp only [hx, Option.bind_some, hr, retK]; exact h

section
variable (P : Program) (call : CallF) (ops : List Oper) (T : List (List Nat)) (base : Nat)
/-- An operation that asks nothing of memory and leaves it as it is. -/
inductive Quiet (i : Nat) (tm : List Value) : Value → Prop where
  | skip {o : Oper} (ho : ops[i]? = some o) (hg : GSt ops o tm false) : Quiet i tm skipV
  | pure {o : Oper} {v : Value} (ho : ops[i]? = some o) (hg : GSt ops o tm true) (hc : cls P o.op = .P) (hv : opP P tm o.op = some v) : Quiet i tm v
  | look {o : Oper} {v : Value} (ho : ops[i]? = some o) (hg : GSt ops o tm true) (hc : cls P o.op = .L) (hr : readId tm o.op = none) (hv : ∀ h, opL P tm h o.op = some v) : Quiet i tm v
def dstAt (i : Nat) : Option Tmp := (ops[i]?).bind (·.dst)
/-- One step, but for the slot that it fills. -/
inductive HStep (i : Nat) (tm : List Value) (H : Hist) (h : Heap) : Option Value → Value → Heap → Hist → Prop where
  | quiet {v : Value} (hq : Quiet P ops i tm v) : HStep i tm H h none v h H
  | make {o : Oper} {m : Blk × (Nat → Value)} (ho : ops[i]? = some o) (hg : GSt ops o tm true) (hc : cls P o.op = .A) (hm : opA P tm o.op = some m) :
      HStep i tm H h none (m.2 (base + slotOf P ops i)) (h.set (base + slotOf P ops i) m.1) H
  | read {o : Oper} {v : Value} {b : Nat} (ho : ops[i]? = some o) (hg : GSt ops o tm true) (hc : cls P o.op = .L) (hr : readId tm o.op = some b) (hv : opL P tm h o.op = some v)
      (hb : b ∉ slotsFree P ops T base i) (hk : ∀ x, x ∈ H.xs → isAnc T x.1 i = true ∨ x.2[b]? = h[b]?) : HStep i tm H h none v h { H with ls := (i, b, h[b]?) :: H.ls }
  | act {o : Oper} {fl : Option Value} {v : Value} {h' : Heap} (ho : ops[i]? = some o) (hg : GSt ops o tm true) (ha : Acts P call o tm h fl v h')
      (hk : ∀ x, x ∈ H.ls → isAnc T x.1 i = true ∨ h'[x.2.1]? = x.2.2) : HStep i tm H h fl v h' { H with xs := (i, h) :: H.xs }
def outD (d : Option Tmp) (fl : Option Value) (tm : List Value) (v : Value) : List Value :=
  match fl with
  | none => putA tm d v
  | some _ => tm
def nextRest (i : Nat) (fl : Option Value) (rest : List Nat) : List Nat :=
  match fl with
  | none => rest
  | some _ => rest.filter fun j => !isAnc T i j
def nextPend (fl pend : Option Value) : Option Value :=
  match fl with
  | none => pend
  | some v => some v
inductive RD (K : Kt) (r : Ret × Heap) : List Nat → Option Value → Hist → List Value → Heap → Prop where
  | done {H : Hist} {tm : List Value} {h : Heap} (hk : K .normal ⟨tm, h⟩ = some r) : RD K r [] none H tm h
  | donep {v : Value} {H : Hist} {tm : List Value} {h : Heap} (hk : K (.pan v) (panSt base (nSlots P ops) ⟨tm, h⟩) = some r) : RD K r [] (some v) H tm h
  | step {i : Nat} {rest : List Nat} {pend fl : Option Value} {H H' : Hist} {tm : List Value} {v : Value} {h h' : Heap} (hs : HStep P call ops T base i tm H h fl v h' H')
      (hr : RD K r (nextRest T i fl rest) (nextPend fl pend) H' (outD (dstAt ops i) fl tm v) h') : RD K r (i :: rest) pend H tm h
end

theorem chkOld_inv : ∀ {l : List Nat} {b : Nat} {k : R} {r : Ret × Heap}, chkOld l b k = some r → b ∉ l ∧ k = some r
  | [], b, k, r, h => ⟨by simp, h⟩
  | q :: l, b, k, r, h => by
    simp only [chkOld] at h
    split at h
    · simp at h
    · rename_i hne
      obtain ⟨h1, h2⟩ := chkOld_inv h
      exact ⟨by simp [hne, h1], h2⟩
theorem chkOld_of : ∀ {l : List Nat} {b : Nat} {k : R} {r : Ret × Heap}, b ∉ l → k = some r → chkOld l b k = some r
  | [], b, k, r, _, h => h
  | q :: l, b, k, r, hb, h => by
    simp only [List.mem_cons, not_or] at hb
    simp only [chkOld]
    rw [if_neg hb.1]
    exact chkOld_of hb.2 h
theorem chkReads_inv : ∀ {ys : List Heap} {b : Nat} {h : Heap} {k : R} {r : Ret × Heap}, chkReads ys b h k = some r → (∀ y : Heap, y ∈ ys → y[b]? = h[b]?) ∧ k = some r
  | [], b, h, k, r, hk => ⟨fun y hy => by simp at hy, hk⟩
  | y :: ys, b, h, k, r, hk => by
    simp only [chkReads] at hk
    split at hk
    · rename_i he
      obtain ⟨h1, h2⟩ := chkReads_inv hk
      refine ⟨fun z hz => ?_, h2⟩
      rcases List.mem_cons.1 hz with rfl | hz
      · exact he
      · exact h1 z hz
    · simp at hk
theorem chkReads_of : ∀ {ys : List Heap} {b : Nat} {h : Heap} {k : R} {r : Ret × Heap}, (∀ y : Heap, y ∈ ys → y[b]? = h[b]?) → k = some r → chkReads ys b h k = some r
  | [], b, h, k, r, _, hk => hk
  | y :: ys, b, h, k, r, hy, hk => by
    simp only [chkReads]
    rw [if_pos (hy y List.mem_cons_self)]
    exact chkReads_of (fun z hz => hy z (List.mem_cons_of_mem _ hz)) hk
theorem chkRd_inv {l : List Nat} {ys : List Heap} {h : Heap} {k : R} {rid : Option Nat} {r : Ret × Heap} (hk : chkRd l ys h k rid = some r) : k = some r ∧ ∀ b, rid = some b → b ∉ l ∧ ∀ y : Heap, y ∈ ys → y[b]? = h[b]? := by
  unfold chkRd at hk
  split at hk
  · exact ⟨hk, fun b _ => ⟨by simp, by simp⟩⟩
  · exact ⟨hk, fun b hb => by simp at hb⟩
  · obtain ⟨h1, h2⟩ := chkReads_inv hk
    exact ⟨h2, fun b hb => by cases hb; exact ⟨by simp, h1⟩⟩
  · exact ⟨hk, fun b hb => by simp at hb⟩
  · obtain ⟨h0, h3⟩ := chkOld_inv hk
    obtain ⟨h1, h2⟩ := chkReads_inv h3
    exact ⟨h2, fun b hb => by cases hb; exact ⟨h0, h1⟩⟩
theorem chkRd_of {l : List Nat} {ys : List Heap} {h : Heap} {k : R} {rid : Option Nat} {r : Ret × Heap} (hk : k = some r) (hb : ∀ b, rid = some b → b ∉ l ∧ ∀ y : Heap, y ∈ ys → y[b]? = h[b]?) : chkRd l ys h k rid = some r := by
  unfold chkRd
  split
  · exact hk
  · exact hk
  · exact chkReads_of (hb _ rfl).2 hk
  · exact hk
  · exact chkOld_of (hb _ rfl).1 (chkReads_of (hb _ rfl).2 hk)
theorem chkActs_inv : ∀ {l : List (Option Nat × Heap)} {h : Heap} {k : R} {r : Ret × Heap}, chkActs l h k = some r → (∀ x : Option Nat × Heap, x ∈ l → ∀ b, x.1 = some b → h[b]? = x.2[b]?) ∧ k = some r
  | [], h, k, r, hk => ⟨fun x hx => by simp at hx, hk⟩
  | (none, y) :: l, h, k, r, hk => by
    simp only [chkActs] at hk
    obtain ⟨h1, h2⟩ := chkActs_inv hk
    refine ⟨fun x hx b hb => ?_, h2⟩
    rcases List.mem_cons.1 hx with rfl | hx
    · simp at hb
    · exact h1 x hx b hb
  | (some c, y) :: l, h, k, r, hk => by
    simp only [chkActs] at hk
    split at hk
    · rename_i he
      obtain ⟨h1, h2⟩ := chkActs_inv hk
      refine ⟨fun x hx b hb => ?_, h2⟩
      rcases List.mem_cons.1 hx with rfl | hx
      · cases hb; exact he
      · exact h1 x hx b hb
    · simp at hk
theorem chkActs_of : ∀ {l : List (Option Nat × Heap)} {h : Heap} {k : R} {r : Ret × Heap}, (∀ x : Option Nat × Heap, x ∈ l → ∀ b, x.1 = some b → h[b]? = x.2[b]?) → k = some r → chkActs l h k = some r
  | [], h, k, r, _, hk => hk
  | (none, y) :: l, h, k, r, hx, hk => by
    simp only [chkActs]
    exact chkActs_of (fun x h => hx x (List.mem_cons_of_mem _ h)) hk
  | (some c, y) :: l, h, k, r, hx, hk => by
    simp only [chkActs]
    rw [if_pos (hx _ List.mem_cons_self c rfl)]
    exact chkActs_of (fun x h => hx x (List.mem_cons_of_mem _ h)) hk
/-- What a drawn run has kept, as the steps' own memory. -/
def histOf (H : DH) : Hist := ⟨H.ls.filterMap fun x => x.2.1.map fun b => (x.1, b, x.2.2[b]?), H.xs⟩
theorem mem_readsOf {T : List (List Nat)} {i : Nat} {H : DH} {h : Heap} : (∀ x : Option Nat × Heap, x ∈ readsOf T i H → ∀ b, x.1 = some b → h[b]? = x.2[b]?) ↔ ∀ x : Nat × Nat × Option Blk, x ∈ (histOf H).ls → isAnc T x.1 i = true ∨ h[x.2.1]? = x.2.2 := by
  constructor
  · intro hx x hm
    obtain ⟨y, hy, he⟩ := List.mem_filterMap.1 hm
    obtain ⟨b, hb, rfl⟩ := Option.map_eq_some_iff.1 he
    cases ha : isAnc T y.1 i with
    | true => exact .inl rfl
    | false => exact .inr (hx y.2 (List.mem_map.2 ⟨y, List.mem_filter.2 ⟨hy, by simp [ha]⟩, rfl⟩) b hb)
  · intro hx x hm b hb
    obtain ⟨y, hy, rfl⟩ := List.mem_map.1 hm
    obtain ⟨hy, hna⟩ := List.mem_filter.1 hy
    have := hx (y.1, b, y.2.2[b]?) (List.mem_filterMap.2 ⟨y, hy, by rw [hb]; rfl⟩)
    refine this.resolve_left ?_
    simpa using hna
theorem mem_actsOf {T : List (List Nat)} {i b : Nat} {H : DH} {h : Heap} : (∀ y : Heap, y ∈ actsOf T i H → y[b]? = h[b]?) ↔ ∀ x : Nat × Heap, x ∈ (histOf H).xs → isAnc T x.1 i = true ∨ x.2[b]? = h[b]? := by
  constructor
  · intro hy x hm
    cases ha : isAnc T x.1 i with
    | true => exact .inl rfl
    | false => exact .inr (hy x.2 (List.mem_map.2 ⟨x, List.mem_filter.2 ⟨hm, by simp [ha]⟩, rfl⟩))
  · intro hx y hm
    obtain ⟨x, hxm, rfl⟩ := List.mem_map.1 hm
    obtain ⟨hxm, hna⟩ := List.mem_filter.1 hxm
    exact (hx x hxm).resolve_left (by simpa using hna)
theorem aLookup_block {P : Program} {t : TypeId} {h h' : Heap} {r : Nat} {k : Value} {ok : Bool} (he : h'[r]? = h[r]?) : aLookup P t h' (.map (some r)) k ok = aLookup P t h (.map (some r)) k ok := by
  unfold aLookup
  cases hu : P.underlying t with
  | none => rfl
  | some d =>
    cases d <;> first | rfl | (simp only; rw [he])
theorem opL_none {P : Program} {tm : List Value} {op : Op} {h : Heap} {v : Value} (hr : readId tm op = none) (hv : opL P tm h op = some v) : ∀ h', opL P tm h' op = some v := by
  intro h'
  cases op <;> simp only [opL, readId, reduceCtorEq] at hr hv ⊢
  case load t a =>
    simp only [Option.bind_eq_some_iff] at hv
    obtain ⟨x, hx, hv⟩ := hv
    rw [hx] at hr
    cases x <;> simp only [aLoad, reduceCtorEq] at hv
    rename_i a0
    cases a0 <;> simp_all [blkOf]
  case convert s d x =>
    simp only [Option.bind_eq_some_iff] at hv ⊢
    obtain ⟨xv, hx, hv⟩ := hv
    refine ⟨xv, hx, ?_⟩
    rw [hx] at hr
    cases xv <;> try (simp [aBytesStr] at hv; done)
    rename_i a0 n c
    cases a0 with
    | none => cases n <;> simp_all [aBytesStr]
    | some q => simp [blkOf] at hr
  case lookup t m k ok =>
    simp only [Option.bind_eq_some_iff] at hv
    obtain ⟨mv, hm, kv, hk, hv⟩ := hv
    rw [hm] at hr
    unfold aLookup at hv
    split at hv
    · simp [blkOf] at hr
    · simp at hv
  case call c =>
    obtain ⟨callee, ⟨args⟩, ⟨ts⟩⟩ := c
    simp only at hv hr
    rcases args with _ | ⟨x, _ | ⟨y, l⟩⟩ <;> rcases ts with _ | ⟨t, ts⟩ <;> simp only [reduceCtorEq] at hv
    simp only [Option.bind_eq_some_iff] at hv
    obtain ⟨xv, hx, hv⟩ := hv
    simp only [hx, Option.bind_some] at hr
    cases xv <;> simp only [aLenM, reduceCtorEq] at hv
    rename_i a0
    cases a0 <;> simp_all [blkOf, aLenM]
theorem opL_block {P : Program} {tm : List Value} {op : Op} {h h' : Heap} {b : Nat} (hr : readId tm op = some b) (he : h'[b]? = h[b]?) : opL P tm h' op = opL P tm h op := by
  cases op <;> simp only [opL, readId, reduceCtorEq] at hr ⊢
  case load t a =>
    simp only [Option.bind_eq_some_iff] at hr
    obtain ⟨x, hx, hr⟩ := hr
    rw [hx]
    cases x <;> simp only [blkOf, reduceCtorEq] at hr
    all_goals try (simp [aLoad]; done)
    rename_i a0
    rcases a0 with _ | ⟨b0, o, sp⟩
    · simp [blkOf] at hr
    · simp [blkOf] at hr
      subst hr
      cases sp <;> simp [aLoad, he]
  case convert s d x =>
    simp only [Option.bind_eq_some_iff] at hr
    obtain ⟨xv, hx, hr⟩ := hr
    rw [hx]
    cases xv <;> simp only [blkOf, reduceCtorEq] at hr
    all_goals try (simp [aBytesStr]; done)
    rename_i a0 n c
    rcases a0 with _ | ⟨b0, o, sp⟩
    · simp [blkOf] at hr
    · simp [blkOf] at hr
      subst hr
      cases sp <;> simp [aBytesStr, he]
  case lookup t m k ok =>
    simp only [Option.bind_eq_some_iff] at hr
    obtain ⟨mv, hm, hr⟩ := hr
    rw [hm]
    cases mv <;> simp only [blkOf, reduceCtorEq] at hr
    all_goals try (simp [aLookup]; done)
    rename_i r
    cases r <;> simp [blkOf] at hr
    subst hr
    simp only [Option.bind_some]
    congr 1
    funext k
    exact aLookup_block he
  case call c =>
    obtain ⟨callee, ⟨args⟩, ⟨ts⟩⟩ := c
    simp only at hr ⊢
    rcases args with _ | ⟨x, _ | ⟨y, l⟩⟩ <;> rcases ts with _ | ⟨t, ts⟩ <;> simp only [reduceCtorEq] at hr ⊢
    simp only [Option.bind_eq_some_iff] at hr
    obtain ⟨xv, hx, hr⟩ := hr
    rw [hx]
    cases xv <;> simp only [blkOf, reduceCtorEq] at hr
    all_goals try (simp [aLenM]; done)
    rename_i r
    cases r <;> simp [blkOf] at hr
    subst hr
    simp [aLenM, he]
theorem opL_live {P : Program} {tm : List Value} {op : Op} {h : Heap} {b : Nat} {v : Value} (hr : readId tm op = some b) (hv : opL P tm h op = some v) : h[b]? ≠ some deadBlk := by
  cases op <;> simp only [opL, readId, reduceCtorEq] at hr hv
  case load t a =>
    simp only [Option.bind_eq_some_iff] at hr hv
    obtain ⟨x, hx, hr⟩ := hr
    obtain ⟨x', hx', hv⟩ := hv
    rw [hx] at hx'
    simp at hx'; subst hx'
    intro hd
    cases x <;> simp only [aLoad, reduceCtorEq] at hv
    rename_i a0
    rcases a0 with _ | ⟨b0, o, sp⟩
    · simp at hv
    · cases sp <;> simp only [reduceCtorEq] at hv
      simp [blkOf] at hr
      subst hr
      rw [hd] at hv
      simp [deadBlk] at hv
  case convert s d x =>
    simp only [Option.bind_eq_some_iff] at hr hv
    obtain ⟨xv, hx, hr⟩ := hr
    obtain ⟨xv', hx', hv⟩ := hv
    rw [hx] at hx'
    simp at hx'; subst hx'
    intro hd
    cases xv <;> try (simp [aBytesStr] at hv; done)
    rename_i a0 n c
    rcases a0 with _ | ⟨b0, o, sp⟩
    · simp [blkOf] at hr
    · cases sp
      · simp [blkOf] at hr
        subst hr
        simp [aBytesStr, hd, deadBlk] at hv
      · simp [aBytesStr] at hv
  case lookup t m k ok =>
    simp only [Option.bind_eq_some_iff] at hr hv
    obtain ⟨mv, hm, hr⟩ := hr
    obtain ⟨mv', hm', kv, hk, hv⟩ := hv
    rw [hm] at hm'
    simp at hm'; subst hm'
    intro hd
    unfold aLookup at hv
    split at hv
    · simp [blkOf] at hr
      subst hr
      rw [hd] at hv
      simp [deadBlk] at hv
    · simp at hv
  case call c =>
    obtain ⟨callee, ⟨args⟩, ⟨ts⟩⟩ := c
    simp only at hv hr
    rcases args with _ | ⟨x, _ | ⟨y, l⟩⟩ <;> rcases ts with _ | ⟨t, ts⟩ <;> simp only [reduceCtorEq] at hv
    simp only [Option.bind_eq_some_iff] at hv hr
    obtain ⟨xv, hx, hv⟩ := hv
    obtain ⟨xv', hx', hr⟩ := hr
    rw [hx] at hx'
    simp at hx'; subst hx'
    intro hd
    cases xv <;> simp only [aLenM, reduceCtorEq] at hv
    rename_i a0
    cases a0 <;> simp only [aLenM, reduceCtorEq] at hv
    simp [blkOf] at hr
    subst hr
    rw [hd] at hv
    split at hv
    · rename_i hq; simp [deadBlk] at hq
    · simp at hv
end Go.Am
