/- An abstract machine that the model follows; its rules. -/
import Derived.Test.YtmdffenlehcekaaKa2
import Derived.Calls
import Derived.LoopN
import Derived.Scope
import Derived.Laws.World
import Derived.Laws.Sem
import Derived.Below
import Derived.KernelRfl
import Derived.Laws.Slices
import Derived.Orders
import Derived.Laws.StructEq
import Derived.ChangeArms
import Derived.DataReads
import Derived.SizedLaws
set_option linter.unusedVariables false
set_option linter.unusedSimpArgs false
namespace Go.Am
open Go

/-- A memory that only what came in is in. -/
structure In (P : Program) (W : World) (f : Ren) (h : Heap) : Prop where
  dom : ∀ i p, f i = some p → i < h.length
  blk : ∀ i b, h[i]? = some b → BlkR P f W i b ∧ b.own = false
theorem In.nil {P : Program} {W : World} : In P W (fun _ => none) [] := ⟨fun i p h => by simp at h, fun i b h => by simp at h⟩
theorem BlkR.le {P : Program} {f g : Ren} {W : World} {i : Nat} {b : Blk} (hfg : f.le g) (h : BlkR P f W i b) : BlkR P g W i b := by
  unfold BlkR at h ⊢
  split at h
  · trivial
  · obtain ⟨p, cc, e', fz, h1, h2, h3, h4⟩ := h
    exact ⟨p, cc, e', fz, hfg _ _ h1, h2, fun j v hj => by obtain ⟨v', q1, q2, q3⟩ := h3 j v hj; exact ⟨v', q1, q2.mono hfg, q3⟩, h4⟩
  · obtain ⟨p, es', clock, h1, h2, h3⟩ := h
    exact ⟨p, es', clock, hfg _ _ h1, h2, h3.mono hfg⟩
/-- One more block that came in. -/
theorem In.push {P : Program} {W : World} {f : Ren} {h : Heap} (hi : In P W f h) {e : TypeId} {cs : List Value} {p : Place} {cc : Array Value} {e' : TypeId} {fz : Nat × Nat} (hw : W.heap[p.blk]? = some (.cells cc e' fz))
    (hc : ∀ j v, cs[j]? = some v → ∃ v', cc[p.off + j]? = some v' ∧ VR f v v' ∧ v'.oneCell' = true) :
    In P W (fun i => if i = h.length then some p else f i) (h ++ [⟨.cells e cs, false⟩]) ∧ Ext h.length f (fun i => if i = h.length then some p else f i) := by
  have hle : f.le (fun i => if i = h.length then some p else f i) := by
    intro i q hq
    have := hi.dom i q hq
    show (if i = h.length then some p else f i) = some q
    rw [if_neg (by omega)]
    exact hq
  refine ⟨⟨fun i q hq => ?_, fun i b hb => ?_⟩, hle, fun i hi' => by show (if i = h.length then some p else f i) = f i; rw [if_neg (by omega)]⟩
  · rw [List.length_append, List.length_singleton]
    split at hq
    · omega
    · have := hi.dom i q hq; omega
  · by_cases hlt : i < h.length
    · rw [List.getElem?_append_left hlt] at hb
      exact ⟨(hi.blk i b hb).1.le hle, (hi.blk i b hb).2⟩
    · rw [List.getElem?_append_right (by omega)] at hb
      have he : i = h.length := by
        have := (List.getElem?_eq_some_iff.1 hb).1
        simp at this
        omega
      subst he
      simp at hb
      subst hb
      refine ⟨?_, rfl⟩
      refine ⟨p, cc, e', fz, by simp, hw, fun j v hj => ?_, fun h => by simp at h⟩
      obtain ⟨v', q1, q2, q3⟩ := hc j v hj
      exact ⟨v', q1, q2.mono hle, q3⟩

section
variable {H : Type} {enc : TypeId × Value → H} {P : Program} {W : World} {α β : Type}
/-- What came in of such a type can be told to the machine. -/
def Enter (enc : TypeId × Value → H) (P : Program) (W : World) (A : Rp α) (t : TypeId) : Prop :=
  ∀ (n : Nat) (cs' : List Value) (x : DataW H × List MemPlace) (f : Ren) (h : Heap), In P W f h → DataW.trod enc P W 0 (fun _ => true) true n t cs' = some x → (∀ k, k ∈ x.1.weights P t → k ≤ reachBytes) →
    ∃ f' more cs a, In P W f' (h ++ more) ∧ Ext h.length f f' ∧ VRs f' cs cs' ∧ A.rep (fun _ => True) (h ++ more) cs a ∧ ∀ y, y ∈ cs' → y.oneCell' = true
theorem inK_of_wf {k : IntKind} {n : Int} (h : (Lit.int k n).wf = true) : inK k n := by
  cases k <;> simp [Lit.wf, IntKind.signed, IntKind.bits, IntKind.min, IntKind.max, inK] at h ⊢ <;> omega
theorem enter_int {k : IntKind} {t : TypeId} (ht : P.underlying t = some (.int k)) : Enter enc P W (rI k) t := by
  intro n cs' x f h hi hx _
  obtain ⟨m, rfl, rfl, hw⟩ := DataW.trod_int ht hx
  refine ⟨f, [], [.int k m], m, by simpa using hi, Ext.refl _ _, .cons (.int _ _) .nil, ⟨rfl, inK_of_wf hw⟩, fun y hy => ?_⟩
  simp at hy; subst hy; rfl
theorem enter_bool {t : TypeId} (ht : P.underlying t = some .bool) : Enter enc P W rB t := by
  intro n cs' x f h hi hx _
  obtain ⟨m, rfl, rfl⟩ := DataW.trod_bool ht hx
  refine ⟨f, [], [.bool m], m, by simpa using hi, Ext.refl _ _, .cons (.bool _) .nil, rfl, fun y hy => ?_⟩
  simp at hy; subst hy; rfl
theorem enter_string {t : TypeId} (ht : P.underlying t = some .string) : Enter enc P W rS t := by
  intro n cs' x f h hi hx hs
  obtain ⟨s, rfl, rfl, hw⟩ := DataW.trod_string ht hx
  refine ⟨f, [], [.string s], s, by simpa using hi, Ext.refl _ _, .cons (.string _) .nil, ⟨rfl, ?_⟩, fun y hy => ?_⟩
  · have := hs s.size (by simp [DataW.weights])
    simp [reachBytes] at this
    omega
  · simp at hy; subst hy; rfl
/-- Something else is told of the same. -/
theorem enter_M {A : Rp α} {B : Rp β} {t : TypeId} (hA : Enter enc P W A t) (hB : ∀ S h cs a, A.rep S h cs a → ∃ b, B.rep S h cs b) : Enter enc P W B t := by
  intro n cs' x f h hi hx hs
  obtain ⟨f', more, cs, a, h1, h2, h3, h4, h5⟩ := hA n cs' x f h hi hx hs
  obtain ⟨b, hb⟩ := hB _ _ _ _ h4
  exact ⟨f', more, cs, b, h1, h2, h3, hb, h5⟩

/-! ### structs -/
def EnterFs (enc : TypeId × Value → H) (P : Program) (W : World) (A : Rp α) (fs : List Field) (o : Nat) : Prop :=
  ∀ (n : Nat) (cs' : List Value) (xs : List (DataW H × List MemPlace)) (f : Ren) (h : Heap), In P W f h → xs.length = fs.length →
    (∀ (i : Nat) (fl : Field), fs[i]? = some fl → DataW.trod enc P W 0 (fun _ => true) true n fl.type ((cs'.drop fl.offset).take (P.cellsOf fl.type)) = xs[i]?) →
    (∀ k, k ∈ DataW.weightsEach P (fs.map (·.type)) (xs.map (·.1)) → k ≤ reachBytes) → cs'.length = o + (fs.map fun fl => P.cellsOf fl.type).sum →
    ∃ f' more cs a, In P W f' (h ++ more) ∧ Ext h.length f f' ∧ VRs f' cs (cs'.drop o) ∧ A.rep (fun _ => True) (h ++ more) cs a ∧ ∀ y, y ∈ cs'.drop o → y.oneCell' = true
theorem get_app {h more : Heap} {b : Nat} {X : Blk} (hb : h[b]? = some X) : (h ++ more)[b]? = some X := by
  rw [List.getElem?_append_left (get_lt hb)]; exact hb
theorem Rp.app (A : Rp α) {S : Nat → Prop} {h more : Heap} {cs : List Value} {x : α} (hr : A.rep S h cs x) : A.rep S (h ++ more) cs x := A.mono (fun b X hs hb => ⟨get_app hb, hs⟩) hr
theorem enterFs_one {A : Rp α} {fl : Field} (hA : Enter enc P W A fl.type) : EnterFs enc P W A [fl] fl.offset := by
  intro n cs' xs f h hi hl hx hs hlen
  obtain ⟨x, rfl⟩ := List.length_eq_one_iff.1 hl
  have h0 := hx 0 fl rfl
  simp only [List.map_cons, List.map_nil, List.sum_cons, List.sum_nil] at hlen
  rw [List.take_of_length_le (by simp; omega)] at h0
  exact hA n _ x f h hi h0 fun k hk => hs k (by simpa [DataW.weightsEach] using hk)
theorem enterFs_cons {A : Rp α} {B : Rp β} {fl : Field} {fs : List Field} (hA : Enter enc P W A fl.type) (hB : EnterFs enc P W B fs (fl.offset + P.cellsOf fl.type)) : EnterFs enc P W (rP A B) (fl :: fs) fl.offset := by
  intro n cs' xs f h hi hl hx hs hlen
  cases xs with
  | nil => simp at hl
  | cons x xs =>
    have h0 := hx 0 fl rfl
    simp only [List.map_cons, List.sum_cons, DataW.weightsEach, List.mem_append] at hlen hs
    obtain ⟨f1, m1, c1, a1, q1, q2, q3, q4, q5⟩ := hA n _ x f h hi h0 fun k hk => hs k (.inl hk)
    obtain ⟨f2, m2, c2, a2, r1, r2, r3, r4, r5⟩ := hB n cs' xs f1 (h ++ m1) q1 (by simpa using hl) (fun i g hg => by simpa using hx (i + 1) g (by simpa using hg)) (fun k hk => hs k (.inr hk)) (by omega)
    have e : cs'.drop fl.offset = (cs'.drop fl.offset).take (P.cellsOf fl.type) ++ cs'.drop (fl.offset + P.cellsOf fl.type) := by
      rw [← List.drop_drop, List.take_append_drop]
    refine ⟨f2, m1 ++ m2, c1 ++ c2, (a1, a2), by rw [← List.append_assoc]; exact r1, q2.trans (r2.lower (by simp)), ?_, ?_, ?_⟩
    · rw [e]
      exact (q3.mono r2.1).append r3
    · rw [← List.append_assoc]
      exact ⟨c1, c2, rfl, A.app q4, r4⟩
    · intro y hy
      rw [e] at hy
      rcases List.mem_append.1 hy with hy | hy
      · exact q5 y hy
      · exact r5 y hy
theorem enter_struct {A : Rp α} {t : TypeId} {fs : List Field} (ht : P.underlying t = some (.struct fs.toArray)) (hsz : P.cellsOf t = 0 + (fs.map fun fl => P.cellsOf fl.type).sum) (hA : EnterFs enc P W A fs 0) : Enter enc P W A t := by
  intro n cs' x f h hi hx hs
  obtain ⟨xs, m, rfl, rfl, hl, hxl, hxs⟩ := DataW.trod_struct ht hx
  have := hA m cs' xs f h hi (by simpa using hxl) (fun i fl hf => hxs i fl (by simpa using hf)) (fun k hk => hs k (by simp only [DataW.weights, ht]; simpa using hk)) (by omega)
  simpa using this

/-! ### slices -/
theorem weightsAll_get {e : TypeId} : ∀ {ds : List (DataW H)} {i : Nat} {d : DataW H} {k : Nat}, ds[i]? = some d → k ∈ d.weights P e → k ∈ DataW.weightsAll P e ds
  | [], i, d, k, h, _ => by simp at h
  | x :: ds, 0, d, k, h, hk => by
    simp at h
    subst h
    simp only [DataW.weightsAll, List.mem_append]
    exact .inl hk
  | x :: ds, i + 1, d, k, h, hk => by
    simp only [DataW.weightsAll, List.mem_append]
    exact .inr (weightsAll_get (by simpa using h) hk)
theorem cells_get {a : Addr} {n : Nat} {cs : List Value} (h : W.cells? 0 a n = some cs) : cs.length = n ∧ ∀ i, i < n → W.cell? (a.add i) = cs[i]? := by
  unfold World.cells? at h
  rw [if_pos (Nat.zero_le _)] at h
  refine ⟨by simpa using mapM_some_length h, fun i hi => ?_⟩
  exact mapM_some_get h i i (by simp [hi])
theorem add_add (a : Addr) (x y : Nat) : (a.add x).add y = a.add (x + y) := by
  unfold Addr.add
  by_cases hx : x = 0
  · subst hx; simp
  · by_cases hy : y = 0
    · subst hy; simp
    · rw [if_neg hx, if_neg hy, if_neg (by omega)]
      simp [Nat.add_assoc]
/-- The first of several elements. -/
theorem enter_elems {A : Rp α} {e : TypeId} {a : Addr} {n : Nat} (hA : Enter enc P W A e) {elems : List (DataW H × List MemPlace)} (hsz : A.sz = P.cellsOf e)
    (hel : ∀ i, i < elems.length → (W.cells? 0 (a.add (i * P.cellsOf e)) (P.cellsOf e)).bind (DataW.trod enc P W 0 (fun _ => true) true n e) = elems[i]?)
    (hs : ∀ k, k ∈ DataW.weightsAll P e (elems.map (·.1)) → k ≤ reachBytes) {f : Ren} {h : Heap} (hi : In P W f h) :
    ∀ (m : Nat), m ≤ elems.length → ∃ (f' : Ren) (more : Heap) (cs : List Value) (xs : List α), In P W f' (h ++ more) ∧ Ext h.length f f' ∧ xs.length = m ∧ cs.length = m * A.sz ∧
      (∀ j v, cs[j]? = some v → ∃ v', W.cell? (a.add j) = some v' ∧ VR f' v v' ∧ v'.oneCell' = true) ∧ ∀ i x, xs[i]? = some x → A.rep (fun _ => True) (h ++ more) (chunk A.sz i cs) x := by
  intro m
  induction m with
  | zero =>
    intro _
    exact ⟨f, [], [], [], by simpa using hi, Ext.refl _ _, rfl, by simp, fun j v hj => by simp at hj, fun i x hx => by simp at hx⟩
  | succ m ih =>
    intro hm
    obtain ⟨f1, m1, cs, xs, q1, q2, q3, q4, q5, q6⟩ := ih (by omega)
    have hm' : m < elems.length := by omega
    have h1 := hel m hm'
    rw [List.getElem?_eq_getElem hm', Option.bind_eq_some_iff] at h1
    obtain ⟨ci, hc, ht⟩ := h1
    have hcg := cells_get hc
    obtain ⟨f2, m2, c2, x2, r1, r2, r3, r4, r5⟩ := hA n ci _ f1 (h ++ m1) q1 ht fun k hk => hs k (weightsAll_get (i := m) (by rw [List.getElem?_map, List.getElem?_eq_getElem hm']; rfl) hk)
    have hl2 := A.len r4
    refine ⟨f2, m1 ++ m2, cs ++ c2, xs ++ [x2], by rw [← List.append_assoc]; exact r1, q2.trans (r2.lower (by simp)), by simp [q3], by rw [List.length_append, q4, hl2, Nat.succ_mul], ?_, ?_⟩
    · intro j v hj
      by_cases hlt : j < cs.length
      · rw [List.getElem?_append_left hlt] at hj
        obtain ⟨v', p1, p2, p3⟩ := q5 j v hj
        exact ⟨v', p1, p2.mono r2.1, p3⟩
      · rw [List.getElem?_append_right (by omega)] at hj
        obtain ⟨v', p1, p2⟩ := r3.get _ _ hj
        have hjl : j - cs.length < P.cellsOf e := by
          have := (List.getElem?_eq_some_iff.1 hj).1
          omega
        refine ⟨v', ?_, p2, r5 v' (List.mem_of_getElem? p1)⟩
        have := hcg.2 _ hjl
        rw [p1] at this
        rw [← this, add_add]
        congr 2
        rw [q4, hsz]
        rw [q4, hsz] at hlt
        omega
    · intro i x hx
      by_cases hlt : i < xs.length
      · rw [List.getElem?_append_left hlt] at hx
        have : chunk A.sz i (cs ++ c2) = chunk A.sz i cs := by
          have e2 : (i + 1) * A.sz = i * A.sz + A.sz := Nat.succ_mul _ _
          have e3 : (i + 1) * A.sz ≤ m * A.sz := Nat.mul_le_mul_right _ (by omega)
          unfold chunk
          rw [List.drop_append_of_le_length (by omega), List.take_append_of_le_length (by simp; omega)]
        rw [this, ← List.append_assoc]
        exact A.app (q6 i x hx)
      · rw [List.getElem?_append_right (by omega)] at hx
        have hi' : i = m := by
          have := (List.getElem?_eq_some_iff.1 hx).1
          simp at this
          omega
        subst hi'
        rw [q3] at hx
        simp at hx
        subst hx
        have : chunk A.sz i (cs ++ c2) = c2 := by
          unfold chunk
          rw [List.drop_left' q4, List.take_of_length_le (by omega)]
        rw [this, ← List.append_assoc]
        exact r4
theorem enter_slice {A : Rp α} {t e : TypeId} (ht : P.underlying t = some (.slice e)) (hsz : A.sz = P.cellsOf e) (hpos : 0 < A.sz) (hb : 0 < P.bytesOf e) (hA : Enter enc P W A e) : Enter enc P W (rL A) t := by
  intro n cs' x f h hi hx hs
  rcases DataW.trod_slice ht hx with ⟨rfl, rfl⟩ | ⟨a, len, cap, elems, rest, m, rfl, rfl, rfl, _, hlc, hcm, hlen, hel, _, _⟩
  · refine ⟨f, [], [.slice none 0 0], [], by simpa using hi, Ext.refl _ _, .cons .sliceNil .nil, ?_, fun y hy => ?_⟩
    · exact ⟨none, 0, [], rfl, ⟨by simp, by simp, by simp, .inl ⟨rfl, rfl⟩⟩, fun i x hx => by simp at hx⟩
    · simp at hy; subst hy; rfl
  · have one : ∀ y, y ∈ [Value.slice (some a) len cap] → y.oneCell' = true := fun y hy => by simp at hy; subst hy; rfl
    simp only [DataW.weights, ht, List.mem_cons, List.mem_append] at hs
    have hbig := hs _ (.inl rfl)
    by_cases h0 : len = 0
    · subst h0
      refine ⟨f, [], [.slice none 0 capFlag], [], by simpa using hi, Ext.refl _ _, .cons (.sliceAny _ _) .nil, ?_, one⟩
      exact ⟨none, capFlag, [], rfl, ⟨by simp, by simp, by simp, .inl ⟨rfl, rfl⟩⟩, fun i x hx => by simp at hx⟩
    · subst hlen
      obtain ⟨f1, m1, cs, xs, q1, q2, q3, q4, q5, q6⟩ := enter_elems (a := a) hA hsz hel (fun k hk => hs k (.inr (.inl hk))) hi elems.length (Nat.le_refl _)
      have hcl : 0 < cs.length := by rw [q4]; exact Nat.mul_pos (by omega) hpos
      obtain ⟨v0, hv0⟩ : ∃ v0, cs[0]? = some v0 := ⟨_, List.getElem?_eq_getElem hcl⟩
      obtain ⟨b, o, spot⟩ := a
      obtain ⟨v0', p0, _, _⟩ := q5 0 v0 hv0
      have hsp : spot = none := by
        unfold World.cell? Addr.add at p0
        rw [if_pos rfl] at p0
        simp only at p0
        split at p0
        · split at p0
          · simp at p0
          · rename_i hsp; simpa using hsp
        · simp at p0
      subst hsp
      have cellAt : ∀ j v', W.cell? ((⟨b, o, none⟩ : Addr).add j) = some v' → ∃ cc e' fz, W.heap[b]? = some (.cells cc e' fz) ∧ cc[o + j]? = some v' := by
        intro j v' hj
        have e1 : (⟨b, o, none⟩ : Addr).add j = ⟨b, o + j, none⟩ := by
          unfold Addr.add
          split
          · rename_i hj; subst hj; rfl
          · rfl
        rw [e1] at hj
        unfold World.cell? at hj
        simp only at hj
        split at hj
        · rename_i cc e' fz hh
          exact ⟨cc, e', fz, hh, by simpa using hj⟩
        · simp at hj
      obtain ⟨cc, e', fz, hheap, _⟩ := cellAt 0 v0' p0
      obtain ⟨g1, g2⟩ := q1.push (e := e) (cs := cs) (p := ⟨b, o, 0⟩) hheap fun j v hj => by
        obtain ⟨v', p1, p2, p3⟩ := q5 j v hj
        obtain ⟨cc2, e2, fz2, hh2, hc2⟩ := cellAt j v' p1
        rw [hheap] at hh2
        simp only [Option.some.injEq, Obj.cells.injEq] at hh2
        obtain ⟨rfl, rfl, rfl⟩ := hh2
        exact ⟨v', hc2, p2, p3⟩
      have hcf : cap < capFlag := by unfold capFlag; unfold maxLen at hcm; omega
      have hrc : realCap cap 0 = cap := by unfold realCap; rw [if_neg (by omega)]
      refine ⟨_, m1 ++ [⟨.cells e cs, false⟩], [.slice (some ⟨(h ++ m1).length, 0, none⟩) elems.length cap], xs, by rw [← List.append_assoc]; exact g1, q2.trans (g2.lower (by simp)), .cons ?_ .nil, ?_, one⟩
      · have := VR.slice (f := fun i => if i = (h ++ m1).length then some ⟨b, o, 0⟩ else f1 i) (h ++ m1).length 0 elems.length cap ⟨b, o, 0⟩ (by simp) (by rw [hrc]; exact hlc)
        rw [hrc] at this
        exact this
      · refine ⟨_, cap, cs, by rw [q3], ⟨by rw [q3]; exact q4, ?_, ?_, .inr ⟨(h ++ m1).length, 0, e, cs, false, rfl, trivial, ?_, ?_⟩⟩, fun i x hx => ?_⟩
        · rw [q3]
          have : elems.length ≤ (elems.map (·.1)).length * P.bytesOf e := by
            rw [List.length_map]
            exact Nat.le_mul_of_pos_right _ hb
          have h3 : ((elems.map (·.1)).length + (rest.map (·.1)).length) * P.bytesOf e = (elems.map (·.1)).length * P.bytesOf e + (rest.map (·.1)).length * P.bytesOf e := Nat.add_mul _ _ _
          have : elems.length ≤ reachBytes := by omega
          simp [reachBytes] at this
          omega
        · rw [q3]; unfold kcap; rw [if_neg (by omega)]; exact hlc
        · rw [← List.append_assoc]; simp
        · rw [q3, ← q4]; simp
        · rw [← List.append_assoc]
          exact A.app (q6 i x hx)
end
end Go.Am

namespace Go.Am
open Go Go.RowKit
theorem In.inv {P : Program} {W : World} {f : Ren} {h : Heap} (hi : In P W f h) : Inv P W (fun b => b < W.heap.size) f h W where
  sim := { dom := hi.dom, blk := fun i b hb => (hi.blk i b hb).1, inj := fun i j bi bj pi pj _ h1 _ _ _ h5 => by rw [(hi.blk i bi h1).2] at h5; simp at h5 }
  fr := { os := rfl, tape := rfl, output := rfl, size := Nat.le_refl _, keep := fun b hb => ⟨hb, rfl⟩, owns := fun i b p h1 h2 => by rw [(hi.blk i b h1).2] at h2; simp at h2 }
/-- A law that the machine finds true is true. -/
theorem law_true {E : Env} {g : FuncId} {args : Array Value} {W : World} {f : Ren} {h : Heap} {cs : List Value} (hE : EnvOk E W fun b => b < W.heap.size) (hi : In E.P W f h) (hv : VRs f cs args.toList)
    (hw : WP (callW E g cs h) (Rt fun v _ => v = .bool true)) : Calls E.P g args W fun e W' => e = .returned (.bool true) ∧ Below W.heap.size W W' := by
  obtain ⟨x, h', h1, h2⟩ := hw
  refine ((callW_ok hE g cs h _ h1).2 f W args hi.inv hv).mono fun e W' hcr => ?_
  cases x with
  | pan v => exact h2.elim
  | ret v =>
    have h2 : v = .bool true := h2
    subst h2
    obtain ⟨v', f', rfl, _, q3, q4, _⟩ := hcr
    cases q3
    exact ⟨rfl, ⟨q4.fr.os, q4.fr.tape, q4.fr.output, q4.fr.size, fun k hk => (q4.fr.keep k hk).2⟩⟩
section
variable {H : Type} {enc : TypeId × Value → H} {P : Program} {W : World} {α β : Type}
/-- An argument of one cell. -/
theorem arg_one {A : Rp α} {t : TypeId} {v : Value} {d : DataW H} {ps : List MemPlace} {f : Ren} {h : Heap} (hA : Enter enc P W A t) (hi : In P W f h) (hT : DataW.Trod enc P W 0 (fun _ => true) true t v d ps) (hc : v.cells.toList = [v]) (hs : ∀ k, k ∈ d.weights P t → k ≤ reachBytes) :
    ∃ f' more u a, In P W f' (h ++ more) ∧ Ext h.length f f' ∧ VR f' u v ∧ A.rep (fun _ => True) (h ++ more) [u] a := by
  obtain ⟨n, hT⟩ := hT
  obtain ⟨f', more, cs, a, h1, h2, h3, h4, _⟩ := hA n _ _ f h hi hT hs
  rw [hc] at h3
  cases h3 with
  | cons h3 t => cases t; exact ⟨f', more, _, a, h1, h2, h3, h4⟩
/-- An argument of several. -/
theorem arg_agg {A : Rp α} {t : TypeId} {xs : List Value} {d : DataW H} {ps : List MemPlace} {f : Ren} {h : Heap} (hA : Enter enc P W A t) (hi : In P W f h) (hT : DataW.Trod enc P W 0 (fun _ => true) true t (.agg ⟨xs⟩) d ps) (hs : ∀ k, k ∈ d.weights P t → k ≤ reachBytes) :
    ∃ f' more cs a, In P W f' (h ++ more) ∧ Ext h.length f f' ∧ VR f' (.agg ⟨cs⟩) (.agg ⟨xs⟩) ∧ A.rep (fun _ => True) (h ++ more) cs a := by
  obtain ⟨n, hT⟩ := hT
  obtain ⟨f', more, cs, a, h1, h2, h3, h4, h5⟩ := hA n _ _ f h hi hT hs
  exact ⟨f', more, cs, a, h1, h2, .agg _ _ h3 h5, h4⟩
end
theorem weights_le {H : Type} {P : Program} {ts : List TypeId} {ds : List (DataW H)} {j : Nat} {t : TypeId} {d : DataW H} (h : (DataW.weightsEach P ts ds).all (· ≤ reachBytes) = true) (ht : ts[j]? = some t) (hd : ds[j]? = some d) : ∀ k, k ∈ d.weights P t → k ≤ reachBytes := fun k hk => by
  have := List.all_eq_true.1 h _ (DataW.weights_mem_each ht hd k hk)
  simpa using this
end Go.Am
