/- Part 1 of a proof: walks and plain laws, merged by wip/tools/pack.py. -/
import Derived.Below
import Derived.Deep.Draws
import Derived.Deep.AppendLies
import Derived.Maps.AppendAt
import Derived.OwnWalk
import Derived.Laws.BytesArg
import Derived.Laws.MakeOwn
import Derived.Laws.OwnMore
import Derived.Deep.OwnRows
import Derived.Tactics
import Derived.Lib.ConvBytes
import Derived.Laws.Slices
import Derived.WalkKit
import Derived.KernelRfl
import Derived.RowKit3
import Derived.Deep.LoopGhost
import Derived.Deep.QuietTactic
import Derived.BigQuiet
import Derived.WideLaws
import Derived.Deep.DeepCutAuto
import Derived.Deep.CutBlock
import Derived.Deep.RegionHeld3
import Derived.Laws.Rows
import Derived.Lib.AppendStr
import Derived.ArgAppend
import Derived.Laws.IdiomCopy
import Derived.RowKit
import Derived.OrdersHeld
import Derived.Laws.BitsLemmas
import Derived.Laws.StructEq
import Derived.Test.YtplkoabikliagaaGreatDoorProg
import Derived.Maps.Own
import Derived.Carry
import Derived.Handy
import Derived.Lib.LazyBuf
import Derived.Deep.DrawnRows
import Derived.Shelf.Strings.Builder1
import Derived.Shelf.Strings.Builder2
import Derived.Shelf.Strings.Trim
import Derived.Shelf.Small.Utf8
import Derived.Shelf.Small.Bits
import Derived.Shelf.Small.Strs
import Derived.Shelf.Strings.BuilderF
import Derived.Shelf.Strings.BuilderK
import Derived.Shelf.Utf8.RuneCount
import Derived.Shelf.Strings.Builder2Cap
import Derived.Shelf.Strconv.Itoa0
import Derived.Shelf.Strings.Search1
import Derived.Shelf.GgClosure.StringsIndexFunc
import Derived.Ground.GgwProg
import Derived.Shelf.GgClosure.StringsIndexFuncTop
import Derived.Shelf.GgClosure.StringsRunes
import Derived.Shelf.Strings.Prefix
import Derived.Shelf.Unicode.Decode
import Derived.Shelf.Strings.Runes
import Derived.Shelf.Strings.RuneCount
import Derived.Shelf.Strings.AsciiSet
import Derived.Shelf.Bits.Mul64
import Derived.Shelf.Strings.Repeat
import Derived.Shelf.Unicode.DecodeSlow
import Derived.Shelf.Unicode.DecodeAny
import Derived.Shelf.Unicode.DecodeLast
import Derived.Shelf.Strings.FuncGrows
import Derived.Shelf.Strings.BuilderCap
import Derived.Shelf.Slices.Reverse
import Derived.Ground.Names2Prog
import Derived.Shelf.Slices.Clone
import Derived.Shelf.Slices.Cells
import Derived.Ground.SlgnProg
import Derived.Shelf.SlicesE.Clone
import Derived.Shelf.Strings.SlTrimAscii
import Derived.Maps.OwnOps
set_option linter.unusedVariables false
set_option linter.unusedSimpArgs false
namespace Go.Proofs.YtplkoabikliagaaGreatDoorW.PrintWords
open Go.RowKit
structure z0a (p : Prop) : Prop where mk :: (out : p)
structure z1v (w w' : World) : Prop where mk :: (out : ∃ n, w' = w.drewN n)
theorem z1v.refl (w : World) : z1v w w := ⟨⟨0, rfl⟩⟩
theorem z1v.step {w w' : World} (h : z1v w w') (n : Nat) : z1v w (w'.drewN n) := by
  obtain ⟨m, rfl⟩ := h
  exact ⟨⟨m + n, World.drewN_drewN ..⟩⟩
theorem z1v.grown {w w' : World} (h : z1v w w') : Grown w w' := by
  obtain ⟨n, rfl⟩ := h
  induction n with
  | zero => exact Grown.refl _
  | succ n ih => rw [← World.drew_drewN]; exact Grown.drew ih
theorem z1v.below {w w' : World} (h : z1v w w') : Below w.heap.size w w' := by
  obtain ⟨n, rfl⟩ := h
  induction n with
  | zero => exact Below.refl _ _
  | succ n ih => rw [← World.drew_drewN]; exact ih.drew
def rd (xs : List Int) (i : Int) : Int := xs.getD i.toNat 0
def bt (s : ByteArray) (i : Int) : Int := if h : i.toNat < s.size then ((s[i.toNat]'h).toNat : Int) else 0
theorem z7T (s : ByteArray) (i : Int) : ∀ h : i.toNat < s.size, ((s[i.toNat]'h).toNat : Int) = bt s i := fun h => by simp [bt, h]
theorem z1w {w W : World} (h : Below w.heap.size w W) (o : Obj) : Below w.heap.size w (W.alloc o) := h.alloc h.size o
theorem z4r {B : Nat} {w W : World} (h : Below B w W) : Below B w W.drew := ⟨h.os, h.tape, h.output, h.size, h.block⟩
theorem z1d {B : Nat} {w W : World} (h : Below B w W) (n : Nat) : Below B w (W.drewN n) := ⟨h.os, h.tape, h.output, h.size, h.block⟩
theorem y4s {B : Nat} {w w1 w2 : World} (h : Below B w w1) (hB : B ≤ w1.heap.size) (k : Below w1.heap.size w1 w2) : Below B w w2 :=
  h.trans ⟨k.os, k.tape, k.output, k.size, fun i hi => k.block i (Nat.lt_of_lt_of_le hi hB)⟩
theorem y4c {w w1 : World} (h : Below w.heap.size w w1) (row : Option Nat) : w.grownBy w1 row := ⟨h.os, h.tape, h.output, h.size, fun i hi _ => h.block i hi⟩
theorem z4v {w w1 : World} (h : Below w.heap.size w w1) {a : Addr} {v : Value} (hc : w.cell? a = some v) : w1.cell? a = some v := (h.cell (World.block_lt_of_cell? w a hc)).trans hc
theorem add_plain (g j : Nat) : (⟨g, 0, none⟩ : Addr).add j = ⟨g, j, none⟩ := by unfold Addr.add; split <;> simp_all
def z3f (w : World) (k : IntKind) (A : Option Addr) (n : Nat) (xs : List Int) : Prop :=
  xs.length = n ∧ n ≤ 9223372036854775807 ∧ (0 < n → ∃ ad, A = some ad ∧ ∀ j, j < n → w.cell? (ad.add j) = some (.int k (xs.getD j 0)))
theorem z3f.at_ {w : World} {k : IntKind} {A : Option Addr} {n : Nat} {xs : List Int} (h : z3f w k A n xs) (i : Int) (h0 : 0 ≤ i) (h1 : i < n) : ∃ ad, A = some ad ∧ w.cell? (ad.add i.toNat) = some (.int k (rd xs i)) := by
  obtain ⟨ad, e, hc⟩ := h.2.2 (by omega)
  exact ⟨ad, e, hc _ (by omega)⟩
theorem z3f.below {w w1 : World} {k : IntKind} {A : Option Addr} {n : Nat} {xs : List Int} (h : z3f w k A n xs) (hb : Below w.heap.size w w1) : z3f w1 k A n xs :=
  ⟨h.1, h.2.1, fun hn => by
    obtain ⟨ad, e, hc⟩ := h.2.2 hn
    exact ⟨ad, e, fun j hj => z4v hb (hc j hj)⟩⟩
theorem x7Z (W : World) (base : Nat) (e : TypeId) (size : Nat) : W.ownsRow base e size (.slice none 0 0) 0 [] := ⟨by simp, .inl ⟨rfl, rfl⟩⟩
theorem z9R {w : World} {base : Nat} {e : TypeId} {size n : Nat} {v : Value} {xs : List Value} (h : w.ownsRow base e size v n xs) (k : Nat) (hk : v.ownBlock = some k) : base ≤ k := by
  rcases h.2 with ⟨rfl, _⟩ | ⟨g, cap, cur, rfl, hb, _⟩
  · simp [Value.ownBlock] at hk
  · have : g = k := by simpa [Value.ownBlock] using hk
    omega
theorem x1G {w : World} {base : Nat} {e : TypeId} {size n : Nat} {v : Value} {xs : List Value} (h : w.ownsRow base e size v n xs) (k : Nat) (hk : v.ownBlock = some k) : k < w.heap.size := by
  rcases h.2 with ⟨rfl, _⟩ | ⟨g, cap, cur, rfl, hb, hh, _⟩
  · simp [Value.ownBlock] at hk
  · have : g = k := by simpa [Value.ownBlock] using hk
    subst this
    exact (Array.getElem?_eq_some_iff.1 hh).1
theorem y6E {w w1 : World} {base : Nat} {e : TypeId} {size n : Nat} {v : Value} {xs : List Value} (h : w.ownsRow base e size v n xs) (hb : Below w.heap.size w w1) : w1.ownsRow base e size v n xs :=
  h.kept (y4c hb none) (by cases v.ownBlock <;> simp)
section
variable {P : Program} {ops : Array Oper} {rest : List Oper} {o : Oper} {a : Act} {Q : Exit → Act → World → Prop}
end
section
variable {P : Program}
end
section
variable {P : Program} {ops : Array Oper} {rest : List Oper} {o : Oper} {a : Act} {Q : Exit → Act → World → Prop}
end
theorem z3f.z2R {w : World} {k : IntKind} {A : Option Addr} {n : Nat} {xs : List Int} (h : z3f w k A n xs) (i : Nat) (hi : i ≤ n) : z3f w k A i (xs.take i) := by
  refine ⟨by rw [List.length_take, h.1]; omega, by have := h.2.1; omega, fun hp => ?_⟩
  obtain ⟨ad, e, hc⟩ := h.2.2 (by omega)
  refine ⟨ad, e, fun j hj => ?_⟩
  rw [hc j (by omega)]
  simp [List.getD_eq_getElem?_getD, hj]
def LeO {α : Type} (a b : Option α) : Prop := ∀ r, a = some r → b = some r
theorem LeO.refl {α : Type} (a : Option α) : LeO a a := fun _ h => h
theorem LeO.none {α : Type} (b : Option α) : LeO Option.none b := fun _ h => by cases h
theorem LeO.trans {α : Type} {a b c : Option α} (h : LeO a b) (k : LeO b c) : LeO a c := fun r hr => k r (h r hr)
theorem LeO.ite {α : Type} {c : Prop} [Decidable c] {a a' b b' : Option α} (h : LeO a a') (k : LeO b b') : LeO (if c then a else b) (if c then a' else b') := by
  split
  · exact h
  · exact k
theorem LeO.bind {α β : Type} {a a' : Option α} {f f' : α → Option β} (h : LeO a a') (k : ∀ x, LeO (f x) (f' x)) : LeO (a.bind f) (a'.bind f') := by
  intro r hr
  obtain ⟨x, hx, hf⟩ := Option.bind_eq_some_iff.1 hr
  exact Option.bind_eq_some_iff.2 ⟨x, h x hx, k x r hf⟩
theorem LeO.map {α β : Type} {a a' : Option α} (f : α → β) (h : LeO a a') : LeO (a.map f) (a'.map f) := by
  intro r hr
  obtain ⟨x, hx, hf⟩ := Option.map_eq_some_iff.1 hr
  exact Option.map_eq_some_iff.2 ⟨x, h x hx, hf⟩
theorem y1x {α : Type} {g : Nat → Option α} (h : ∀ k, LeO (g k) (g (k + 1))) (k : Nat) : ∀ j, LeO (g k) (g (k + j))
  | 0 => LeO.refl _
  | j + 1 => (y1x h k j).trans (h (k + j))
theorem x1H {α : Type} {g : Nat → Option α} (h : ∀ k, LeO (g k) (g (k + 1))) {k k' : Nat} (hk : k ≤ k') {r : α} (hr : g k = some r) : g k' = some r := by
  have := y1x h k (k' - k) r hr
  rwa [Nat.add_sub_cancel' hk] at this
def Reps {α : Type} (R : α → List Value → Prop) (size : Nat) (ps : List α) (cs : List Value) : Prop :=
  cs.length = ps.length * size ∧ ∀ j p, ps[j]? = some p → R p ((cs.drop (j * size)).take size)
theorem Reps.none {α : Type} (R : α → List Value → Prop) (size : Nat) : Reps R size [] [] := ⟨by simp, fun j p h => by simp at h⟩
theorem Reps.snoc {α : Type} {R : α → List Value → Prop} {size : Nat} {ps : List α} {cs c : List Value} {p : α} (h : Reps R size ps cs) (hp : R p c) (hc : c.length = size) : Reps R size (ps ++ [p]) (cs ++ c) := by
  refine ⟨by rw [List.length_append, h.1, hc, List.length_append, List.length_singleton, Nat.add_mul, Nat.one_mul], fun j q hq => ?_⟩
  rcases Nat.lt_or_ge j ps.length with hj | hj
  · rw [List.getElem?_append_left hj] at hq
    have h1 : j * size + size ≤ cs.length := by rw [h.1, ← Nat.succ_mul]; exact Nat.mul_le_mul_right _ hj
    have h2 := h.2 j q hq
    rw [List.drop_append_of_le_length (by omega), List.take_append_of_le_length (by rw [List.length_drop]; omega)]
    exact h2
  · have hj' : j = ps.length := by
      have := (List.getElem?_eq_some_iff.1 hq).1
      rw [List.length_append, List.length_singleton] at this
      omega
    subst hj'
    have hq' : p = q := by simpa using hq
    subst hq'
    rw [← h.1, List.drop_left, ← hc, List.take_length]
    exact hp
theorem Reps.y6B {α : Type} {R R' : α → List Value → Prop} {size : Nat} {ps : List α} {cs : List Value} (h : Reps R size ps cs) (hR : ∀ p c, R p c → R' p c) : Reps R' size ps cs := ⟨h.1, fun j p hj => hR _ _ (h.2 j p hj)⟩
def z2F {α : Type} (R : α → List Value → Prop) (size : Nat) (w : World) (A : Option Addr) (n : Nat) (ps : List α) : Prop :=
  ps.length = n ∧ n ≤ 9223372036854775807 ∧ (0 < n → ∃ ad, A = some ad ∧ ∀ j p, ps[j]? = some p → ∃ c, c.length = size ∧ R p c ∧ ∀ i u, c[i]? = some u → w.cell? (ad.add (j * size + i)) = some u)
theorem z2F.get_ {α : Type} {R : α → List Value → Prop} {size : Nat} {w : World} {A : Option Addr} {n : Nat} {ps : List α} (h : z2F R size w A n ps) (d : α) (i : Int) (h0 : 0 ≤ i) (h1 : i < n) :
    ∃ ad c, A = some ad ∧ c.length = size ∧ R (ps.getD i.toNat d) c ∧ ∀ j u, c[j]? = some u → w.cell? (ad.add (i.toNat * size + j)) = some u := by
  obtain ⟨ad, e, hc⟩ := h.2.2 (by omega)
  have hl : i.toNat < ps.length := by have := h.1; omega
  obtain ⟨c, hs, hr, hcell⟩ := hc i.toNat _ (List.getElem?_eq_getElem hl)
  refine ⟨ad, c, e, hs, ?_, hcell⟩
  rw [List.getD_eq_getElem?_getD, List.getElem?_eq_getElem hl]
  exact hr
theorem z2F.y6B {α : Type} {R R' : α → List Value → Prop} {size : Nat} {w w1 : World} {A : Option Addr} {n : Nat} {ps : List α} (h : z2F R size w A n ps) (hb : Below w.heap.size w w1) (hR : ∀ p c, R p c → R' p c) : z2F R' size w1 A n ps :=
  ⟨h.1, h.2.1, fun hn => by
    obtain ⟨ad, e, hc⟩ := h.2.2 hn
    refine ⟨ad, e, fun j p hj => ?_⟩
    obtain ⟨c, hs, hr, hcell⟩ := hc j p hj
    exact ⟨c, hs, hR _ _ hr, fun i u hu => z4v hb (hcell i u hu)⟩⟩
theorem y4Q {α : Type} {R : α → List Value → Prop} {w : World} {base n size : Nat} {e : TypeId} {v : Value} {ps : List α} {cs : List Value} (h : w.ownsRow base e size v n cs) (hR : Reps R size ps cs) (hn : ps.length = n) :
    ∃ A c, v = .slice A n c ∧ z2F R size w A n ps := by
  rcases Nat.eq_zero_or_pos n with h0 | h0
  · rcases h.2 with ⟨rfl, rfl⟩ | ⟨g, cap, cur, rfl, _⟩
    · exact ⟨none, 0, rfl, hn, by omega, fun hp => absurd hp (by omega)⟩
    · exact ⟨_, cap, rfl, hn, by omega, fun hp => absurd hp (by omega)⟩
  · obtain ⟨g, cap, rfl, _, _⟩ := h.form h0
    have hm : n ≤ 9223372036854775807 := by
      rcases h.2 with ⟨_, h1⟩ | ⟨g', cap', cur, he, _, _, h1, h2, _⟩
      · omega
      · simp only [maxLen] at h2
        omega
    refine ⟨_, cap, rfl, hn, hm, fun _ => ⟨_, rfl, fun j p hj => ⟨(cs.drop (j * size)).take size, ?_, hR.2 j p hj, fun i u hu => ?_⟩⟩⟩
    · have hjl := (List.getElem?_eq_some_iff.1 hj).1
      have h1 : j * size + size ≤ cs.length := by rw [hR.1, ← Nat.succ_mul]; exact Nat.mul_le_mul_right _ hjl
      rw [List.length_take, List.length_drop]
      omega
    · refine h.cells (g := g) rfl _ u ?_
      rw [List.getElem?_take] at hu
      split at hu
      · rw [List.getElem?_drop] at hu
        exact hu
      · cases hu
theorem z2o (ad : Addr) (m j : Nat) (hj : 0 < j) : ad.add (m + j) = ⟨(ad.add m).block, (ad.add m).off + j, none⟩ := by
  unfold Addr.add
  by_cases hm : m = 0
  · subst hm
    simp [Nat.ne_of_gt hj]
  · simp [hm, Nat.add_assoc]
section
variable {P : Program} {ops : Array Oper} {rest : List Oper} {o : Oper} {a : Act} {Q : Exit → Act → World → Prop}
theorem z5R {w0 W : World} (base : Nat) (hgd : o.guard = none) (s x : Operand) (t e : TypeId) (z : Value) (size bytes : Nat)
    (ho : o.op = .call { callee := .builtin .append, args := #[s, x], argTypes := #[t, t] })
    (ht : P.underlying t = some (.slice e)) (hinfo : (P.info? e).map (fun i => (i.zero, i.size, i.bytes)) = some (some z, size, bytes)) (hz : z.cells.size = size) (hs0 : 0 < size) (hb0 : 0 < bytes)
    (v : Value) (n : Nat) (xs ys : List Value) (hs : a.eval s = v) (hx : a.eval x = .slice (some ⟨W.heap.size, 0, none⟩) 1 1) (hys : ys.length = size) (h1 : ∀ u ∈ ys, u.oneCell' = true)
    (HO : W.ownsRow base e size v n xs) (HB : Below base w0 W) (hbase : base ≤ W.heap.size) (hl : (n + 1) * bytes ≤ 140737488355328)
    (h : ∀ v1 w1, w1.ownsRow base e size v1 (n + 1) (xs ++ ys) → Below base w0 w1 → W.grownBy w1 v.ownBlock → (v1.ownBlock = v.ownBlock ∨ ∃ b, v1.ownBlock = some b ∧ W.heap.size ≤ b) → wpList P ops Q rest (a.put o.dst v1) w1) :
    wpList P ops Q (o :: rest) a (W.alloc (.cells ys.toArray e)) := by
  obtain ⟨i0, hi, hzz⟩ := Option.map_eq_some_iff.1 hinfo
  simp only [Prod.mk.injEq] at hzz
  obtain ⟨hz0, hz1, hz2⟩ := hzz
  have hlen : n + 1 ≤ 140737488355328 := Nat.le_trans (Nat.le_mul_of_pos_right _ hb0) hl
  refine wpList_append_own_at (W.alloc (.cells ys.toArray e)) hgd s x t ho base e i0 z size bytes ht hi hz0 hz1 hz2 hz hs0 v n xs hs (HO.alloc _) ⟨W.heap.size, 0, none⟩ 1 1 ys hx (by rw [hys]; simp)
    (by simpa using World.news_of_block (cs := ys.toArray) (t := e) (fr := (0, 0)) (heap_alloc_new W (.cells ys.toArray e))) h1 (by simp only [maxLen]; omega) hl (by simp; omega) ?_
  intro v1 w1 hown hg _ hat
  refine h v1 w1 hown ((HB.alloc hbase _).grown hg (by simp; omega) (z9R HO)) (World.grownBy.trans (World.grownBy_alloc W _ _) hg) ?_
  rcases hat with hat | hat
  · exact .inl hat
  · exact .inr ⟨_, hat, by simp⟩
end
theorem own_ne {w : World} {base : Nat} {e t : TypeId} {size n g : Nat} {v : Value} {xs : List Value} {cs : Array Value} (h : w.ownsRow base e size v n xs) (hg : w.heap[g]? = some (.cells cs t (0, 0))) (hne : e ≠ t) : some g ≠ v.ownBlock := by
  rcases h.2 with ⟨rfl, _⟩ | ⟨g', cap, cur, rfl, _, hh, _⟩
  · simp [Value.ownBlock]
  · intro he
    have : g = g' := by simpa [Value.ownBlock] using he
    subst this
    rw [hg] at hh
    injection hh with hh
    injection hh with _ ht
    exact hne ht.symm
theorem z5s {w : World} {g : Nat} {t : TypeId} {cs : Array Value} (h : w.heap[g]? = some (.cells cs t (0, 0))) (i : Nat) (u : Value) : (w.setCell ⟨g, i, none⟩ u).heap[g]? = some (.cells (cs.setIfInBounds i u) t (0, 0)) := by
  simp [World.setCell, Array.getElem?_modify, h]
theorem z0n {w : World} {g : Nat} {t : TypeId} {cs : Array Value} (h : w.heap[g]? = some (.cells cs t (0, 0))) {p : Addr} (hp : g ≠ p.block) (u : Value) : (w.setCell p u).heap[g]? = some (.cells cs t (0, 0)) := (Below.heap_setCell w p u g hp).trans h
theorem z4s {w : World} {g : Nat} {o : Obj} (h : w.heap[g]? = some o) : g < w.heap.size := (Array.getElem?_eq_some_iff.1 h).1
theorem z0p {w : World} {g : Nat} {t : TypeId} {cs : Array Value} (h : w.heap[g]? = some (.cells cs t (0, 0))) (i : Nat) : w.cell? ⟨g, i, none⟩ = cs[i]? := cell_of_row w g i cs t (0, 0) h
theorem z1Q {w : World} {g : Nat} {t : TypeId} {cs : Array Value} (h : w.heap[g]? = some (.cells cs t (0, 0))) (i : Nat) : w.frozen? ⟨g, i, none⟩ = false := by simp [World.frozen?, h]
theorem z5t {w w1 : World} {g : Nat} {o : Obj} {row : Option Nat} (h : w.heap[g]? = some o) (hg : w.grownBy w1 row) (hne : some g ≠ row) : w1.heap[g]? = some o := (hg.block g (z4s h) hne).trans h
def z3B (w w' : World) (g : Nat) (row : Option Nat) : Prop := w.heap.size ≤ w'.heap.size ∧ ∀ i, i < w.heap.size → i ≠ g → some i ≠ row → w'.heap[i]? = w.heap[i]?
theorem z3B.refl (w : World) (g : Nat) (row : Option Nat) : z3B w w g row := ⟨Nat.le_refl _, fun _ _ _ _ => rfl⟩
theorem z3B.of_below {w w1 : World} (h : Below w.heap.size w w1) (g : Nat) (row : Option Nat) : z3B w w1 g row := ⟨h.size, fun i hi _ _ => h.block i hi⟩
theorem z3B.trans {w w1 w2 : World} {g : Nat} {row row1 : Option Nat} (h : z3B w w1 g row) (k : z3B w1 w2 g row1) (hr : row1 = row ∨ ∃ b, row1 = some b ∧ w.heap.size ≤ b) : z3B w w2 g row :=
  ⟨Nat.le_trans h.1 k.1, fun i hi hg hn => by
    refine (k.2 i (Nat.lt_of_lt_of_le hi h.1) hg ?_).trans (h.2 i hi hg hn)
    rcases hr with rfl | ⟨b, rfl, hb⟩
    · exact hn
    · intro e
      injection e with e
      omega⟩
theorem z3B.blk {w w1 : World} {g g' : Nat} {row : Option Nat} {o : Obj} (h : z3B w w1 g row) (hb : w.heap[g']? = some o) (hg : g' ≠ g) (hr : some g' ≠ row) : w1.heap[g']? = some o := (h.2 g' (z4s hb) hg hr).trans hb
theorem z3B.own {w w1 : World} {g : Nat} {row : Option Nat} {base : Nat} {e : TypeId} {size n : Nat} {v : Value} {xs : List Value} (h : z3B w w1 g row) (ho : w.ownsRow base e size v n xs) (hg : v.ownBlock ≠ some g) (hr : v.ownBlock = none ∨ v.ownBlock ≠ row) : w1.ownsRow base e size v n xs := by
  obtain ⟨h1, h2⟩ := ho
  refine ⟨h1, ?_⟩
  rcases h2 with h2 | ⟨b, cap, cur, rfl, hb, hh, r⟩
  · exact .inl h2
  · refine .inr ⟨b, cap, cur, rfl, hb, h.blk hh ?_ ?_, r⟩
    · intro e
      exact hg (by rw [← e]; rfl)
    · rcases hr with hr | hr
      · simp [Value.ownBlock] at hr
      · exact hr
def Ev {α : Type} (g : Nat → Option α) (r : α) : Prop := ∃ K, ∀ k, K ≤ k → g k = some r
theorem Ev.of {α : Type} {g : Nat → Option α} {r : α} (hg : ∀ k, LeO (g k) (g (k + 1))) {k : Nat} (h : g k = some r) : Ev g r := ⟨k, fun _ hk => x1H hg hk h⟩
theorem Ev.now {α : Type} (r : α) : Ev (fun _ => some r) r := ⟨0, fun _ _ => rfl⟩
theorem Ev.bind {α β : Type} {g : Nat → Option α} {f : Nat → α → Option β} {a : α} {r : β} (h : Ev g a) (k : Ev (fun n => f n a) r) : Ev (fun n => (g n).bind (f n)) r := by
  obtain ⟨K, h⟩ := h
  obtain ⟨K', k⟩ := k
  refine ⟨max K K', fun n hn => ?_⟩
  have h1 := h n (by omega)
  have h2 := k n (by omega)
  simp only [h1, Option.bind_some]
  exact h2
theorem Ev.step {α : Type} {g f : Nat → Option α} {r : α} (h : ∀ k, g (k + 1) = f k) (k : Ev f r) : Ev g r := by
  obtain ⟨K, k⟩ := k
  refine ⟨K + 1, fun n hn => ?_⟩
  obtain ⟨m, rfl⟩ : ∃ m, n = m + 1 := ⟨n - 1, by omega⟩
  rw [h]
  exact k m (by omega)
theorem Ev.congr {α : Type} {g f : Nat → Option α} {r : α} (h : ∀ k, g k = f k) (k : Ev f r) : Ev g r := by
  obtain ⟨K, k⟩ := k
  exact ⟨K, fun n hn => (h n).trans (k n hn)⟩
section
variable {P : Program} {ops : Array Oper} {o : Oper} {a : Act} {Q : Exit → Act → World → Prop} {K : Act → World → Prop}
end
theorem x0U {w : World} {base base' : Nat} {e : TypeId} {size n : Nat} {v : Value} {xs : List Value} (h : w.ownsRow base e size v n xs) (hb : base' ≤ base) : w.ownsRow base' e size v n xs := by
  obtain ⟨h1, h2⟩ := h
  refine ⟨h1, ?_⟩
  rcases h2 with h2 | ⟨g, cap, cur, rfl, hg, r⟩
  · exact .inl h2
  · exact .inr ⟨g, cap, cur, rfl, Nat.le_trans hb hg, r⟩
section
variable {α : Type} {enc : α → Value} {d : α}
def encs (enc : α → Value) (xs : List α) : List Value := xs.map enc
def z7Q (d : α) (xs : List α) (i : Int) : α := xs.getD i.toNat d
theorem y1y (xs : List α) : (encs enc xs).length = xs.length := by simp [encs]
theorem x6v (xs : List α) (j : Nat) (h : j < xs.length) : (encs enc xs)[j]? = some (enc (xs.getD j d)) := by
  simp [encs, List.getElem?_eq_getElem h, List.getD_eq_getElem?_getD]
def z3g (enc : α → Value) (d : α) (w : World) (A : Option Addr) (n : Nat) (xs : List α) : Prop :=
  xs.length = n ∧ n ≤ 9223372036854775807 ∧ (0 < n → ∃ ad, A = some ad ∧ ∀ j, j < n → w.cell? (ad.add j) = some (enc (xs.getD j d)))
theorem z3g.at_ {w : World} {A : Option Addr} {n : Nat} {xs : List α} (h : z3g enc d w A n xs) (i : Int) (h0 : 0 ≤ i) (h1 : i < n) : ∃ ad, A = some ad ∧ w.cell? (ad.add i.toNat) = some (enc (z7Q d xs i)) := by
  obtain ⟨ad, e, hc⟩ := h.2.2 (by omega)
  exact ⟨ad, e, hc _ (by omega)⟩
theorem z3g.below {w w1 : World} {A : Option Addr} {n : Nat} {xs : List α} (h : z3g enc d w A n xs) (hb : Below w.heap.size w w1) : z3g enc d w1 A n xs :=
  ⟨h.1, h.2.1, fun hn => by
    obtain ⟨ad, e, hc⟩ := h.2.2 hn
    exact ⟨ad, e, fun j hj => z4v hb (hc j hj)⟩⟩
theorem z3g.z2R {w : World} {A : Option Addr} {n : Nat} {xs : List α} (h : z3g enc d w A n xs) (i : Nat) (hi : i ≤ n) : z3g enc d w A i (xs.take i) := by
  refine ⟨by rw [List.length_take, h.1]; omega, by have := h.2.1; omega, fun hp => ?_⟩
  obtain ⟨ad, e, hc⟩ := h.2.2 (by omega)
  refine ⟨ad, e, fun j hj => ?_⟩
  rw [hc j (by omega)]
  simp [List.getD_eq_getElem?_getD, hj]
theorem x1I {W : World} {base g n cap : Nat} {e : TypeId} {xs : List α} (h : W.ownsRow base e 1 (.slice (some ⟨g, 0, none⟩) n cap) n (encs enc xs)) (i : Int) (h0 : 0 ≤ i) (h1 : i < n) :
    W.cell? ⟨g, i.toNat, none⟩ = some (enc (z7Q d xs i)) ∧ W.frozen? ⟨g, i.toNat, none⟩ = false := by
  have hl : xs.length = n := by have := h.1; simp [encs] at this; exact this
  constructor
  · have hc := h.cells (g := g) rfl i.toNat _ (x6v (d := d) xs i.toNat (by omega))
    rwa [add_plain] at hc
  · rcases h.2 with ⟨h', _⟩ | ⟨g', cap', cur, h', _, hh, _⟩
    · cases h'
    · have : g = g' := by injection h' with h'; injection h' with h'; injection h' with h'
      subst this
      simp [World.frozen?, hh]
theorem y6F {W : World} {base g n cap : Nat} {e : TypeId} {xs : List α} (h : W.ownsRow base e 1 (.slice (some ⟨g, 0, none⟩) n cap) n (encs enc xs)) (i : Int) (x : α) :
    (W.setCell ⟨g, i.toNat, none⟩ (enc x)).ownsRow base e 1 (.slice (some ⟨g, 0, none⟩) n cap) n (encs enc (xs.set i.toNat x)) ∧ W.grownBy (W.setCell ⟨g, i.toNat, none⟩ (enc x)) (some g) := by
  have hs := h.stored i.toNat (enc x)
  have he : (encs enc xs).set i.toNat (enc x) = encs enc (xs.set i.toNat x) := by simp [encs, List.map_set]
  rwa [he] at hs
end
section
variable {α : Type} {P : Program} {ops : Array Oper} {rest : List Oper} {o : Oper} {a : Act} {Q : Exit → Act → World → Prop}
end
theorem z0b {w : World} {g : Nat} {o : Obj} (h : w.heap[g]? = some o) (o' : Obj) : (w.alloc o').heap[g]? = some o := (Below.heap_alloc w o' g (z4s h)).trans h
theorem z0e {w : World} {g : Nat} {o : Obj} (h : w.heap[g]? = some o) : w.drew.heap[g]? = some o := h
theorem z0c {w : World} {g : Nat} {o : Obj} (h : w.heap[g]? = some o) (n : Nat) : (w.drewN n).heap[g]? = some o := h
theorem z0O {w w1 : World} {g : Nat} {o : Obj} (h : w.heap[g]? = some o) (hb : Below w.heap.size w w1) : w1.heap[g]? = some o := (hb.block g (z4s h)).trans h
theorem z9j (w : World) (o : Obj) : (w.alloc o).heap[w.heap.size]? = some o := heap_alloc_new w o
section
variable {P : Program}
theorem y0o {fn : Func} {p u : Tmp} {ty : TypeId} (h : fn.results = #[.cell p ty, .tmp u]) (tmps : Array Value) (w : World) (g : Nat) (t : TypeId) (cs : Array Value) (fr : Nat × Nat) (d : TypeDesc)
    (hp : tmps.getD p undef = .pointer (some ⟨g, 0, none⟩)) (hg : w.heap[g]? = some (.cells cs t fr))
    (hu : P.underlying ty = some d) (hd : (match d with | .struct _ | .array _ _ => true | _ => false) = true) (hi : (P.info? ty).map (·.size) = some cs.size) :
    (results fn tmps).run P w = .ok (.tuple #[.agg cs, tmps.getD u undef]) w := by
  have hp' : tmps[p]?.getD undef = .pointer (some ⟨g, 0, none⟩) := by simpa using hp
  simp [results, h, hp', asAddr, run_loadVar_row w g t ty cs fr d hg hu hd hi]
end
theorem w2m {w : World} {base n m c size : Nat} {e : TypeId} {A : Option Addr} {xs : List Value} (h : w.ownsRow base e size (.slice A m c) n xs) : m ≤ c := by
  rcases h.2 with ⟨he, _⟩ | ⟨g, cap, cur, he, _, _, hnc, _⟩
  · injection he with _ h2 h3
    omega
  · injection he with _ h2 h3
    omega
def z3Y {α : Type} (R : α → List Value → Prop) (e : TypeId) (size : Nat) (w : World) (base : Nat) (v : Value) (ps : List α) : Prop :=
  ∃ inner, w.ownsRow base e size v ps.length inner ∧ Reps R size ps inner
section
variable {α : Type} {R R' : α → List Value → Prop} {e : TypeId} {size : Nat} {w w1 : World} {base : Nat} {v : Value} {ps : List α}
theorem z3Y.none_ (R : α → List Value → Prop) (e : TypeId) (size : Nat) (w : World) (base : Nat) : z3Y R e size w base (.slice none 0 0) [] := ⟨[], x7Z _ _ _ _, Reps.none _ _⟩
theorem z3Y.y6B (h : z3Y R e size w base v ps) (hR : ∀ p c, R p c → R' p c) : z3Y R' e size w base v ps := by
  obtain ⟨inner, ho, hr⟩ := h
  exact ⟨inner, ho, hr.y6B hR⟩
theorem z3Y.below (h : z3Y R e size w base v ps) (hb : Below w.heap.size w w1) : z3Y R e size w1 base v ps := by
  obtain ⟨inner, ho, hr⟩ := h
  exact ⟨inner, y6E ho hb, hr⟩
theorem z3Y.keep (h : z3Y R e size w base v ps) {g : Nat} {t : TypeId} {cells : Array Value} (hb : w.heap[g]? = some (.cells cells t (0, 0))) (ht : e ≠ t) (hk : z3B w w1 g none) : z3Y R e size w1 base v ps := by
  obtain ⟨inner, ho, hr⟩ := h
  exact ⟨inner, hk.own ho (Ne.symm (own_ne ho hb ht)) (by cases v.ownBlock <;> simp), hr⟩
theorem z3Y.reads (h : z3Y R e size w base v ps) : ∃ A c, v = .slice A ps.length c ∧ ps.length ≤ c ∧ z2F R size w A ps.length ps := by
  obtain ⟨inner, ho, hr⟩ := h
  obtain ⟨A, c, rfl, hrow⟩ := y4Q ho hr rfl
  exact ⟨A, c, rfl, w2m ho, hrow⟩
theorem z3Y.x6w (h : z3Y R e size w base v ps) {g : Nat} {t : TypeId} {cells : Array Value} (hb : w.heap[g]? = some (.cells cells t (0, 0))) (ht : e ≠ t) : some g ≠ v.ownBlock := by
  obtain ⟨inner, ho, hr⟩ := h
  exact own_ne ho hb ht
end
section
variable {P : Program} {ops : Array Oper} {rest : List Oper} {o : Oper} {a : Act} {Q : Exit → Act → World → Prop} {α : Type} {R : α → List Value → Prop}
theorem z3Y.append {w0 W : World} (base : Nat) (hgd : o.guard = none) (s x : Operand) (t e : TypeId) (z : Value) (size bytes : Nat)
    (ho : o.op = .call { callee := .builtin .append, args := #[s, x], argTypes := #[t, t] })
    (ht : P.underlying t = some (.slice e)) (hinfo : (P.info? e).map (fun i => (i.zero, i.size, i.bytes)) = some (some z, size, bytes)) (hz : z.cells.size = size) (hs0 : 0 < size) (hb0 : 0 < bytes)
    (v : Value) (ps : List α) (p : α) (cs : List Value) (hs : a.eval s = v) (hx : a.eval x = .slice (some ⟨W.heap.size, 0, none⟩) 1 1) (hp : R p cs) (hcs : cs.length = size) (h1 : ∀ u ∈ cs, u.oneCell' = true)
    (HO : z3Y R e size W base v ps) (HB : Below base w0 W) (hbase : base ≤ W.heap.size) (hl : (ps.length + 1) * bytes ≤ 140737488355328)
    (h : ∀ v1 w1, z3Y R e size w1 base v1 (ps ++ [p]) → Below base w0 w1 → W.grownBy w1 v.ownBlock → (v1.ownBlock = v.ownBlock ∨ ∃ b, v1.ownBlock = some b ∧ W.heap.size ≤ b) → wpList P ops Q rest (a.put o.dst v1) w1) :
    wpList P ops Q (o :: rest) a (W.alloc (.cells cs.toArray e)) := by
  obtain ⟨inner, hown, hr⟩ := HO
  refine z5R base hgd s x t e z size bytes ho ht hinfo hz hs0 hb0 v ps.length inner cs hs hx hcs h1 hown HB hbase hl ?_
  intro v1 w1 hown1 hb1 hg1 hat1
  exact h v1 w1 ⟨inner ++ cs, by rw [List.length_append, List.length_singleton]; exact hown1, hr.snoc hp hcs⟩ hb1 hg1 hat1
end
section
variable {P : Program} {ops : Array Oper} {o : Oper} {a : Act} {Q : Exit → Act → World → Prop} {K : Act → World → Prop} {α : Type} {R : α → List Value → Prop}
end
theorem z2F.x1J {α : Type} {R : α → List Value → Prop} {size : Nat} {w : World} {ad : Addr} {n : Nat} {ps : List α} (h : z2F R size w (some ad) n ps) :
    ∃ inner, Reps R size ps inner ∧ ∀ j u, inner[j]? = some u → w.cell? (ad.add j) = some u := by
  have key : ∀ m, m ≤ ps.length → ∃ inner, Reps R size (ps.take m) inner ∧ ∀ j u, inner[j]? = some u → w.cell? (ad.add j) = some u := by
    intro m
    induction m with
    | zero => exact fun _ => ⟨[], Reps.none _ _, fun j u hu => by simp at hu⟩
    | succ m ih =>
      intro hm
      obtain ⟨inner, hr, hc⟩ := ih (by omega)
      obtain ⟨ad', he, hcell⟩ := h.2.2 (by have := h.1; omega)
      injection he with he
      subst he
      obtain ⟨c, hcl, hp, hcc⟩ := hcell m _ (List.getElem?_eq_getElem (show m < ps.length by omega))
      refine ⟨inner ++ c, ?_, fun j u hu => ?_⟩
      · rw [List.take_succ_eq_append_getElem (show m < ps.length by omega)]
        exact hr.snoc hp hcl
      · have hil : inner.length = m * size := by rw [hr.1, List.length_take, Nat.min_eq_left (by omega)]
        rcases Nat.lt_or_ge j inner.length with hj | hj
        · rw [List.getElem?_append_left hj] at hu
          exact hc j u hu
        · rw [List.getElem?_append_right hj] at hu
          have := hcc (j - inner.length) u hu
          rwa [hil, Nat.add_sub_cancel' (by omega)] at this
  obtain ⟨inner, hr, hc⟩ := key ps.length (Nat.le_refl _)
  rw [List.take_length] at hr
  exact ⟨inner, hr, hc⟩
section
variable {α : Type} {P : Program}
end
section
variable {P : Program} {ops : Array Oper} {rest : List Oper} {o : Oper} {a : Act} {Q : Exit → Act → World → Prop}
end
structure Kd (α : Type) where
  sz : Nat
  E : List Nat
  K : World → α → List Value → Prop
  M : World → Nat → (Nat → Prop) → α → List Value → Prop
  K_len : ∀ {w x cs}, K w x cs → cs.length = sz
  K_one : ∀ {w x cs}, K w x cs → ∀ u ∈ cs, u.oneCell' = true
  K_below : ∀ {w w1 : World} {x cs}, Below w.heap.size w w1 → K w x cs → K w1 x cs
  K_of_M : ∀ {w base ok x cs}, M w base ok x cs → K w x cs
  M_mono : ∀ {w base ok ok' x cs}, (∀ k, ok k → ok' k) → M w base ok x cs → M w base ok' x cs
  M_bound : ∀ {w : World} {base ok x cs}, M w base ok x cs → M w base (fun k => ok k ∧ base ≤ k ∧ k < w.heap.size ∧ ∃ q, q ∈ E ∧ ∃ cells, w.heap[k]? = some (.cells cells q (0, 0))) x cs
  M_move : ∀ {w w1 : World} {base ok x cs}, (∀ k, ok k → w1.heap[k]? = w.heap[k]?) → M w base ok x cs → M w1 base ok x cs
  M_lower : ∀ {w base base' ok x cs}, base' ≤ base → M w base ok x cs → M w base' ok x cs
theorem x6x {w w1 : World} {base : Nat} {e : TypeId} {size n : Nat} {v : Value} {xs : List Value} (h : w.ownsRow base e size v n xs) (hm : ∀ k, v.ownBlock = some k → w1.heap[k]? = w.heap[k]?) : w1.ownsRow base e size v n xs := by
  obtain ⟨h1, h2⟩ := h
  refine ⟨h1, ?_⟩
  rcases h2 with h2 | ⟨g, cap, cur, rfl, hg, hh, r⟩
  · exact .inl h2
  · exact .inr ⟨g, cap, cur, rfl, hg, (hm g (by simp [Value.ownBlock])).trans hh, r⟩
theorem y1z {w : World} {base : Nat} {e : TypeId} {size n : Nat} {v : Value} {xs : List Value} (h : w.ownsRow base e size v n xs) (k : Nat) (hk : v.ownBlock = some k) : ∃ cells, w.heap[k]? = some (.cells cells e (0, 0)) := by
  rcases h.2 with ⟨rfl, _⟩ | ⟨g, cap, cur, rfl, hg, hh, r⟩
  · simp [Value.ownBlock] at hk
  · have : g = k := by simpa [Value.ownBlock] using hk
    subst this
    exact ⟨cur, hh⟩
namespace Kd
def C {α : Type} (d : Kd α) (w : World) (A : Option Addr) (n : Nat) (xs : List α) : Prop := z2F (d.K w) d.sz w A n xs
def R {α : Type} (d : Kd α) (e : Nat) (w : World) (base : Nat) (ok : Nat → Prop) (v : Value) (xs : List α) : Prop :=
  (∀ k, v.ownBlock = some k → ok k) ∧ z3Y (d.M w base (fun k => ok k ∧ some k ≠ v.ownBlock)) e d.sz w base v xs
section
variable {α : Type} {d : Kd α} {e : Nat} {w w1 : World} {base : Nat} {ok ok' : Nat → Prop} {v : Value} {xs : List α}
theorem z0t {A : Option Addr} {n : Nat} (h : d.C w A n xs) (hb : Below w.heap.size w w1) : d.C w1 A n xs := z2F.y6B h hb (fun _ _ hp => d.K_below hb hp)
theorem z5O (d : Kd α) (e : Nat) (w : World) (base : Nat) (ok : Nat → Prop) : d.R e w base ok (.slice none 0 0) [] := ⟨fun k hk => by simp [Value.ownBlock] at hk, z3Y.none_ _ _ _ _ _⟩
theorem z3D (h : d.R e w base ok v xs) (hok : ∀ k, ok k → ok' k) : d.R e w base ok' v xs := ⟨fun k hk => hok k (h.1 k hk), h.2.y6B (fun _ _ hp => d.M_mono (fun k hk => ⟨hok k hk.1, hk.2⟩) hp)⟩
theorem z4W (h : d.R e w base ok v xs) : d.R e w base (fun k => ok k ∧ base ≤ k ∧ k < w.heap.size ∧ ∃ q, q ∈ e :: d.E ∧ ∃ cells, w.heap[k]? = some (.cells cells q (0, 0))) v xs := by
  obtain ⟨h0, inner, ho, hr⟩ := h
  refine ⟨fun k hk => ?_, inner, ho, hr.y6B (fun _ _ hp => d.M_mono (fun k hk => ?_) (d.M_bound hp))⟩
  · obtain ⟨cells, hc⟩ := y1z ho k hk
    exact ⟨h0 k hk, z9R ho k hk, x1G ho k hk, e, List.mem_cons_self, cells, hc⟩
  · obtain ⟨⟨h1, h2⟩, h3, h4, q, hq, hc⟩ := hk
    exact ⟨⟨h1, h3, h4, q, List.mem_cons_of_mem _ hq, hc⟩, h2⟩
theorem z8Y (h : d.R e w base ok v xs) (hm : ∀ k, ok k → w1.heap[k]? = w.heap[k]?) : d.R e w1 base ok v xs := by
  obtain ⟨h0, inner, ho, hr⟩ := h
  exact ⟨h0, inner, x6x ho (fun k hk => hm k (h0 k hk)), hr.y6B (fun _ _ hp => d.M_move (fun k hk => hm k hk.1) hp)⟩
theorem z2n {base' : Nat} (h : d.R e w base ok v xs) (hb : base' ≤ base) : d.R e w base' ok v xs := by
  obtain ⟨h0, inner, ho, hr⟩ := h
  exact ⟨h0, inner, x0U ho hb, hr.y6B (fun _ _ hp => d.M_lower hb hp)⟩
theorem x1K (h : d.R e w base ok v xs) (hm : ∀ k, ok k → k < w.heap.size → w1.heap[k]? = w.heap[k]?) : d.R e w1 base ok v xs :=
  z3D (z8Y (z4W h) (fun k hk => hm k hk.1 hk.2.2.1)) (fun _ hk => hk.1)
theorem x7D {x : α} {cs : List Value} (h : d.M w base ok x cs) (hm : ∀ k, ok k → k < w.heap.size → w1.heap[k]? = w.heap[k]?) : d.M w1 base ok x cs :=
  d.M_mono (fun _ hk => hk.1) (d.M_move (fun k hk => hm k hk.1 hk.2.2.1) (d.M_bound h))
theorem z2f (h : d.R e w base ok v xs) (hb : Below w.heap.size w w1) : d.R e w1 base ok v xs := x1K h (fun k _ hk => hb.block k hk)
theorem x8a {x : α} {cs : List Value} (h : d.M w base ok x cs) (hb : Below w.heap.size w w1) : d.M w1 base ok x cs := x7D h (fun k _ hk => hb.block k hk)
theorem z7U (h : d.R e w base ok v xs) {p : Addr} (hok : ∀ k, ok k → k ≠ p.block) (u : Value) : d.R e (w.setCell p u) base ok v xs := x1K h (fun k ho _ => Below.heap_setCell w p u k (hok k ho))
theorem y1A (h : d.R e w base ok v xs) {g t : Nat} {cells : Array Value} (hb : w.heap[g]? = some (.cells cells t (0, 0))) (ht : ∀ q, q ∈ e :: d.E → q ≠ t) : d.R e w base (fun k => ok k ∧ k ≠ g) v xs :=
  z3D (z4W h) (fun k hk => ⟨hk.1, by
    obtain ⟨_, _, _, q, hq, cells', hc⟩ := hk
    rintro rfl
    rw [hc] at hb
    injection hb with hb
    injection hb with _ hb
    exact ht q hq hb⟩)
theorem z4i (h : d.R e w base ok v xs) : ∃ A c, v = .slice A xs.length c ∧ xs.length ≤ c ∧ d.C w A xs.length xs := by
  obtain ⟨A, c, he, hl, hr⟩ := z3Y.reads h.2
  exact ⟨A, c, he, hl, hr.y6B (Below.refl _ _) (fun _ _ hp => d.K_of_M hp)⟩
theorem z2q (h : d.R e w base ok v xs) : ∃ A c, v = .slice A xs.length c := by
  obtain ⟨A, c, he, _⟩ := z4i h
  exact ⟨A, c, he⟩
theorem x6y (h : d.R e w base ok v xs) : ∃ inner, w.ownsRow base e d.sz v xs.length inner := by
  obtain ⟨_, inner, ho, _⟩ := h
  exact ⟨inner, ho⟩
theorem x7G (h : d.R e w base ok v xs) {g t : Nat} {cells : Array Value} (hb : w.heap[g]? = some (.cells cells t (0, 0))) (ht : e ≠ t) : some g ≠ v.ownBlock := z3Y.x6w h.2 hb ht
theorem x1L {W : World} {b e0 s0 n0 : Nat} {u : Value} {ys : List Value} (h : d.R e w W.heap.size ok v xs) (ho : W.ownsRow b e0 s0 u n0 ys) : d.R e w W.heap.size (fun k => ok k ∧ some k ≠ u.ownBlock) v xs :=
  z3D (z4W h) (fun k hk => ⟨hk.1, fun e => by have := x1G ho k e.symm; omega⟩)
end
def scalar {α : Type} (enc : α → Value) (h1 : ∀ x, (enc x).oneCell' = true) : Kd α where
  sz := 1
  E := []
  K := fun _ x cs => cs = [enc x]
  M := fun _ _ _ x cs => cs = [enc x]
  K_len := fun h => by rw [h]; rfl
  K_one := fun h u hu => by
    rw [h] at hu
    rw [List.mem_singleton.1 hu]
    exact h1 _
  K_below := fun _ h => h
  K_of_M := fun h => h
  M_mono := fun _ h => h
  M_bound := fun h => h
  M_move := fun _ h => h
  M_lower := fun _ h => h
def int (k : IntKind) : Kd Int := scalar (Value.int k) (fun _ => rfl)
def bool : Kd Bool := scalar Value.bool (fun _ => rfl)
def string : Kd ByteArray := scalar Value.string (fun _ => rfl)
def slice {α : Type} (e : Nat) (d : Kd α) : Kd (List α) where
  sz := 1
  E := e :: d.E
  K := fun w xs cs => ∃ A c, cs = [.slice A xs.length c] ∧ xs.length ≤ c ∧ d.C w A xs.length xs
  M := fun w base ok xs cs => ∃ v, cs = [v] ∧ d.R e w base ok v xs
  K_len := by
    rintro w x cs ⟨A, c, rfl, _⟩
    rfl
  K_one := by
    rintro w x cs ⟨A, c, rfl, _⟩ u hu
    rw [List.mem_singleton.1 hu]
    rfl
  K_below := by
    rintro w w1 x cs hb ⟨A, c, rfl, hl, hr⟩
    exact ⟨A, c, rfl, hl, z0t hr hb⟩
  K_of_M := by
    rintro w base ok x cs ⟨v, rfl, h⟩
    obtain ⟨A, c, rfl, hl, hr⟩ := z4i h
    exact ⟨A, c, rfl, hl, hr⟩
  M_mono := by
    rintro w base ok ok' x cs hok ⟨v, rfl, h⟩
    exact ⟨v, rfl, z3D h hok⟩
  M_bound := by
    rintro w base ok x cs ⟨v, rfl, h⟩
    exact ⟨v, rfl, z4W h⟩
  M_move := by
    rintro w w1 base ok x cs hm ⟨v, rfl, h⟩
    exact ⟨v, rfl, z8Y h hm⟩
  M_lower := by
    rintro w base base' ok x cs hb ⟨v, rfl, h⟩
    exact ⟨v, rfl, z2n h hb⟩
def pair {α β : Type} (a : Kd α) (b : Kd β) : Kd (α × β) where
  sz := a.sz + b.sz
  E := a.E ++ b.E
  K := fun w x cs => ∃ c0 c1, cs = c0 ++ c1 ∧ a.K w x.1 c0 ∧ b.K w x.2 c1
  M := fun w base ok x cs => ∃ c0 c1, cs = c0 ++ c1 ∧ a.M w base ok x.1 c0 ∧ b.M w base ok x.2 c1
  K_len := by
    rintro w x cs ⟨c0, c1, rfl, h0, h1⟩
    rw [List.length_append, a.K_len h0, b.K_len h1]
  K_one := by
    rintro w x cs ⟨c0, c1, rfl, h0, h1⟩ u hu
    rcases List.mem_append.1 hu with hu | hu
    · exact a.K_one h0 u hu
    · exact b.K_one h1 u hu
  K_below := by
    rintro w w1 x cs hb ⟨c0, c1, rfl, h0, h1⟩
    exact ⟨c0, c1, rfl, a.K_below hb h0, b.K_below hb h1⟩
  K_of_M := by
    rintro w base ok x cs ⟨c0, c1, rfl, h0, h1⟩
    exact ⟨c0, c1, rfl, a.K_of_M h0, b.K_of_M h1⟩
  M_mono := by
    rintro w base ok ok' x cs hok ⟨c0, c1, rfl, h0, h1⟩
    exact ⟨c0, c1, rfl, a.M_mono hok h0, b.M_mono hok h1⟩
  M_bound := by
    rintro w base ok x cs ⟨c0, c1, rfl, h0, h1⟩
    refine ⟨c0, c1, rfl, a.M_mono ?_ (a.M_bound h0), b.M_mono ?_ (b.M_bound h1)⟩
    · rintro k ⟨h2, h3, h4, q, hq, hc⟩
      exact ⟨h2, h3, h4, q, List.mem_append_left _ hq, hc⟩
    · rintro k ⟨h2, h3, h4, q, hq, hc⟩
      exact ⟨h2, h3, h4, q, List.mem_append_right _ hq, hc⟩
  M_move := by
    rintro w w1 base ok x cs hm ⟨c0, c1, rfl, h0, h1⟩
    exact ⟨c0, c1, rfl, a.M_move hm h0, b.M_move hm h1⟩
  M_lower := by
    rintro w base base' ok x cs hb ⟨c0, c1, rfl, h0, h1⟩
    exact ⟨c0, c1, rfl, a.M_lower hb h0, b.M_lower hb h1⟩
def iso {α β : Type} (d : Kd α) (f : β → α) : Kd β where
  sz := d.sz
  E := d.E
  K := fun w x cs => d.K w (f x) cs
  M := fun w base ok x cs => d.M w base ok (f x) cs
  K_len := d.K_len
  K_one := d.K_one
  K_below := d.K_below
  K_of_M := d.K_of_M
  M_mono := d.M_mono
  M_bound := d.M_bound
  M_move := d.M_move
  M_lower := d.M_lower
def bot {α : Type} (sz : Nat) (E : List Nat) : Kd α where
  sz := sz
  E := E
  K := fun _ _ _ => False
  M := fun _ _ _ _ _ => False
  K_len := fun h => h.elim
  K_one := fun h => h.elim
  K_below := fun _ h => h
  K_of_M := fun h => h
  M_mono := fun _ h => h
  M_bound := fun h => h
  M_move := fun _ h => h
  M_lower := fun _ h => h
def upto {α : Type} (F : Kd α → Kd α) (sz : Nat) (E : List Nat) : Nat → Kd α
  | 0 => bot sz E
  | n + 1 => F (upto F sz E n)
theorem y4R {α : Type} {d : Kd α} {w : World} {A : Option Addr} {n : Nat} {xs : List α} (h : d.C w A n xs) (z : α) (i : Int) (h0 : 0 ≤ i) (h1 : i < n) :
    ∃ ad c, A = some ad ∧ c.length = d.sz ∧ d.K w (xs.getD i.toNat z) c ∧ ∀ j u, c[j]? = some u → w.cell? (ad.add (i.toNat * d.sz + j)) = some u := z2F.get_ h z i h0 h1
theorem x0V {α : Type} {d : Kd α} {e base : Nat} {ok okp : Nat → Prop} {W w1 : World} {v v1 : Value} {xs : List α} {p : α} {inner cs : List Value} (h0 : ∀ k, v.ownBlock = some k → ok k) (hr : Reps (d.M W base (fun k => ok k ∧ some k ≠ v.ownBlock)) d.sz xs inner) (hp : d.M W base okp p cs) (hokp : ∀ k, okp k → ok k ∧ some k ≠ v.ownBlock) (hfresh : ∀ k, W.heap.size ≤ k → ok k)
    (hown : w1.ownsRow base e d.sz v1 (xs.length + 1) (inner ++ cs)) (hg : W.grownBy w1 v.ownBlock) (hat : v1.ownBlock = v.ownBlock ∨ ∃ b, v1.ownBlock = some b ∧ W.heap.size ≤ b) : d.R e w1 base ok v1 (xs ++ [p]) := by
  have hne : ∀ k, some k ≠ v.ownBlock → k < W.heap.size → some k ≠ v1.ownBlock := by
    intro k hk hlt
    rcases hat with hat | ⟨b, hb, hle⟩
    · rw [hat]; exact hk
    · rw [hb]
      intro he
      injection he with he
      omega
  have step : ∀ {q : α} {c : List Value} {o : Nat → Prop}, d.M W base o q c → (∀ k, o k → ok k ∧ some k ≠ v.ownBlock) → d.M w1 base (fun k => ok k ∧ some k ≠ v1.ownBlock) q c := by
    intro q c o hq ho
    have h1 := d.M_move (w1 := w1) (fun k hk => hg.block k hk.2.2.1 (ho k hk.1).2) (d.M_bound hq)
    exact d.M_mono (fun k hk => ⟨(ho k hk.1).1, hne k (ho k hk.1).2 hk.2.2.1⟩) h1
  refine ⟨fun k hk => ?_, inner ++ cs, by rw [List.length_append, List.length_singleton]; exact hown, ?_⟩
  · rcases hat with hat | ⟨b, hb, hle⟩
    · exact h0 k (hat ▸ hk)
    · rw [hb] at hk
      injection hk with hk
      exact hfresh k (by omega)
  · exact (hr.y6B (fun _ _ hq => step hq (fun _ hk => hk))).snoc (step hp hokp) (d.K_len (d.K_of_M hp))
section
variable {P : Program} {ops : Array Oper} {rest : List Oper} {o : Oper} {a : Act} {Q : Exit → Act → World → Prop} {α : Type}
theorem z9S (d : Kd α) {w0 W : World} (base : Nat) (hgd : o.guard = none) (s x : Operand) (t e : TypeId) (z : Value) (bytes : Nat)
    (ho : o.op = .call { callee := .builtin .append, args := #[s, x], argTypes := #[t, t] })
    (ht : P.underlying t = some (.slice e)) (hinfo : (P.info? e).map (fun i => (i.zero, i.size, i.bytes)) = some (some z, d.sz, bytes)) (hz : z.cells.size = d.sz) (hs0 : 0 < d.sz) (hb0 : 0 < bytes)
    (v : Value) (xs : List α) (p : α) (cs : List Value) (ok okp : Nat → Prop) (hs : a.eval s = v) (hx : a.eval x = .slice (some ⟨W.heap.size, 0, none⟩) 1 1) (hp : d.M W base okp p cs) (hokp : ∀ k, okp k → ok k ∧ some k ≠ v.ownBlock) (hfresh : ∀ k, W.heap.size ≤ k → ok k)
    (HO : d.R e W base ok v xs) (HB : Below base w0 W) (hbase : base ≤ W.heap.size) (hl : (xs.length + 1) * bytes ≤ 140737488355328)
    (h : ∀ v1 w1, d.R e w1 base ok v1 (xs ++ [p]) → Below base w0 w1 → W.grownBy w1 v.ownBlock → (v1.ownBlock = v.ownBlock ∨ ∃ b, v1.ownBlock = some b ∧ W.heap.size ≤ b) → wpList P ops Q rest (a.put o.dst v1) w1) :
    wpList P ops Q (o :: rest) a (W.alloc (.cells cs.toArray e)) := by
  obtain ⟨h0, inner, hown, hr⟩ := HO
  refine z5R base hgd s x t e z d.sz bytes ho ht hinfo hz hs0 hb0 v xs.length inner cs hs hx (d.K_len (d.K_of_M hp)) (d.K_one (d.K_of_M hp)) hown HB hbase hl ?_
  intro v1 w1 hown1 hb1 hg1 hat1
  exact h v1 w1 (x0V h0 hr hp hokp hfresh hown1 hg1 hat1) hb1 hg1 hat1
end
section
variable {P : Program} {ops : Array Oper} {o : Oper} {a : Act} {Q : Exit → Act → World → Prop} {Kc : Act → World → Prop} {α : Type}
end
theorem y7M {α : Type} {enc : α → Value} (xs : List α) : Reps (fun (x : α) (cs : List Value) => cs = [enc x]) 1 xs (encs enc xs) := by
  refine ⟨by simp [encs], fun j p hj => ?_⟩
  obtain ⟨hl, hp⟩ := List.getElem?_eq_some_iff.1 hj
  have hl' : j < (encs enc xs).length := by rw [y1y]; exact hl
  rw [Nat.mul_one, List.drop_eq_getElem_cons hl']
  simp [encs, hp]
theorem x6z {α : Type} {enc : α → Value} {h1 : ∀ x, (enc x).oneCell' = true} {e : Nat} {w : World} {base : Nat} {ok : Nat → Prop} {v : Value} {xs : List α} (ho : w.ownsRow base e 1 v xs.length (encs enc xs)) (hok : ∀ k, v.ownBlock = some k → ok k) : (scalar enc h1).R e w base ok v xs := ⟨hok, encs enc xs, ho, y7M xs⟩
theorem x0o {α : Type} {enc : α → Value} {h1 : ∀ x, (enc x).oneCell' = true} {e : Nat} {w : World} {base : Nat} {ok : Nat → Prop} {v : Value} {xs : List α} (h : (scalar enc h1).R e w base ok v xs) : w.ownsRow base e 1 v xs.length (encs enc xs) := by
  obtain ⟨_, inner, ho, hr⟩ := h
  have : inner = encs enc xs := by
    apply List.ext_getElem?
    intro j
    rcases Nat.lt_or_ge j xs.length with hj | hj
    · have h2 := hr.2 j _ (List.getElem?_eq_getElem hj)
      have hl : j < inner.length := by have := hr.1; simp [scalar] at this; omega
      have h3 : (inner.drop (j * 1)).take 1 = [enc xs[j]] := h2
      rw [Nat.mul_one, List.drop_eq_getElem_cons hl] at h3
      have h4 : inner[j] = enc xs[j] := by
        have h5 := congrArg List.head? h3
        rw [List.take_succ_cons] at h5
        exact Option.some.inj h5
      rw [List.getElem?_eq_getElem hl, h4]
      simp [encs, List.getElem?_eq_getElem hj]
    · have h3 : inner.length = xs.length := by have := hr.1; simp [scalar] at this; omega
      rw [List.getElem?_eq_none (by omega), List.getElem?_eq_none (by rw [y1y]; omega)]
  rw [← this]
  exact ho
theorem y0p {α : Type} {enc : α → Value} {d : α} {h1 : ∀ x, (enc x).oneCell' = true} {w : World} {A : Option Addr} {n : Nat} {xs : List α} (h : (scalar enc h1).C w A n xs) : z3g enc d w A n xs := by
  refine ⟨h.1, h.2.1, fun hn => ?_⟩
  obtain ⟨ad, e, hc⟩ := h.2.2 hn
  refine ⟨ad, e, fun j hj => ?_⟩
  have hl : j < xs.length := by have := h.1; omega
  obtain ⟨c, _, hK, hcell⟩ := hc j _ (List.getElem?_eq_getElem hl)
  have hK' : c = [enc xs[j]] := hK
  subst hK'
  have := hcell 0 _ rfl
  simpa [scalar, List.getD_eq_getElem?_getD, List.getElem?_eq_getElem hl] using this
end Kd
namespace Kd
structure Mono {α β : Type} (F : Kd α → Kd β) : Prop where
  sz : ∀ d d' : Kd α, d.sz = d'.sz → (F d).sz = (F d').sz
  K : ∀ d d' : Kd α, d.sz = d'.sz → (∀ w x cs, d.K w x cs → d'.K w x cs) → ∀ w x cs, (F d).K w x cs → (F d').K w x cs
  M : ∀ d d' : Kd α, d.sz = d'.sz → (∀ w base ok x cs, d.M w base ok x cs → d'.M w base ok x cs) → ∀ w base ok x cs, (F d).M w base ok x cs → (F d').M w base ok x cs
section
variable {α : Type} {F : Kd α → Kd α} {sz : Nat} {E : List Nat} {hs : ∀ n, (upto F sz E n).sz = sz} {hE : ∀ n q, q ∈ (upto F sz E n).E → q ∈ E}
end
end Kd
namespace Kd
end Kd
namespace Kd
section
variable {α β : Type} {d : Kd α} {d' : Kd β} {e e' : Nat} {w w1 W : World} {base b b' : Nat} {ok ok' okv oku : Nat → Prop} {v u : Value} {xs : List α} {ys : List β}
theorem z0Z (h : d.R e w base ok v xs) (o : Obj) : d.R e (w.alloc o) base ok v xs := z2f h (z1w (Below.refl _ _) o)
theorem z1n (h : d.R e w base ok v xs) : d.R e w.drew base ok v xs := z2f h (z4r (Below.refl _ _))
theorem z0Y (h : d.R e w base ok v xs) (m : Nat) : d.R e (w.drewN m) base ok v xs := z2f h (z1d (Below.refl _ _) m)
theorem z3F {A : Option Addr} {n : Nat} (h : d.C w A n xs) (o : Obj) : d.C (w.alloc o) A n xs := z0t h (z1w (Below.refl _ _) o)
theorem z3x {A : Option Addr} {n : Nat} (h : d.C w A n xs) : d.C w.drew A n xs := z0t h (z4r (Below.refl _ _))
theorem z3G {A : Option Addr} {n : Nat} (h : d.C w A n xs) (m : Nat) : d.C (w.drewN m) A n xs := z0t h (z1d (Below.refl _ _) m)
theorem C_nil (d : Kd α) (w : World) : d.C w none ([] : List α).length [] := ⟨rfl, by simp, fun h => absurd h (Nat.lt_irrefl 0)⟩
theorem y1m {A : Option Addr} {n : Nat} (h : d.C w A n xs) : n ≤ 9223372036854775807 := h.2.1
theorem z1K {A : Option Addr} {n c : Nat} (h : d.R e w base ok (.slice A n c) xs) : n = xs.length ∧ n ≤ c ∧ d.C w A xs.length xs := by
  obtain ⟨A', c', he, hl, hr⟩ := z4i h
  injection he with h1 h2 h3
  subst h1
  exact ⟨h2, by omega, hr⟩
theorem w2j (h : d.R e w base ok v xs) : ∀ k, v.ownBlock = some k → k < w.heap.size := by
  obtain ⟨inner, ho⟩ := x6y h
  exact x1G ho
theorem y6G (h : d.R e w base ok v xs) : ∀ k, v.ownBlock = some k → base ≤ k := by
  obtain ⟨inner, ho⟩ := x6y h
  exact z9R ho
theorem z9T (h : d.R e w base ok v xs) (hp : 0 < xs.length) : ∃ g cap, v = .slice (some ⟨g, 0, none⟩) xs.length cap ∧ base ≤ g ∧ g < w.heap.size ∧ ∃ cells, w.heap[g]? = some (.cells cells e (0, 0)) := by
  obtain ⟨inner, ho⟩ := x6y h
  obtain ⟨g, cap, he, hb, hl⟩ := ho.form hp
  obtain ⟨cells, hc⟩ := y1z ho g (by rw [he]; simp [Value.ownBlock])
  exact ⟨g, cap, he, hb, hl, cells, hc⟩
end
section
variable {w W : World} {A : Option Addr} {n : Nat}
theorem z3d {k : IntKind} {xs : List Int} (h : (Kd.int k).C w A n xs) (i : Int) (h0 : 0 ≤ i) (h1 : i < n) : ∃ ad, A = some ad ∧ w.cell? (ad.add i.toNat) = some (.int k (rd xs i)) :=
  z3g.at_ (y0p (enc := Value.int k) (d := (0 : Int)) (h1 := fun _ => rfl) h) i h0 h1
theorem y4S {xs : List Bool} (h : Kd.bool.C w A n xs) (i : Int) (h0 : 0 ≤ i) (h1 : i < n) : ∃ ad, A = some ad ∧ w.cell? (ad.add i.toNat) = some (.bool (z7Q false xs i)) :=
  z3g.at_ (y0p (enc := Value.bool) (d := false) (h1 := fun _ => rfl) h) i h0 h1
theorem z7V {xs : List ByteArray} (h : Kd.string.C w A n xs) (i : Int) (h0 : 0 ≤ i) (h1 : i < n) : ∃ ad, A = some ad ∧ w.cell? (ad.add i.toNat) = some (.string (z7Q ByteArray.empty xs i)) :=
  z3g.at_ (y0p (enc := Value.string) (d := ByteArray.empty) (h1 := fun _ => rfl) h) i h0 h1
variable {α : Type} {enc : α → Value} {h1 : ∀ x, (enc x).oneCell' = true} {e base g cap : Nat} {ok : Nat → Prop} {xs : List α}
theorem w2n (d : α) (h : (scalar enc h1).R e W base ok (.slice (some ⟨g, 0, none⟩) xs.length cap) xs) (i : Int) (h0 : 0 ≤ i) (hi : i < xs.length) : W.cell? ⟨g, i.toNat, none⟩ = some (enc (z7Q d xs i)) ∧ W.frozen? ⟨g, i.toNat, none⟩ = false := x1I (x0o h) i h0 hi
theorem w2o (h : (scalar enc h1).R e W base ok (.slice (some ⟨g, 0, none⟩) xs.length cap) xs) (i : Int) (x : α) : (scalar enc h1).R e (W.setCell ⟨g, i.toNat, none⟩ (enc x)) base ok (.slice (some ⟨g, 0, none⟩) xs.length cap) (xs.set i.toNat x) ∧ W.grownBy (W.setCell ⟨g, i.toNat, none⟩ (enc x)) (some g) := by
  obtain ⟨ho, hg⟩ := y6F (x0o h) i x
  exact ⟨x6z (by rw [List.length_set]; exact ho) h.1, hg⟩
end
section
variable {P : Program} {ops : Array Oper} {rest : List Oper} {o : Oper} {a : Act} {Q : Exit → Act → World → Prop}
theorem y1B {W w1 : World} {v : Value} (hgd : o.guard = none) (hrun : (execOp a.eval o).run P W = .ok (.value v) w1) (h : wpList P ops Q rest (a.put o.dst v) w1) : wpList P ops Q (o :: rest) a W := by
  refine wpList_plain hgd fun K hK => ?_
  unfold Oper.wp
  rw [hrun]
  exact hK _ _ h
variable {α : Type}
theorem y6H (d : Kd α) {w0 W : World} (base e : Nat) (hgd : o.guard = none) {N : Tmp} (_hd : o.dst = some N) {xs : List α} {inner : List Value} {ok okp : Nat → Prop}
    (hrun : (execOp a.eval o).run P W = .ok (.value (.slice (some ⟨W.heap.size, 0, none⟩) xs.length xs.length)) (W.alloc (.cells inner.toArray e)))
    (hrep : Reps (d.M W base okp) d.sz xs inner) (hok : ∀ k, okp k → ok k) (hfresh : ok W.heap.size) (HB : Below base w0 W) (hbase : base ≤ W.heap.size) (hm : xs.length ≤ 9223372036854775807)
    (h : ∀ v1 w1, d.R e w1 base ok v1 xs → Below base w0 w1 → W.grownBy w1 none → (∃ b, v1.ownBlock = some b ∧ W.heap.size ≤ b) → wpList P ops Q rest (a.put o.dst v1) w1) : wpList P ops Q (o :: rest) a W := by
  refine y1B hgd hrun (h _ _ ⟨fun k hk => ?_, inner, ?_, ?_⟩ (HB.alloc hbase _) (World.grownBy_alloc W _ none) ⟨W.heap.size, by simp [Value.ownBlock], Nat.le_refl _⟩)
  · have : W.heap.size = k := by simpa [Value.ownBlock] using hk
    subst this
    exact hfresh
  · have h2 := World.ownsRow_lit (base := base) (e := e) (size := d.sz) W inner.toArray xs.length hbase (by simpa [maxLen] using hm) (by simpa using hrep.1)
    simpa using h2
  · refine hrep.y6B (fun p c hp => d.M_mono (fun k hk => ⟨hok k hk.1, fun he => ?_⟩) (x8a (d.M_bound hp) (z1w (Below.refl _ _) _)))
    have h3 : k = W.heap.size := by simpa [Value.ownBlock] using he
    have := hk.2.2.1
    omega
theorem x1M {α : Type} {R : α → List Value → Prop} {z : Value} {size : Nat} {z0 : α} (hz : z.cells.size = size) (hs : 0 < size) (h0 : R z0 z.cells.toList) (m : Nat) : Reps R size (List.replicate m z0) (madeCells z.cells (m * size)).toList := by
  refine ⟨by simp [size_madeCells], fun j p hj => ?_⟩
  obtain ⟨hjl, hp⟩ := List.getElem?_eq_some_iff.1 hj
  have hjm : j < m := by simpa using hjl
  have hp' : z0 = p := by simpa using hp
  subst hp'
  have hle : j * size + size ≤ m * size := by rw [← Nat.succ_mul]; exact Nat.mul_le_mul_right _ hjm
  have : ((madeCells z.cells (m * size)).toList.drop (j * size)).take size = z.cells.toList := by
    apply List.ext_getElem
    · simp [size_madeCells, hz]
      omega
    · intro i h1 h2
      have hi : i < size := by rw [Array.length_toList, hz] at h2; exact h2
      have hmod : (j * size + i) % size = i := by
        rw [Nat.mul_comm, Nat.mul_add_mod]
        exact Nat.mod_eq_of_lt hi
      simp [madeCells, hz, hmod]
      rw [getElem!_pos z.cells i (by omega)]
  rw [this]
  exact h0
theorem x7H (d : Kd α) {w0 W : World} (base e : Nat) (hgd : o.guard = none) {N : Tmp} (hd : o.dst = some N) (t : TypeId) (x y : Operand) (ho : o.op = .makeSlice t x y) (n : Int) (hx : a.eval x = .int .i64 n) (hy : a.eval y = .int .i64 n)
    (ht : P.underlying t = some (.slice e)) (z : Value) (bytes : Nat) (hinfo : (P.info? e).map (fun i => (i.zero, i.size, i.bytes)) = some (some z, d.sz, bytes)) (hz : z.cells.size = d.sz) (hs0 : 0 < d.sz) (hb0 : 0 < bytes)
    (z0 : α) {ok okp : Nat → Prop} (hzero : d.M W base okp z0 z.cells.toList) (hok : ∀ k, okp k → ok k) (hfresh : ok W.heap.size) (h0 : 0 ≤ n) (hl : n.toNat * bytes ≤ 281474976710656) (HB : Below base w0 W) (hbase : base ≤ W.heap.size)
    (h : ∀ v1 w1, d.R e w1 base ok v1 (List.replicate n.toNat z0) → Below base w0 w1 → W.grownBy w1 none → (∃ b, v1.ownBlock = some b ∧ W.heap.size ≤ b) → wpList P ops Q rest (a.put o.dst v1) w1) : wpList P ops Q (o :: rest) a W := by
  obtain ⟨m, rfl⟩ := Int.eq_ofNat_of_zero_le h0
  simp only [Int.toNat_natCast] at hl h
  obtain ⟨i0, hi, hzz⟩ := Option.map_eq_some_iff.1 hinfo
  simp only [Prod.mk.injEq] at hzz
  obtain ⟨hz0, hz1, hz2⟩ := hzz
  have hm : m ≤ 281474976710656 := Nat.le_trans (Nat.le_mul_of_pos_right _ hb0) hl
  have hr := run_make (P := P) W t e i0 z ht hi hz0 .i64 .i64 (m : Int) (m : Int) (by omega) (by omega)
    (by
      have h3 : ((i0.bytes * m : Nat) : Int) ≤ 281474976710656 := by rw [hz2, Nat.mul_comm]; omega
      rwa [Int.natCast_mul] at h3) (by omega)
  simp only [Int.toNat_natCast] at hr
  rw [hz1] at hr
  refine y6H d base e hgd hd (xs := List.replicate m z0) (inner := (madeCells z.cells (m * d.sz)).toList) (okp := okp) (ok := ok) ?_ (x1M hz hs0 hzero m) hok hfresh HB hbase (by simp; omega) h
  simp [execOp, ho, hx, hy, hr]
end
end Kd
section
variable {P : Program}
theorem x6A (t e : TypeId) (kl : IntKind) {i : TypeInfo} (ht : P.underlying t = some (.slice e)) (hi : P.info? e = some i) (size : Nat) (hsz : i.size = size) (A : Option Addr) (n c : Nat) (j : Int) (h0 : 0 ≤ j) (hm : j ≤ n) :
    ∀ W : World, (Instr.slice t (.slice A n c) (some (.int kl j)) none none).run P W = .ok (.slice (if c = j.toNat then A else A.map (·.add (j.toNat * size))) (n - j.toNat) (c - j.toNat)) W := by
  intro W
  have hel : P.elem t = e := by simp [Program.elem, ht]
  have hu : P.underlying t = some (.slice (P.elem t)) := by rw [hel]; exact ht
  rw [run_slice_l W t A n c hu kl j h0 hm, hel]
  simp [sizeOf, typeInfo, hi, hsz, sliced, Result.andThen]
end
def QRow (w : World) (base : Nat) (e : TypeId) (size : Nat) (v : Value) (n : Nat) (xs : List Value) : Prop :=
  xs.length = n * size ∧
  ((n = 0 ∧ ∃ A, v = .slice A 0 0 ∧ ∀ a, A = some a → base ≤ a.block ∧ ∃ cur, w.heap[a.block]? = some (.cells cur e (0, 0))) ∨
   ∃ g off cap cur, v = .slice (some ⟨g, off * size, none⟩) n cap ∧ base ≤ g ∧ w.heap[g]? = some (.cells cur e (0, 0)) ∧ n ≤ cap ∧ off + cap ≤ maxLen ∧ cur.size = (off + cap) * size ∧ (cur.toList.drop (off * size)).take (n * size) = xs)
section
variable {w w1 : World} {base n size : Nat} {e : TypeId} {v : Value} {xs : List Value}
theorem x6B (h : w.ownsRow base e size v n xs) : QRow w base e size v n xs := by
  obtain ⟨h1, h2⟩ := h
  refine ⟨h1, ?_⟩
  rcases h2 with ⟨rfl, h0⟩ | ⟨g, cap, cur, rfl, hb, hh, hnc, hcm, hcs, ht⟩
  · exact .inl ⟨h0, none, rfl, fun a ha => by cases ha⟩
  · exact .inr ⟨g, 0, cap, cur, by rw [Nat.zero_mul], hb, hh, hnc, by rw [Nat.zero_add]; exact hcm, by rw [Nat.zero_add]; exact hcs, by rw [Nat.zero_mul, List.drop_zero]; exact ht⟩
theorem x7I (g o j : Nat) : (⟨g, o, none⟩ : Addr).add j = ⟨g, o + j, none⟩ := by unfold Addr.add; split <;> simp_all
end
section
variable {P : Program}
end
namespace Kd
def Q {α : Type} (d : Kd α) (e : Nat) (w : World) (base : Nat) (ok : Nat → Prop) (v : Value) (xs : List α) : Prop :=
  (∀ k, v.ownBlock = some k → ok k) ∧ ∃ inner, QRow w base e d.sz v xs.length inner ∧ Reps (d.M w base (fun k => ok k ∧ some k ≠ v.ownBlock)) d.sz xs inner
section
variable {α : Type} {d : Kd α} {e : Nat} {w w1 W : World} {base : Nat} {ok ok' : Nat → Prop} {v : Value} {xs : List α}
theorem w2p (h : d.R e w base ok v xs) : d.Q e w base ok v xs := by
  obtain ⟨h0, inner, ho, hr⟩ := h
  exact ⟨h0, inner, x6B ho, hr⟩
theorem y6I (d : Kd α) (e : Nat) (w : World) (base : Nat) (ok : Nat → Prop) : d.Q e w base ok (.slice none 0 0) [] := w2p (z5O d e w base ok)
end
section
variable {P : Program} {ops : Array Oper} {rest : List Oper} {o : Oper} {a : Act} {Q' : Exit → Act → World → Prop} {Kc : Act → World → Prop} {α : Type}
end
end Kd
namespace Kd
section
variable {α : Type} {d : Kd α} {e e' : Nat} {w w1 W : World} {base : Nat} {ok : Nat → Prop} {u v : Value} {xs : List α}
theorem x8b (h : d.R e w base ok v xs) : ∀ k, v.ownBlock = some k → ∃ cells, w.heap[k]? = some (.cells cells e (0, 0)) := by
  obtain ⟨inner, ho⟩ := x6y h
  exact fun k hk => y1z ho k hk
theorem x8c (h : d.R e W base ok u xs) (hty : ∀ k, v.ownBlock = some k → ∃ cells, W.heap[k]? = some (.cells cells e' (0, 0))) (ht : ∀ q, q ∈ e :: d.E → q ≠ e') (hg : W.grownBy w1 v.ownBlock) : d.R e w1 base ok u xs := by
  refine z3D (z8Y (z4W h) (fun k hk => hg.block k hk.2.2.1 (fun he => ?_))) (fun _ hk => hk.1)
  obtain ⟨_, _, _, q, hq, cells, hc⟩ := hk
  obtain ⟨cells', hc'⟩ := hty k he.symm
  rw [hc] at hc'
  injection hc' with hc'
  injection hc' with _ hc'
  exact ht q hq hc'
theorem y1r (hu : d.R e W base ok u xs) (hbase : ∀ k, v.ownBlock = some k → W.heap.size ≤ k) (hb : Below W.heap.size W w1) : d.R e w1 base (fun k => ok k ∧ some k ≠ v.ownBlock) u xs :=
  z3D (z8Y (z4W hu) (fun k hk => hb.block k hk.2.2.1)) (fun k hk => ⟨hk.1, fun he => by have := hbase k he.symm; have := hk.2.2.1; omega⟩)
theorem x0p (h : d.R e w1 W.heap.size ok v xs) (hlt : ∀ k, u.ownBlock = some k → k < W.heap.size) : d.R e w1 W.heap.size (fun k => ok k ∧ some k ≠ u.ownBlock) v xs :=
  z3D (z4W h) (fun k hk => ⟨hk.1, fun he => by have := hlt k he.symm; have := hk.2.1; omega⟩)
theorem fresh' (hlt : ∀ k, u.ownBlock = some k → k < W.heap.size) : ∀ k, W.heap.size ≤ k → some k ≠ u.ownBlock := fun k hk he => by have := hlt k he.symm; omega
end
end Kd
namespace Kd
section
variable {α : Type} {d : Kd α} {e base g n cap : Nat} {ok okp : Nat → Prop} {W : World} {xs : List α}
end
end Kd
namespace Kd
section
variable {α : Type} {F : Kd α → Kd α} {sz : Nat} {E : List Nat} {hs : ∀ n, (upto F sz E n).sz = sz} {hE : ∀ n q, q ∈ (upto F sz E n).E → q ∈ E}
end
end Kd
namespace Kd
theorem y1C {α : Type} {R : α → List Value → Prop} {size : Nat} {ps qs : List α} {cs ds : List Value} (h : Reps R size ps cs) (h' : Reps R size qs ds) : Reps R size (ps ++ qs) (cs ++ ds) := by
  refine ⟨by rw [List.length_append, List.length_append, h.1, h'.1, Nat.add_mul], fun j p hj => ?_⟩
  rcases Nat.lt_or_ge j ps.length with hlt | hge
  · rw [List.getElem?_append_left hlt] at hj
    have hle : j * size + size ≤ cs.length := by rw [h.1, ← Nat.succ_mul]; exact Nat.mul_le_mul_right _ hlt
    rw [List.drop_append_of_le_length (by omega), List.take_append_of_le_length (by rw [List.length_drop]; omega)]
    exact h.2 j p hj
  · rw [List.getElem?_append_right hge] at hj
    have h2 := h'.2 (j - ps.length) p hj
    have hle : ps.length * size ≤ j * size := Nat.mul_le_mul_right _ hge
    rw [List.drop_append, List.drop_eq_nil_of_le (by rw [h.1]; exact hle), List.nil_append, h.1, ← Nat.sub_mul]
    exact h2
section
variable {P : Program} {ops : Array Oper} {rest : List Oper} {o : Oper} {a : Act} {Q : Exit → Act → World → Prop} {α : Type}
theorem z5p (d : Kd α) {Rr : α → List Value → Prop} {w0 W : World} (base : Nat) (hgd : o.guard = none) (s x : Operand) (t e : TypeId) (z : Value) (bytes : Nat)
    (ho : o.op = .call { callee := .builtin .append, args := #[s, x], argTypes := #[t, t] })
    (ht : P.underlying t = some (.slice e)) (hinfo : (P.info? e).map (fun i => (i.zero, i.size, i.bytes)) = some (some z, d.sz, bytes)) (hz : z.cells.size = d.sz) (hs0 : 0 < d.sz) (hb0 : 0 < bytes)
    (v : Value) (xs ys : List α) (A : Option Addr) (m c : Nat) (ok okp : Nat → Prop) (hs : a.eval s = v) (hx : a.eval x = .slice A m c)
    (HO : d.R e W base ok v xs) (HR : z2F Rr d.sz W A m ys) (hKM : ∀ x cs, Rr x cs → d.M W base okp x cs) (hokp : ∀ k, okp k → ok k ∧ some k ≠ v.ownBlock) (hfresh : ∀ k, W.heap.size ≤ k → ok k)
    (HB : Below base w0 W) (hbase : base ≤ W.heap.size) (hl : (xs.length + m) * bytes ≤ 140737488355328)
    (h : ∀ v1 w1, d.R e w1 base ok v1 (xs ++ ys) → Below base w0 w1 → W.grownBy w1 v.ownBlock → (v1.ownBlock = v.ownBlock ∨ ∃ b, v1.ownBlock = some b ∧ W.heap.size ≤ b) → wpList P ops Q rest (a.put o.dst v1) w1) :
    wpList P ops Q (o :: rest) a W := by
  obtain ⟨i0, hi, hzz⟩ := Option.map_eq_some_iff.1 hinfo
  simp only [Prod.mk.injEq] at hzz
  obtain ⟨hz0, hz1, hz2⟩ := hzz
  have hm : ys.length = m := HR.1
  have hlen : xs.length + m ≤ 140737488355328 := Nat.le_trans (Nat.le_mul_of_pos_right _ hb0) hl
  obtain ⟨hok, inner, hown, hr⟩ := HO
  have hrun : ∃ v1 w1, (Builtin.append_ #[t, t] o.type #[v, .slice A m c]).run P W = .ok v1 w1 ∧ d.R e w1 base ok v1 (xs ++ ys) ∧ W.grownBy w1 v.ownBlock ∧ (v1.ownBlock = v.ownBlock ∨ ∃ b, v1.ownBlock = some b ∧ W.heap.size ≤ b) := by
    rcases A with _ | ad
    · have h0 : m = 0 := by
        rcases Nat.eq_zero_or_pos m with h0 | h0
        · exact h0
        · obtain ⟨ad, h, _⟩ := HR.2.2 h0
          cases h
      subst h0
      obtain rfl : ys = [] := List.eq_nil_of_length_eq_zero hm
      refine ⟨v, W, ?_, by rw [List.append_nil]; exact ⟨hok, inner, hown, hr⟩, World.grownBy.refl W _, .inl rfl⟩
      rcases hown.2 with ⟨rfl, hn⟩ | ⟨g, cap, cur, rfl, _, _, hnc, _⟩
      · simp [Builtin.append_, run_underlying ht, sizeOf, typeInfo, hi, Builtin.lenOf, Builtin.firstCells]
      · simp [Builtin.append_, run_underlying ht, sizeOf, typeInfo, hi, Builtin.lenOf, Builtin.firstCells, hnc, storeCells]
    · obtain ⟨news, hnr, hnc⟩ := z2F.x1J HR
      have hnM : Reps (d.M W base okp) d.sz ys news := hnr.y6B (fun p c hp => hKM p c hp)
      have hone : ∀ u ∈ news, u.oneCell' = true := by
        intro u hu
        obtain ⟨q, hq, rfl⟩ := List.mem_iff_getElem.1 hu
        have hql : q / d.sz < ys.length := by
          rw [Nat.div_lt_iff_lt_mul hs0]
          rw [← hnM.1]
          exact hq
        have hc := hnM.2 (q / d.sz) _ (List.getElem?_eq_getElem hql)
        refine d.K_one (d.K_of_M hc) _ ?_
        rw [List.mem_iff_getElem?]
        refine ⟨q % d.sz, ?_⟩
        rw [List.getElem?_take, if_pos (Nat.mod_lt _ hs0), List.getElem?_drop, Nat.mul_comm, Nat.div_add_mod, List.getElem?_eq_getElem hq]
      obtain ⟨v1, w1, hrun, h2, hg, _, hat⟩ := run_append_own_at (P := P) W base t o.type e i0 z d.sz bytes ht hi hz0 hz1 hz2 hz hs0 v xs.length inner hown ad m c news (by rw [hnM.1, hm]) hnc hone (by simp only [maxLen]; omega) hl hbase
      have hat' : v1.ownBlock = v.ownBlock ∨ ∃ b, v1.ownBlock = some b ∧ W.heap.size ≤ b := by
        rcases hat with hat | hat
        · exact .inl hat
        · exact .inr ⟨_, hat, Nat.le_refl _⟩
      have hne : ∀ k, some k ≠ v.ownBlock → k < W.heap.size → some k ≠ v1.ownBlock := by
        intro k hk hlt
        rcases hat' with hat | ⟨b, hb, hle⟩
        · rw [hat]; exact hk
        · rw [hb]
          intro he
          injection he with he
          omega
      have step : ∀ {q : α} {c : List Value} {o : Nat → Prop}, d.M W base o q c → (∀ k, o k → ok k ∧ some k ≠ v.ownBlock) → d.M w1 base (fun k => ok k ∧ some k ≠ v1.ownBlock) q c := by
        intro q c o hq ho
        have h1 := d.M_move (w1 := w1) (fun k hk => hg.block k hk.2.2.1 (ho k hk.1).2) (d.M_bound hq)
        exact d.M_mono (fun k hk => ⟨(ho k hk.1).1, hne k (ho k hk.1).2 hk.2.2.1⟩) h1
      refine ⟨v1, w1, hrun, ⟨fun k hk => ?_, inner ++ news, by rw [List.length_append, hm]; exact h2, y1C (hr.y6B (fun _ _ hq => step hq (fun _ hk => hk))) (hnM.y6B (fun _ _ hq => step hq hokp))⟩, hg, hat'⟩
      rcases hat' with hat | ⟨b, hb, hle⟩
      · exact hok k (hat ▸ hk)
      · rw [hb] at hk
        injection hk with hk
        exact hfresh k (by omega)
  obtain ⟨v1, w1, hr1, h1, hg, hat⟩ := hrun
  refine wpList_plain hgd fun K hK => ?_
  unfold Oper.wp execOp
  simp only [ho, resolve, invoke, builtin, Sem.run_bind, Sem.run_pure, Result.andThen_ok, List.map_toArray, List.map_cons, List.map_nil, hs, hx, hr1]
  exact hK _ _ (h v1 w1 h1 (HB.grown hg hbase (z9R hown)) hg hat)
end
end Kd
namespace Kd
section
variable {P : Program} {ops : Array Oper} {rest : List Oper} {o : Oper} {a : Act} {Q : Exit → Act → World → Prop} {α : Type}
end
end Kd
theorem add_add (a : Addr) (i j : Nat) : (a.add i).add j = a.add (i + j) := by
  unfold Addr.add
  by_cases h1 : i = 0 <;> by_cases h2 : j = 0 <;> simp [h1, h2, Nat.add_assoc]
namespace Kd
section
variable {α : Type} {k : Kd α} {w : World} {A : Option Addr} {xs : List α} {m c : Nat}
theorem w2q (h : k.C w A xs.length xs) (hm : m ≤ xs.length) (hc : xs.length ≤ c) : k.C w (if c = m then A else A.map (·.add (m * k.sz))) (xs.drop m).length (xs.drop m) := by
  have hl : (xs.drop m).length = xs.length - m := List.length_drop
  refine ⟨rfl, by rw [hl]; have := h.2.1; omega, fun hp => ?_⟩
  rw [hl] at hp
  obtain ⟨ad, rfl, hcell⟩ := h.2.2 (by omega)
  rw [if_neg (by omega)]
  refine ⟨ad.add (m * k.sz), rfl, fun j p hj => ?_⟩
  rw [List.getElem?_drop] at hj
  obtain ⟨cs, h1, h2, h3⟩ := hcell (m + j) p hj
  refine ⟨cs, h1, h2, fun i u hu => ?_⟩
  rw [add_add, show m * k.sz + (j * k.sz + i) = (m + j) * k.sz + i by rw [Nat.add_mul]; omega]
  exact h3 i u hu
end
end Kd
section
variable {P : Program}
end
theorem z1x {w W : World} (h : Below w.heap.size w W) : w.heap.size ≤ W.heap.size := h.size
theorem z2X {w W w2 : World} (h : Below w.heap.size w W) (k : Below W.heap.size W w2) : Below w.heap.size w w2 := y4s h h.size k
theorem z3f.nil (W : World) (k : IntKind) : z3f W k none ([] : List Int).length [] := ⟨rfl, by simp, fun h => absurd h (Nat.lt_irrefl 0)⟩
theorem z3f.drewN {W : World} {k : IntKind} {A : Option Addr} {n : Nat} {xs : List Int} (h : z3f W k A n xs) (m : Nat) : z3f (W.drewN m) k A n xs := h
theorem z1X {w W : World} {g j : Nat} {v : Value} (h : Below w.heap.size w W) (hg : w.heap.size ≤ g) : Below w.heap.size w (W.setCell ⟨g, j, none⟩ v) := h.setCell hg _
theorem y6J {w W : World} {g : Nat} (h : z3B w W g none) {a : Addr} {v : Value} (hc : w.cell? a = some v) (hne : a.block ≠ g) : W.cell? a = some v := by
  have := h.2 a.block (World.block_lt_of_cell? w a hc) hne (by simp)
  simpa [World.cell?, this] using hc
theorem add_block (a : Addr) (i : Nat) : (a.add i).block = a.block := by unfold Addr.add; split <;> rfl
theorem z3g.nil {α : Type} (enc : α → Value) (d : α) (W : World) : z3g enc d W none ([] : List α).length [] := ⟨rfl, by simp, fun h => absurd h (Nat.lt_irrefl 0)⟩
theorem z3g.drewN {α : Type} {enc : α → Value} {d : α} {W : World} {A : Option Addr} {n : Nat} {xs : List α} (h : z3g enc d W A n xs) (m : Nat) : z3g enc d (W.drewN m) A n xs := h
theorem z3f.keep {w W : World} {k : IntKind} {A : Option Addr} {n g : Nat} {xs : List Int} (h : z3f w k A n xs) (hk : z3B w W g none) (hf : ∀ ad, A = some ad → 0 < n → ad.block ≠ g) : z3f W k A n xs :=
  ⟨h.1, h.2.1, fun hn => by
    obtain ⟨ad, e, hc⟩ := h.2.2 hn
    exact ⟨ad, e, fun j hj => y6J hk (hc j hj) (by rw [add_block]; exact hf ad e hn)⟩⟩
theorem z3g.keep {α : Type} {enc : α → Value} {d : α} {w W : World} {A : Option Addr} {n g : Nat} {xs : List α} (h : z3g enc d w A n xs) (hk : z3B w W g none) (hf : ∀ ad, A = some ad → 0 < n → ad.block ≠ g) : z3g enc d W A n xs :=
  ⟨h.1, h.2.1, fun hn => by
    obtain ⟨ad, e, hc⟩ := h.2.2 hn
    exact ⟨ad, e, fun j hj => y6J hk (hc j hj) (by rw [add_block]; exact hf ad e hn)⟩⟩
theorem z0N {w : World} {g : Nat} {t : TypeId} {cs cs' : Array Value} (h : w.heap[g]? = some (.cells cs t (0, 0))) (i : Nat) (u : Value) (e : cs.setIfInBounds i u = cs') : (w.setCell ⟨g, i, none⟩ u).heap[g]? = some (.cells cs' t (0, 0)) := e ▸ z5s h i u
theorem z1l {base : Nat} {w W : World} (h : Below base w W) : Below base w W.drew := h.drew
namespace Kd
section
variable {α β : Type} {d : Kd α} {d' : Kd β} {e e' base base' n : Nat} {ok ok' : Nat → Prop} {w W w1 W1 : World} {v u : Value} {xs : List α} {ys : List β} {A : Option Addr} {c : Nat}
end
section
variable {α : Type} {enc : α → Value} {h1 : ∀ x, (enc x).oneCell' = true} {w W : World} {A : Option Addr} {n g : Nat} {xs : List α}
end
end Kd
namespace Kd
section
variable {α : Type} {d : Kd α} {e base g : Nat} {ok : Nat → Prop} {w w1 : World} {v : Value} {xs : List α} {o : Obj}
theorem w2r (hb : w.heap[g]? = some o) : ∀ k, w.heap.size ≤ k → k ≠ g := fun k hk => by have := z4s hb; omega
end
end Kd
section
variable {P : Program} {ops : Array Oper} {rest : List Oper} {o : Oper} {a : Act} {Q : Exit → Act → World → Prop}
end
namespace Kd
section
variable {α : Type} {enc : α → Value} {h1 : ∀ x, (enc x).oneCell' = true} {e base g n cap : Nat} {ok : Nat → Prop} {W : World} {xs : List α}
theorem y4T (d : α) (h : (scalar enc h1).R e W base ok (.slice (some ⟨g, 0, none⟩) n cap) xs) (i : Int) (h0 : 0 ≤ i) (hi : i < n) : W.cell? ⟨g, i.toNat, none⟩ = some (enc (z7Q d xs i)) ∧ W.frozen? ⟨g, i.toNat, none⟩ = false := by
  obtain ⟨rfl, _⟩ := z1K h
  exact w2n d h i h0 hi
theorem x7J (h : (scalar enc h1).R e W base ok (.slice (some ⟨g, 0, none⟩) n cap) xs) (i : Int) (x : α) : (scalar enc h1).R e (W.setCell ⟨g, i.toNat, none⟩ (enc x)) base ok (.slice (some ⟨g, 0, none⟩) n cap) (xs.set i.toNat x) := by
  obtain ⟨rfl, _⟩ := z1K h
  exact (w2o h i x).1
end
end Kd
section
variable {P : Program} {ops : Array Oper} {rest : List Oper} {o : Oper} {a : Act} {Q : Exit → Act → World → Prop}
theorem y1D {W w1 : World} (hgd : o.guard = none) {t : TypeId} {p : Tmp} {v : Operand} (_ho : o.op = .store t (.tmp p) v) (hN : o.dst = none)
    (hrun : (execOp a.eval o).run P W = .ok .skip w1) (h : ∀ w', w' = w1 → wpList P ops Q rest a w') : wpList P ops Q (o :: rest) a W := by
  refine wpList_plain hgd fun K hK => ?_
  unfold Oper.wp
  rw [hrun]
  show K (a.put o.dst undef) w1
  rw [hN]
  exact hK _ _ (h _ rfl)
end
namespace Kd
section
variable {α : Type} {enc : α → Value} {h1 : ∀ x, (enc x).oneCell' = true} {e base g n cap : Nat} {ok : Nat → Prop} {W : World} {xs : List α}
theorem x7K (h : (scalar enc h1).R e W base ok (.slice (some ⟨g, 0, none⟩) n cap) xs) (i : Int) (x : α) : (scalar enc h1).R e (W.setCell ⟨g, i.toNat, none⟩ (enc x)) base ok (.slice (some ⟨g, 0, none⟩) n cap) (xs.set i.toNat x) ∧ W.grownBy (W.setCell ⟨g, i.toNat, none⟩ (enc x)) (some g) := by
  obtain ⟨rfl, _⟩ := z1K h
  exact w2o h i x
end
end Kd
section
variable {P : Program} {ops : Array Oper} {rest : List Oper} {o : Oper} {a : Act} {Q : Exit → Act → World → Prop} {W : World}
theorem z0o {N : Tmp} (_hN : o.dst = some N) (h : wpList P ops Q (o :: rest) a W) : wpList P ops Q (o :: rest) a W := h
theorem y4t {t : TypeId} {p : Tmp} {v : Operand} (_ho : o.op = .store t (.tmp p) v) (h : wpList P ops Q (o :: rest) a W) : wpList P ops Q (o :: rest) a W := h
end
section
variable {P : Program} {ops : Array Oper} {o : Oper} {a : Act} {Q : Exit → Act → World → Prop} {Kc : Act → World → Prop}
namespace Kd
variable {α : Type}
theorem z9U (d : Kd α) {Rr : α → List Value → Prop} {w0 W : World} (base : Nat) (hw : Region.wanted o (yielded ops a.tmps) = true) (s x : Operand) (t e : TypeId) (z : Value) (bytes : Nat)
    (ho : o.op = .call { callee := .builtin .append, args := #[s, x], argTypes := #[t, t] })
    (ht : P.underlying t = some (.slice e)) (hinfo : (P.info? e).map (fun i => (i.zero, i.size, i.bytes)) = some (some z, d.sz, bytes)) (hz : z.cells.size = d.sz) (hs0 : 0 < d.sz) (hb0 : 0 < bytes)
    (v : Value) (xs ys : List α) (A : Option Addr) (m c : Nat) (ok okp : Nat → Prop) (hs : a.eval s = v) (hx : a.eval x = .slice A m c)
    (HO : d.R e W base ok v xs) (HR : z2F Rr d.sz W A m ys) (hKM : ∀ x cs, Rr x cs → d.M W base okp x cs) (hokp : ∀ k, okp k → ok k ∧ some k ≠ v.ownBlock) (hfresh : ∀ k, W.heap.size ≤ k → ok k)
    (HB : Below base w0 W) (hbase : base ≤ W.heap.size) (hl : (xs.length + m) * bytes ≤ 140737488355328)
    (h : ∀ v1 w1, d.R e w1 base ok v1 (xs ++ ys) → Below base w0 w1 → W.grownBy w1 v.ownBlock → (v1.ownBlock = v.ownBlock ∨ ∃ b, v1.ownBlock = some b ∧ W.heap.size ≤ b) → Kc (a.put o.dst v1) w1) :
    if Region.wanted o (yielded ops a.tmps) = true then Oper.wp P o a W Kc Q else Kc (a.put o.dst undef) W := by
  obtain ⟨i0, hi, hzz⟩ := Option.map_eq_some_iff.1 hinfo
  simp only [Prod.mk.injEq] at hzz
  obtain ⟨hz0, hz1, hz2⟩ := hzz
  have hm : ys.length = m := HR.1
  have hlen : xs.length + m ≤ 140737488355328 := Nat.le_trans (Nat.le_mul_of_pos_right _ hb0) hl
  obtain ⟨hok, inner, hown, hr⟩ := HO
  have hrun : ∃ v1 w1, (Builtin.append_ #[t, t] o.type #[v, .slice A m c]).run P W = .ok v1 w1 ∧ d.R e w1 base ok v1 (xs ++ ys) ∧ W.grownBy w1 v.ownBlock ∧ (v1.ownBlock = v.ownBlock ∨ ∃ b, v1.ownBlock = some b ∧ W.heap.size ≤ b) := by
    rcases A with _ | ad
    · have h0 : m = 0 := by
        rcases Nat.eq_zero_or_pos m with h0 | h0
        · exact h0
        · obtain ⟨ad, h, _⟩ := HR.2.2 h0
          cases h
      subst h0
      obtain rfl : ys = [] := List.eq_nil_of_length_eq_zero hm
      refine ⟨v, W, ?_, by rw [List.append_nil]; exact ⟨hok, inner, hown, hr⟩, World.grownBy.refl W _, .inl rfl⟩
      rcases hown.2 with ⟨rfl, hn⟩ | ⟨g, cap, cur, rfl, _, _, hnc, _⟩
      · simp [Builtin.append_, run_underlying ht, sizeOf, typeInfo, hi, Builtin.lenOf, Builtin.firstCells]
      · simp [Builtin.append_, run_underlying ht, sizeOf, typeInfo, hi, Builtin.lenOf, Builtin.firstCells, hnc, storeCells]
    · obtain ⟨news, hnr, hnc⟩ := z2F.x1J HR
      have hnM : Reps (d.M W base okp) d.sz ys news := hnr.y6B (fun p c hp => hKM p c hp)
      have hone : ∀ u ∈ news, u.oneCell' = true := by
        intro u hu
        obtain ⟨q, hq, rfl⟩ := List.mem_iff_getElem.1 hu
        have hql : q / d.sz < ys.length := by
          rw [Nat.div_lt_iff_lt_mul hs0]
          rw [← hnM.1]
          exact hq
        have hc := hnM.2 (q / d.sz) _ (List.getElem?_eq_getElem hql)
        refine d.K_one (d.K_of_M hc) _ ?_
        rw [List.mem_iff_getElem?]
        refine ⟨q % d.sz, ?_⟩
        rw [List.getElem?_take, if_pos (Nat.mod_lt _ hs0), List.getElem?_drop, Nat.mul_comm, Nat.div_add_mod, List.getElem?_eq_getElem hq]
      obtain ⟨v1, w1, hrun, h2, hg, _, hat⟩ := run_append_own_at (P := P) W base t o.type e i0 z d.sz bytes ht hi hz0 hz1 hz2 hz hs0 v xs.length inner hown ad m c news (by rw [hnM.1, hm]) hnc hone (by simp only [maxLen]; omega) hl hbase
      have hat' : v1.ownBlock = v.ownBlock ∨ ∃ b, v1.ownBlock = some b ∧ W.heap.size ≤ b := by
        rcases hat with hat | hat
        · exact .inl hat
        · exact .inr ⟨_, hat, Nat.le_refl _⟩
      have hne : ∀ k, some k ≠ v.ownBlock → k < W.heap.size → some k ≠ v1.ownBlock := by
        intro k hk hlt
        rcases hat' with hat | ⟨b, hb, hle⟩
        · rw [hat]; exact hk
        · rw [hb]
          intro he
          injection he with he
          omega
      have step : ∀ {q : α} {c : List Value} {o : Nat → Prop}, d.M W base o q c → (∀ k, o k → ok k ∧ some k ≠ v.ownBlock) → d.M w1 base (fun k => ok k ∧ some k ≠ v1.ownBlock) q c := by
        intro q c o hq ho
        have h1 := d.M_move (w1 := w1) (fun k hk => hg.block k hk.2.2.1 (ho k hk.1).2) (d.M_bound hq)
        exact d.M_mono (fun k hk => ⟨(ho k hk.1).1, hne k (ho k hk.1).2 hk.2.2.1⟩) h1
      refine ⟨v1, w1, hrun, ⟨fun k hk => ?_, inner ++ news, by rw [List.length_append, hm]; exact h2, y1C (hr.y6B (fun _ _ hq => step hq (fun _ hk => hk))) (hnM.y6B (fun _ _ hq => step hq hokp))⟩, hg, hat'⟩
      rcases hat' with hat | ⟨b, hb, hle⟩
      · exact hok k (hat ▸ hk)
      · rw [hb] at hk
        injection hk with hk
        exact hfresh k (by omega)
  obtain ⟨v1, w1, hr1, h1, hg, hat⟩ := hrun
  rw [if_pos hw]
  unfold Oper.wp execOp
  simp only [ho, resolve, invoke, builtin, Sem.run_bind, Sem.run_pure, Result.andThen_ok, List.map_toArray, List.map_cons, List.map_nil, hs, hx, hr1]
  exact h v1 w1 h1 (HB.grown hg hbase (z9R hown)) hg hat
end Kd
end
inductive Vals (P : Program) (tmps : Array Value) (w : World) : List ResultVar → List Value → Prop where
  | nil : Vals P tmps w [] []
  | tmp {u : Tmp} {rs : List ResultVar} {vs : List Value} (h : Vals P tmps w rs vs) : Vals P tmps w (.tmp u :: rs) (tmps.getD u undef :: vs)
  | cell {p : Tmp} {ty : TypeId} {rs : List ResultVar} {vs : List Value} (g : Nat) (t : TypeId) (cs : Array Value) (fr : Nat × Nat) (d : TypeDesc)
      (hp : tmps.getD p undef = .pointer (some ⟨g, 0, none⟩)) (hg : w.heap[g]? = some (.cells cs t fr))
      (hu : P.underlying ty = some d) (hd : (match d with | .struct _ | .array _ _ => true | _ => false) = true) (hi : (P.info? ty).map (·.size) = some cs.size)
      (h : Vals P tmps w rs vs) : Vals P tmps w (.cell p ty :: rs) (.agg cs :: vs)
section
variable {P : Program} {tmps : Array Value} {w : World}
end
namespace Kd
section
variable {P : Program} {α : Type}
end
section
variable {P : Program} {ops : Array Oper} {rest : List Oper} {o : Oper} {a : Act} {Q : Exit → Act → World → Prop} {Kc : Act → World → Prop} {α : Type}
end
end Kd
end Go.Proofs.YtplkoabikliagaaGreatDoorW.PrintWords
namespace Go.Proofs.YtplkoabikliagaaGreatDoorW.PrintLast
section
variable {P : Program} {ops : Array Oper} {Q : Exit → Act → World → Prop} {md : Region.Mode} {S : World → Prop} {ds : List Nat}
def Region.z7R (md : Region.Mode) (ops : Array Oper) (i : Nat) : Nat → Nat → Bool
 | 0, _ => false
 | fuel + 1, d => match ops[d]? with
  | some o => o.after.any fun e => Region.binds md e && (e.on == i || Region.z7R md ops i fuel e.on)
  | none => false
def Region.y1E (md : Region.Mode) (ops : Array Oper) (listed : Array Bool) : Bool :=
 (List.range ops.size).all fun j => !listed.getD j false || match ops[j]? with
  | some o => o.after.all fun e => !Region.binds md e || listed.getD e.on false
  | none => true
def Region.lastB (md : Region.Mode) (ops : Array Oper) (listed : Array Bool) (ds : List Nat) (i : Nat) : Bool :=
 ds.all fun d => listed.getD d true || Region.z7R md ops i ops.size d
def z3H (md : Region.Mode) (ops : Array Oper) (listed : Array Bool) : Prop :=
 ∀ j oj, ops[j]? = some oj → listed.getD j false = true → ∀ e ∈ oj.after, Region.binds md e = true → listed.getD e.on false = true
theorem Region.y6K {listed : Array Bool} (h : Region.y1E md ops listed = true) : z3H md ops listed := by
 intro j oj hj hl e he hb
 have hlt : j < ops.size := (Array.getElem?_eq_some_iff.1 hj).1
 have h1 := List.all_eq_true.1 h j (List.mem_range.2 hlt)
 simp only [hl, hj, Bool.not_true, Bool.false_or] at h1
 have h2 := Array.all_eq_true_iff_forall_mem.1 h1 e he
 simpa [hb] using h2
theorem z3H.set {listed : Array Bool} {i : Nat} (h : z3H md ops listed) (hi : i ∈ Region.ready md ops listed) : z3H md ops (listed.setIfInBounds i true) := by
 obtain ⟨_, oi, hoi, hall⟩ := mem_ready.1 hi
 intro j oj hj hl e he hb
 by_cases hij : i = j
 ·subst hij
  have : oj = oi := Option.some.inj (hj.symm.trans hoi)
  subst this
  exact getD_set_true (hall e he hb)
 ·rw [getD_set_ne false hij] at hl
  exact getD_set_true (h j oj hj hl e he hb)
theorem Region.y0Z {listed : Array Bool} {i : Nat} (hc : z3H md ops listed) : ∀ (fuel d : Nat), Region.z7R md ops i fuel d = true → listed.getD d false = true → listed.getD i false = true
 | 0, _, h, _ => by simp [Region.z7R] at h
 | fuel + 1, d, h, hl => by
  unfold Region.z7R at h
  cases ho : ops[d]? with
  | none => rw [ho] at h; simp at h
  | some o =>
   rw [ho] at h
   obtain ⟨e, he, h1⟩ := Array.any_eq_true'.1 h
   simp only [Bool.and_eq_true, Bool.or_eq_true, beq_iff_eq] at h1
   have hle := hc d o ho hl e he h1.1
   rcases h1.2 with h2 | h2
   ·rw [← h2]; exact hle
   ·exact Region.y0Z hc fuel e.on h2 hle
theorem Region.y1F {listed : Array Bool} {i d fuel : Nat} (hc : z3H md ops listed) (hr : Region.z7R md ops i fuel d = true) (hun : listed.getD i true = false) : d ∉ Region.ready md ops listed := by
 intro hd
 obtain ⟨_, o, ho, hall⟩ := mem_ready.1 hd
 have hi : listed.getD i false = true := by
  cases fuel with
  | zero => simp [Region.z7R] at hr
  | succ n =>
   unfold Region.z7R at hr
   rw [ho] at hr
   obtain ⟨e, he, h1⟩ := Array.any_eq_true'.1 hr
   simp only [Bool.and_eq_true, Bool.or_eq_true, beq_iff_eq] at h1
   have hle := hall e he h1.1
   rcases h1.2 with h2 | h2
   ·rw [← h2]; exact hle
   ·exact Region.y0Z hc n e.on h2 hle
 rcases Nat.lt_or_ge i listed.size with h' | h'
 ·simp [h'] at hun hi
  rw [hun] at hi
  cases hi
 ·simp [Array.getElem?_eq_none h'] at hun
def z1R (P : Program) (md : Region.Mode) (ops : Array Oper) (Q : Exit → Act → World → Prop) (S : World → Prop) (ds : List Nat) : Nat → Array Bool → Act → World → Prop
 | 0, listed, a, w => Region.ready md ops listed = [] ∧ Q .normal a w
 | fuel + 1, listed, a, w =>
  (Region.ready md ops listed = [] → Q .normal a w) ∧
  ∀ i ∈ Region.ready md ops listed, wpOp P ops Q i (fun a' w' => (i ∉ ds → S w → S w') ∧ z1R P md ops Q S ds fuel (listed.setIfInBounds i true) a' w') a w
theorem z9V : ∀ (fuel : Nat) (listed : Array Bool) (a : Act) (w : World), z1R P md ops Q S ds fuel listed a w → wpAny P md ops Q fuel listed a w
 | 0, _, _, _, h => h
 | fuel + 1, _, _, _, h => ⟨h.1, fun i hi => wpOp_mono (fun a' w' h' => z9V fuel _ a' w' h'.2) (h.2 i hi)⟩
theorem y1G {i : Nat} {oi : Oper} {v : Value} (hi : ops[i]? = some oi) (hsel : ∀ (j : Nat) (o : Oper) cs b, ops[j]? = some o → o.op ≠ .select cs b)
  (hQ : ∀ c a w, Q (.panic c) (a.put oi.dst v) w → Q (.panic c) a w) (n : Nat) :
  ∀ (fuel : Nat) (listed : Array Bool) (a : Act) (w : World),
   (∀ j oj, ops[j]? = some oj → j ≠ i → listed.getD j true = false → (∀ e ∈ oj.after, Region.binds md e = true → e.on ≠ i) → oi.apart ops oj = true) →
   z3H md ops listed → (∀ d ∈ ds, listed.getD d true = false → Region.z7R md ops i n d = true) →
   i ∈ Region.ready md ops listed → YieldsIf P ops S oi v a → S w →
   z1R P md ops Q S ds fuel (listed.setIfInBounds i true) (a.put oi.dst v) w → z1R P md ops Q S ds (fuel + 1) listed a w := by
 intro fuel
 induction fuel with
 | zero =>
  intro listed a w _ _ _ hr hy hS H
  refine ⟨fun h => (by rw [h] at hr; cases hr), fun j hj => ?_⟩
  by_cases hji : j = i
  ·subst hji; exact hy.wpOp hi hS ⟨fun _ h => h, H⟩
  ·have := ready_mono hj hji
   rw [H.1] at this
   cases this
 | succ fuel ih =>
  intro listed a w hfree hc hd hr hy hS H
  refine ⟨fun h => (by rw [h] at hr; cases hr), fun j hj => ?_⟩
  by_cases hji : j = i
  ·subst hji; exact hy.wpOp hi hS ⟨fun _ h => h, H⟩
  ·have h1 := H.2 j (ready_mono hj hji)
   obtain ⟨hjun, oj, hoj, hall⟩ := mem_ready.1 hj
   have hiun := (mem_ready.1 hr).1
   have hnot : ∀ e ∈ oj.after, Region.binds md e = true → e.on ≠ i := fun e he hb heq => by
    have h1 := hall e he hb
    rw [heq] at h1
    rcases Nat.lt_or_ge i listed.size with h' | h'
    ·simp [h'] at hiun h1; rw [hiun] at h1; cases h1
    ·simp [Array.getElem?_eq_none h'] at h1
   have hjd : j ∉ ds := fun hm => Region.y1F hc (hd j hm hjun) hiun hj
   have h2 := wpOp_putIf hoj (hfree j oj hoj hji hjun hnot) (fun cs b => hsel i oi cs b hi) (fun cs b => hsel j oj cs b hoj) hQ hy h1
   have hfree' : ∀ k ok, ops[k]? = some ok → k ≠ i → (listed.setIfInBounds j true).getD k true = false →
     (∀ e ∈ ok.after, Region.binds md e = true → e.on ≠ i) → oi.apart ops ok = true := fun k ok hk hki hun hno => by
    refine hfree k ok hk hki ?_ hno
    by_cases hjk : j = k
    ·subst hjk; exact hjun
    ·rw [getD_set_ne true hjk] at hun; exact hun
   have hd' : ∀ d ∈ ds, (listed.setIfInBounds j true).getD d true = false → Region.z7R md ops i n d = true := fun d hm hun => by
    refine hd d hm ?_
    by_cases hjk : j = d
    ·subst hjk; exact hjun
    ·rw [getD_set_ne true hjk] at hun; exact hun
   refine wpOp_mono (fun a' w' h3 => ⟨h3.2.1, ih (listed.setIfInBounds j true) a' w' hfree' (hc.set hj) hd' (ready_mono hr (Ne.symm hji)) h3.1 (h3.2.1 hjd hS) ?_⟩) h2
   rw [Array.setIfInBounds_comm _ _ hji]
   exact h3.2.2
theorem y4U {i : Nat} {oi : Oper} {v : Value} (hi : ops[i]? = some oi) (hsel : ∀ (j : Nat) (o : Oper) cs b, ops[j]? = some o → o.op ≠ .select cs b)
  (hQ : ∀ c a w, Q (.panic c) (a.put oi.dst v) w → Q (.panic c) a w) :
  ∀ (fuel : Nat) (listed : Array Bool) (a : Act) (w : World),
   (∀ j oj, ops[j]? = some oj → j ≠ i → listed.getD j true = false → (∀ e ∈ oj.after, Region.binds md e = true → e.on ≠ i) → oi.apart ops oj = true) →
   i ∈ Region.ready md ops listed → Yields P ops oi v a →
   z1R P md ops Q S ds fuel (listed.setIfInBounds i true) (a.put oi.dst v) w → z1R P md ops Q S ds (fuel + 1) listed a w := by
 intro fuel
 induction fuel with
 | zero =>
  intro listed a w _ hr hy H
  refine ⟨fun h => (by rw [h] at hr; cases hr), fun j hj => ?_⟩
  by_cases hji : j = i
  ·subst hji; exact (hy.yieldsIf (S := fun _ => True)).wpOp hi trivial ⟨fun _ h => h, H⟩
  ·have := ready_mono hj hji
   rw [H.1] at this
   cases this
 | succ fuel ih =>
  intro listed a w hfree hr hy H
  refine ⟨fun h => (by rw [h] at hr; cases hr), fun j hj => ?_⟩
  by_cases hji : j = i
  ·subst hji; exact (hy.yieldsIf (S := fun _ => True)).wpOp hi trivial ⟨fun _ h => h, H⟩
  ·have h1 := H.2 j (ready_mono hj hji)
   obtain ⟨hjun, oj, hoj, hall⟩ := mem_ready.1 hj
   have hiun := (mem_ready.1 hr).1
   have hnot : ∀ e ∈ oj.after, Region.binds md e = true → e.on ≠ i := fun e he hb heq => by
    have h1 := hall e he hb
    rw [heq] at h1
    rcases Nat.lt_or_ge i listed.size with h' | h'
    ·simp [h'] at hiun h1; rw [hiun] at h1; cases h1
    ·simp [Array.getElem?_eq_none h'] at h1
   have h2 := wpOp_put hoj (hfree j oj hoj hji hjun hnot) (fun cs b => hsel i oi cs b hi) (fun cs b => hsel j oj cs b hoj) hQ hy h1
   have hfree' : ∀ k ok, ops[k]? = some ok → k ≠ i → (listed.setIfInBounds j true).getD k true = false →
     (∀ e ∈ ok.after, Region.binds md e = true → e.on ≠ i) → oi.apart ops ok = true := fun k ok hk hki hun hno => by
    refine hfree k ok hk hki ?_ hno
    by_cases hjk : j = k
    ·subst hjk; exact hjun
    ·rw [getD_set_ne true hjk] at hun; exact hun
   refine wpOp_mono (fun a' w' h3 => ⟨h3.2.1, ih (listed.setIfInBounds j true) a' w' hfree' (ready_mono hr (Ne.symm hji)) h3.1 ?_⟩) h2
   rw [Array.setIfInBounds_comm _ _ hji]
   exact h3.2.2
theorem y4d {i : Nat} {oi : Oper} {v : Value} {fuel : Nat} {listed : Array Bool} {a : Act} {w : World} (hi : ops[i]? = some oi)
  (hs : Region.noSelect ops = true) (hf : Region.free md ops listed i = true) (hr : (Region.ready md ops listed).contains i = true)
  (hc : Region.y1E md ops listed = true) (hl : Region.lastB md ops listed ds i = true)
  (hQ : ∀ c a w, Q (.panic c) (a.put oi.dst v) w → Q (.panic c) a w) (hy : YieldsIf P ops S oi v a) (hS : S w)
  (h : z1R P md ops Q S ds fuel (listed.setIfInBounds i true) (a.put oi.dst v) w) : z1R P md ops Q S ds (fuel + 1) listed a w :=
 y1G hi (Region.noSelect_spec hs) hQ ops.size fuel listed a w (Region.free_spec hi hf) (Region.y6K hc)
  (fun d hm hun => by have := List.all_eq_true.1 hl d hm; rw [hun] at this; simpa using this) (by simpa using hr) hy hS h
theorem y4V {rs : List Nat} {fuel : Nat} {listed : Array Bool} {a : Act} {w : World} (hr : Region.ready md ops listed = rs) (hne : rs ≠ [])
  (h : ∀ i ∈ rs, wpOp P ops Q i (fun a' w' => (i ∉ ds → S w → S w') ∧ z1R P md ops Q S ds fuel (listed.setIfInBounds i true) a' w') a w) : z1R P md ops Q S ds (fuel + 1) listed a w :=
 ⟨fun h0 => absurd (hr ▸ h0) hne, hr ▸ h⟩
theorem y4e {listed : Array Bool} {a : Act} {w : World} (hr : Region.ready md ops listed = []) (h : Q .normal a w) :
  ∀ fuel, z1R P md ops Q S ds fuel listed a w
 | 0 => ⟨hr, h⟩
 | _ + 1 => ⟨fun _ => h, by rw [hr]; simp⟩
theorem y4f {id : Nat} {a : Act} {w : World} (hm : P.follows .mixedOrders = true)
  (h : z1R P .any ops Q S ds ops.size (Array.replicate ops.size false) a { w with drawn := w.drawn + 1 }) : (Code.region id ops true).wp P Q a w :=
 wp_region_any hm (z9V _ _ _ _ h)
end
section
variable {P : Program} {ops : Array Oper} {Q : Exit → Act → World → Prop} {md : Region.Mode} {S : World → Prop} {ds : List Nat}
def z3h (P : Program) (md : Region.Mode) (ops : Array Oper) (Q : Exit → Act → World → Prop) (S : World → Prop) (ds : List Nat) (fuel : Nat) (listed : Array Bool) (a : Act) (w : World) (rs : List Nat) : Prop :=
 ∀ i ∈ rs, wpOp P ops Q i (fun a' w' => (i ∉ ds → S w → S w') ∧ z1R P md ops Q S ds fuel (listed.setIfInBounds i true) a' w') a w
theorem z3h.nil {fuel : Nat} {listed : Array Bool} {a : Act} {w : World} : z3h P md ops Q S ds fuel listed a w [] := fun _ h => by cases h
theorem z3h.cons {fuel : Nat} {listed : Array Bool} {a : Act} {w : World} {i : Nat} {o : Oper} {rs : List Nat} (ho : ops[i]? = some o) (hd : i ∉ ds)
  (h : ∀ K' : Act → World → Prop, Shut (∀ a w, S w → (S w → z1R P md ops Q S ds fuel (listed.setIfInBounds i true) a w) → K' a w) → if Region.wanted o (yielded ops a.tmps) = true then Oper.wp P o a w K' Q else K' (a.put o.dst undef) w)
  (hs : z3h P md ops Q S ds fuel listed a w rs) : z3h P md ops Q S ds fuel listed a w (i :: rs) := fun j hj => by
 rcases List.mem_cons.1 hj with rfl | hj
 ·exact wpOp_step ho (fun K' hK => h K' (fun a w hS hW => hK a w ⟨fun _ _ => hS, hW hS⟩))
 ·exact hs j hj
theorem z3h.x1N {fuel : Nat} {listed : Array Bool} {a : Act} {w : World} {i : Nat} {o : Oper} {rs : List Nat} (ho : ops[i]? = some o) (hd : i ∈ ds)
  (h : ∀ K' : Act → World → Prop, Shut (∀ a w, z1R P md ops Q S ds fuel (listed.setIfInBounds i true) a w → K' a w) → if Region.wanted o (yielded ops a.tmps) = true then Oper.wp P o a w K' Q else K' (a.put o.dst undef) w)
  (hs : z3h P md ops Q S ds fuel listed a w rs) : z3h P md ops Q S ds fuel listed a w (i :: rs) := fun j hj => by
 rcases List.mem_cons.1 hj with rfl | hj
 ·exact wpOp_step ho (fun K' hK => h K' (fun a w hW => hK a w ⟨fun hn => absurd hd hn, hW⟩))
 ·exact hs j hj
theorem z7W {rs : List Nat} {fuel : Nat} {listed : Array Bool} {a : Act} {w : World} (hr : Region.ready md ops listed = rs) (hne : rs ≠ [])
  (h : z3h P md ops Q S ds fuel listed a w rs) : z1R P md ops Q S ds (fuel + 1) listed a w := y4V hr hne h
theorem z6l {id n : Nat} {a : Act} {w : World} (l : Array Bool) (hm : P.follows .mixedOrders = true) (hn : ops.size = n) (hl : Array.replicate n false = l) (hS : S w.drew)
  (h : S w.drew → z1R P .any ops Q S ds n l a w.drew) : (Code.region id ops true).wp P Q a w := by
 subst hn
 subst hl
 exact y4f hm (h hS)
def takeB (md : Region.Mode) (ops : Array Oper) (ds : List Nat) (l l' : Array Bool) (i : Nat) : Bool :=
 Region.noSelect ops && Region.free md ops l i && (Region.ready md ops l).contains i && Region.y1E md ops l && Region.lastB md ops l ds i && (l.setIfInBounds i true == l')
theorem z2R {i : Nat} {N : Option Tmp} {oi : Oper} {v : Value} {fuel : Nat} {l : Array Bool} {a : Act} {w : World} (l' : Array Bool) (hi : ops[i]? = some oi) (hN : oi.dst = N) (hc : takeB md ops ds l l' i = true)
  (hQ : ∀ c a w, Q (.panic c) (a.put oi.dst v) w → Q (.panic c) a w) (hy : YieldsIf P ops S oi v a) (hS : S w) {a' : Act} (ha : a.put N v = a')
  (h : z1R P md ops Q S ds fuel l' a' w) : z1R P md ops Q S ds (fuel + 1) l a w := by
 subst ha
 subst hN
 simp only [takeB, Bool.and_eq_true, beq_iff_eq] at hc
 obtain ⟨⟨⟨⟨⟨h1, h2⟩, h3⟩, h4⟩, h5⟩, h6⟩ := hc
 subst h6
 exact y4d hi h1 h2 h3 h4 h5 hQ hy hS h
def anyB (md : Region.Mode) (ops : Array Oper) (l l' : Array Bool) (i : Nat) : Bool :=
 Region.noSelect ops && Region.free md ops l i && (Region.ready md ops l).contains i && (l.setIfInBounds i true == l')
theorem z1O {i : Nat} {N : Option Tmp} {oi : Oper} {v : Value} {fuel : Nat} {l : Array Bool} {a : Act} {w : World} (l' : Array Bool) (hi : ops[i]? = some oi) (hN : oi.dst = N) (hc : anyB md ops l l' i = true)
  (hQ : ∀ c a w, Q (.panic c) (a.put oi.dst v) w → Q (.panic c) a w) (hy : Yields P ops oi v a) {a' : Act} (ha : a.put N v = a')
  (h : z1R P md ops Q S ds fuel l' a' w) : z1R P md ops Q S ds (fuel + 1) l a w := by
 subst ha
 subst hN
 simp only [anyB, Bool.and_eq_true, beq_iff_eq] at hc
 obtain ⟨⟨⟨h1, h2⟩, h3⟩, h6⟩ := hc
 subst h6
 exact y4U hi (Region.noSelect_spec h1) hQ fuel l a w (Region.free_spec hi h2) (by simpa using h3) hy h
def y4u (md : Region.Mode) (ops : Array Oper) (l l' : Array Bool) (i : Nat) : Bool := (Region.ready md ops l == [i]) && (l.setIfInBounds i true == l')
theorem x6C {i : Nat} {N : Option Tmp} {oi : Oper} {fuel : Nat} {l : Array Bool} {a : Act} {w : World} (l' : Array Bool) (hi : ops[i]? = some oi) (hN : oi.dst = N) (hc : y4u md ops l l' i = true) (hd : i ∉ ds)
  (h : ∀ K : Act → World → Prop, Shut (∀ a' w', S w' → (S w' → z1R P md ops Q S ds fuel l' a' w') → K a' w') → if Region.wanted oi (yielded ops a.tmps) = true then Oper.wp P oi a w K Q else K (a.put N undef) w) :
  z1R P md ops Q S ds (fuel + 1) l a w := by
 subst hN
 simp only [y4u, Bool.and_eq_true, beq_iff_eq] at hc
 obtain ⟨h1, h2⟩ := hc
 subst h2
 exact z7W h1 (by simp) (z3h.cons hi hd (fun K hK => h K hK) z3h.nil)
theorem x8d {i : Nat} {N : Option Tmp} {oi : Oper} {fuel : Nat} {l : Array Bool} {a : Act} {w : World} (l' : Array Bool) (hi : ops[i]? = some oi) (hN : oi.dst = N) (hc : y4u md ops l l' i = true) (hd : i ∈ ds)
  (h : ∀ K : Act → World → Prop, Shut (∀ a' w', z1R P md ops Q S ds fuel l' a' w' → K a' w') → if Region.wanted oi (yielded ops a.tmps) = true then Oper.wp P oi a w K Q else K (a.put N undef) w) :
  z1R P md ops Q S ds (fuel + 1) l a w := by
 subst hN
 simp only [y4u, Bool.and_eq_true, beq_iff_eq] at hc
 obtain ⟨h1, h2⟩ := hc
 subst h2
 exact z7W h1 (by simp) (z3h.x1N hi hd (fun K hK => h K hK) z3h.nil)
theorem y0q {l : Array Bool} {a : Act} {w : World} {n : Nat} (hr : (Region.ready md ops l == []) = true) (h : Q .normal a w) : z1R P md ops Q S ds n l a w := y4e (by simpa using hr) h n
theorem y4g {fuel : Nat} {l : Array Bool} {a a' : Act} {w : World} (ha : a = a') (h : z1R P md ops Q S ds fuel l a' w) : z1R P md ops Q S ds fuel l a w := by
 subst ha
 exact h
theorem call_ {oi : Oper} {N : Option Tmp} {a : Act} {w : World} {K : Act → World → Prop} (f : FuncId) (args : Array Value) (hw : Region.wanted oi (yielded ops a.tmps) = true) (hN : oi.dst = N) (hrun : (execOp a.eval oi).run P w = .ok (.enter f args) w)
  (h : Calls P f args w fun e w' => ∃ v, e = .returned v ∧ K (a.put N v) w') : if Region.wanted oi (yielded ops a.tmps) = true then Oper.wp P oi a w K Q else K (a.put N undef) w := by
 rw [if_pos hw]
 subst hN
 unfold Oper.wp
 rw [hrun, Oper.upon_enter]
 refine h.mono fun e w'' hh => ?_
 obtain ⟨v, rfl, hk⟩ := hh
 exact hk
theorem x1O {f : FuncId} {fn : Func} (hf : P.funcs[f]? = some fn) (hname : (fn.name == "runtime.NumGoroutine") = false) (hb : fn.body.isSome = true) (args : Array Value) (w : World) : (callFunc f args).run P w = .ok (.enter f args) w := by
 have h1 : fn.name ≠ "runtime.NumGoroutine" := by simpa using hname
 obtain ⟨c, hc⟩ := Option.isSome_iff_exists.1 hb
 simp [callFunc, hf, h1, hc]
theorem y4W {oi : Oper} {N : Option Tmp} {a : Act} {w : World} {K : Act → World → Prop} {f : FuncId} {fn : Func} {xas : Array Operand} {ts : Array TypeId} (hf : P.funcs[f]? = some fn) (hname : (fn.name == "runtime.NumGoroutine") = false) (hb : fn.body.isSome = true) (args : Array Value)
  (hw : Region.wanted oi (yielded ops a.tmps) = true) (hN : oi.dst = N) (hop : oi.op = .call { callee := .value (.func f), args := xas, argTypes := ts }) (hargs : xas.map a.eval = args)
  (h : Calls P f args w fun e w' => ∃ v, e = .returned v ∧ K (a.put N v) w') : if Region.wanted oi (yielded ops a.tmps) = true then Oper.wp P oi a w K Q else K (a.put N undef) w := by
 refine call_ f args hw hN ?_ h
 have he := x1O hf hname hb args w
 unfold execOp
 simp [hop, resolve, Deferred.ofValue, invoke, Act.eval, hargs, he]
theorem z1a {rest : List Oper} {oi : Oper} {a : Act} {w : World} (N : Option Tmp) (hd : oi.dst = N) (hg : oi.guard = none) {f : FuncId} {fn : Func} {xas : Array Operand} {ts : Array TypeId} (hf : P.funcs[f]? = some fn) (hname : (fn.name == "runtime.NumGoroutine") = false) (hb : fn.body.isSome = true) (args : Array Value)
  (hop : oi.op = .call { callee := .value (.func f), args := xas, argTypes := ts }) (hargs : xas.map a.eval = args)
  (h : Calls P f args w fun e w' => ∃ v, e = .returned v ∧ wpList P ops Q rest (a.put N v) w') : wpList P ops Q (oi :: rest) a w := by
 refine wpList_plain hg fun K hK => ?_
 have he := x1O hf hname hb args w
 have hrun : (execOp a.eval oi).run P w = .ok (.enter f args) w := by
  unfold execOp
  simp [hop, resolve, Deferred.ofValue, invoke, Act.eval, hargs, he]
 unfold Oper.wp
 rw [hrun, Oper.upon_enter]
 refine h.mono fun e w'' hh => ?_
 obtain ⟨v, rfl, hk⟩ := hh
 subst hd
 exact hK _ _ hk
theorem w2s {oi : Oper} {a : Act} {w w1 : World} {K : Act → World → Prop} (hw : Region.wanted oi (yielded ops a.tmps) = true) (hN : oi.dst = none) (hrun : (execOp a.eval oi).run P w = .ok .skip w1)
  (h : K a w1) : if Region.wanted oi (yielded ops a.tmps) = true then Oper.wp P oi a w K Q else K (a.put none undef) w := by
 rw [if_pos hw]
 unfold Oper.wp
 rw [hrun]
 show K (a.put oi.dst undef) w1
 rw [hN]
 exact h
theorem z0V (n : Int) : IntKind.i64.wrap n = Go.RowKit.wrap64 n := by unfold Go.RowKit.wrap64; exact IntKind.wrap_i64 n
theorem z0W (n : Int) : IntKind.i32.wrap n = Go.RowKit.wrap32 n := by unfold Go.RowKit.wrap32; exact IntKind.wrap_i32 n
end
end Go.Proofs.YtplkoabikliagaaGreatDoorW.PrintLast
namespace Go.Proofs.YtplkoabikliagaaGreatDoorW.PrintLast
open Go.Proofs.YtplkoabikliagaaGreatDoorW.PrintWords (z0a)
def y0r (md : Region.Mode) (o : Oper) : List Nat := (o.after.toList.filter (fun e => Region.binds md e)).map (fun e => e.on)
def y7N (md : Region.Mode) (ops : Array Oper) (i : Nat) (oi : Oper) : List Nat := (List.range ops.size).filter fun j => !(j == i) && match ops[j]? with
 | some oj => !(oj.after.any (fun e => Region.binds md e && e.on == i) || oi.apart ops oj)
 | none => false
def rtab (md : Region.Mode) (ops : Array Oper) : Bool × List (List Nat × List Nat) := (Region.noSelect ops, (List.range ops.size).map fun i => match ops[i]? with
 | some o => (y0r md o, y7N md ops i o)
 | none => ([], []))
def z7X (T : List (List Nat × List Nat)) (l : List Bool) (i : Nat) : Bool := !l.getD i true && match T[i]? with
 | some r => r.1.all (fun j => l.getD j false)
 | none => false
def y6L (T : List (List Nat × List Nat)) (l : List Bool) : List Nat := (List.range T.length).filter (z7X T l)
def x1P (T : List (List Nat × List Nat)) (l : List Bool) (i : Nat) : Bool := match T[i]? with
 | some r => r.2.all (fun j => l.getD j true)
 | none => false
def y4X (T : List (List Nat × List Nat)) (l : List Bool) : Bool := (List.range T.length).all fun j => !l.getD j false || match T[j]? with
 | some r => r.1.all (fun k => l.getD k false)
 | none => true
def y4v (T : List (List Nat × List Nat)) (i : Nat) : Nat → Nat → Bool
 | 0, _ => false
 | fuel + 1, d => match T[d]? with
  | some r => r.1.any fun j => j == i || y4v T i fuel j
  | none => false
def lastT (T : List (List Nat × List Nat)) (l : List Bool) (ds : List Nat) (i : Nat) : Bool := ds.all fun d => l.getD d true || y4v T i T.length d
section
variable {md : Region.Mode} {ops : Array Oper} {T : Bool × List (List Nat × List Nat)} {l l' li lj lk : Array Bool} {ds : List Nat} {i j k : Nat}
theorem gd (l : Array Bool) (j : Nat) (b : Bool) : l.getD j b = l.toList.getD j b := by simp [Array.getD_eq_getD_getElem?, List.getD_eq_getElem?_getD]
theorem y6M (o : Oper) (p : Nat → Bool) : o.after.all (fun e => !Region.binds md e || p e.on) = (y0r md o).all p := by
 unfold y0r
 rw [← Array.all_toList]
 induction o.after.toList with
 | nil => rfl
 | cons e r ih =>
  rw [List.all_cons, ih, List.filter_cons]
  cases h : Region.binds md e <;> simp
theorem x1Q (o : Oper) (p : Nat → Bool) : o.after.any (fun e => Region.binds md e && p e.on) = (y0r md o).any p := by
 unfold y0r
 rw [← Array.any_toList]
 induction o.after.toList with
 | nil => rfl
 | cons e r ih =>
  rw [List.any_cons, ih, List.filter_cons]
  cases h : Region.binds md e <;> simp
theorem z6v : (rtab md ops).2.length = ops.size := by simp [rtab]
theorem z9W {o : Oper} (h : ops[i]? = some o) : (rtab md ops).2[i]? = some (y0r md o, y7N md ops i o) := by
 have hi := (Array.getElem?_eq_some_iff.1 h).1
 unfold rtab
 rw [List.getElem?_map, List.getElem?_range hi, Option.map_some, h]
theorem z9X (h : ops[i]? = none) : (rtab md ops).2[i]? = none := by
 have hi : ops.size ≤ i := Array.getElem?_eq_none_iff.1 h
 exact List.getElem?_eq_none (by rw [z6v]; exact hi)
theorem x0W : z7X (rtab md ops).2 l.toList i = (!l.getD i true && ((ops[i]?).map (·.after.all fun e => !Region.binds md e || l.getD e.on false)).getD false) := by
 unfold z7X
 rw [gd]
 cases h : ops[i]? with
 | none => rw [z9X h]; rfl
 | some o =>
  rw [z9W h]
  simp only [Option.map_some, Option.getD_some]
  rw [← y6M]
  simp only [gd]
theorem ready_eq : Region.ready md ops l = y6L (rtab md ops).2 l.toList := by
 unfold Region.ready y6L
 rw [z6v]
 refine List.filter_congr (fun i _ => ?_)
 rw [x0W]
theorem free_eq : Region.free md ops l i = x1P (rtab md ops).2 l.toList i := by
 unfold Region.free x1P
 cases h : ops[i]? with
 | none => rw [z9X h]
 | some oi =>
  rw [z9W h]
  simp only [y7N]
  rw [List.all_filter]
  congr 1
  funext j
  rw [gd]
  cases hj : ops[j]? with
  | none => cases (j == i) <;> cases (l.toList.getD j true) <;> simp
  | some oj =>
   cases (j == i) <;> cases (l.toList.getD j true) <;> cases (oj.after.any (fun e => Region.binds md e && e.on == i) || oi.apart ops oj) <;> simp_all
theorem x1R : Region.y1E md ops l = y4X (rtab md ops).2 l.toList := by
 unfold Region.y1E y4X
 rw [z6v]
 congr 1
 funext j
 rw [gd]
 cases h : ops[j]? with
 | none => rw [z9X h]
 | some o =>
  rw [z9W h]
  simp only
  rw [← y6M]
  simp only [gd]
theorem x0q : ∀ (fuel d : Nat), Region.z7R md ops i fuel d = y4v (rtab md ops).2 i fuel d
 | 0, _ => rfl
 | fuel + 1, d => by
  unfold Region.z7R y4v
  cases h : ops[d]? with
  | none => rw [z9X h]
  | some o =>
   rw [z9W h]
   simp only
   rw [← x1Q]
   congr 1
   funext e
   rw [x0q fuel]
theorem x8e : Region.lastB md ops l ds i = lastT (rtab md ops).2 l.toList ds i := by
 unfold Region.lastB lastT
 rw [z6v]
 congr 1
 funext d
 rw [gd, x0q]
theorem y1H (h : z7X T.2 l.toList i = true) (hT : rtab md ops = T) : (Region.ready md ops l).contains i = true := by
 subst hT
 rw [ready_eq]
 unfold y6L
 rw [List.contains_iff_mem, List.mem_filter, List.mem_range]
 refine ⟨?_, h⟩
 unfold z7X at h
 rw [Bool.and_eq_true] at h
 cases hq : (rtab md ops).2[i]? with
 | none => rw [hq] at h; simp at h
 | some r => exact (List.getElem?_eq_some_iff.1 hq).1
theorem x1S (h : (l.toList.set i true == l'.toList) = true) : (l.setIfInBounds i true == l') = true := by
 rw [beq_iff_eq] at h ⊢
 apply Array.ext'
 rw [Array.toList_setIfInBounds]
 exact h
def anyT (T : Bool × List (List Nat × List Nat)) (l l' : List Bool) (i : Nat) : Bool := T.1 && x1P T.2 l i && z7X T.2 l i && (l.set i true == l')
theorem z1s (hT : rtab md ops = T) (h : anyT T l.toList l'.toList i = true) : anyB md ops l l' i = true := by
 simp only [anyT, Bool.and_eq_true] at h
 obtain ⟨⟨⟨h1, h2⟩, h3⟩, h4⟩ := h
 have h5 := y1H h3 hT
 have h6 := x1S h4
 subst hT
 simp only [anyB, Bool.and_eq_true]
 exact ⟨⟨⟨h1, by rw [free_eq]; exact h2⟩, h5⟩, h6⟩
def x8f (T : Bool × List (List Nat × List Nat)) (ds : List Nat) (l l' : List Bool) (i : Nat) : Bool := T.1 && x1P T.2 l i && z7X T.2 l i && y4X T.2 l && lastT T.2 l ds i && (l.set i true == l')
theorem x8g (hT : rtab md ops = T) (h : x8f T ds l.toList l'.toList i = true) : takeB md ops ds l l' i = true := by
 simp only [x8f, Bool.and_eq_true] at h
 obtain ⟨⟨⟨⟨⟨h1, h2⟩, h3⟩, h4⟩, h5⟩, h6⟩ := h
 have h7 := y1H h3 hT
 have h8 := x1S h6
 subst hT
 simp only [takeB, Bool.and_eq_true]
 exact ⟨⟨⟨⟨⟨h1, by rw [free_eq]; exact h2⟩, h7⟩, by rw [x1R]; exact h4⟩, by rw [x8e]; exact h5⟩, h8⟩
theorem z8Z (hT : rtab md ops = T) (h : (y6L T.2 l.toList == [i] && l.toList.set i true == l'.toList) = true) : y4u md ops l l' i = true := by
 simp only [Bool.and_eq_true] at h
 obtain ⟨h1, h2⟩ := h
 subst hT
 simp only [y4u, Bool.and_eq_true]
 exact ⟨by rw [ready_eq]; exact h1, x1S h2⟩
theorem z5u (hT : rtab md ops = T) (h : (y6L T.2 l.toList == []) = true) : (Region.ready md ops l == []) = true := by
 subst hT
 rw [ready_eq]
 exact h
def upM (B : List Nat) (d : Nat) : List Nat → Nat
 | [] => 0
 | n :: r => (2 ^ n ||| (if n < d then B.getD n 0 else 0)) ||| upM B d r
def z5v (T : List (List Nat × List Nat)) (B : List Nat) : Bool := (List.range T.length).all fun d => match T[d]? with
 | some r => (B.getD d 0 ||| upM B d r.1) == upM B d r.1
 | none => false
theorem x1T {B : List Nat} {d i : Nat} : ∀ {ns : List Nat}, (upM B d ns).testBit i = true → ∃ n ∈ ns, n = i ∨ (n < d ∧ (B.getD n 0).testBit i = true)
 | [], h => by simp [upM] at h
 | n :: r, h => by
  unfold upM at h
  rw [Nat.testBit_or, Nat.testBit_or, Bool.or_eq_true, Bool.or_eq_true] at h
  rcases h with (h | h) | h
  ·rw [Nat.testBit_two_pow] at h
   exact ⟨n, List.mem_cons_self, .inl (by simpa using h)⟩
  ·by_cases hn : n < d
   ·rw [if_pos hn] at h
    exact ⟨n, List.mem_cons_self, .inr ⟨hn, h⟩⟩
   ·rw [if_neg hn] at h
    simp at h
  ·obtain ⟨m, hm, h2⟩ := x1T h
   exact ⟨m, List.mem_cons_of_mem _ hm, h2⟩
theorem y6N {T : List (List Nat × List Nat)} {B : List Nat} (hB : z5v T B = true) : ∀ (fuel d : Nat), d < fuel → d < T.length → (B.getD d 0).testBit i = true → y4v T i fuel d = true
 | 0, d, h, _, _ => by omega
 | fuel + 1, d, h, hd, hb => by
  have h1 := List.all_eq_true.1 hB d (List.mem_range.2 hd)
  cases hr : T[d]? with
  | none => rw [hr] at h1; simp at h1
  | some r =>
   rw [hr] at h1
   simp only [beq_iff_eq] at h1
   have h2 : (upM B d r.1).testBit i = true := by rw [← h1, Nat.testBit_or, hb, Bool.true_or]
   obtain ⟨n, hn, h3⟩ := x1T h2
   unfold y4v
   rw [hr]
   simp only
   rw [List.any_eq_true]
   refine ⟨n, hn, ?_⟩
   rcases h3 with rfl | ⟨h4, h5⟩
   ·simp
   ·rw [y6N hB fuel n (by omega) (by omega) h5, Bool.or_true]
def w2t (T : List (List Nat × List Nat)) (B : List Nat) (l : List Bool) (ds : List Nat) (i : Nat) : Bool := ds.all fun d => l.getD d true || (decide (d < T.length) && (B.getD d 0).testBit i)
def w2u (T : Bool × List (List Nat × List Nat)) (B : List Nat) (ds : List Nat) (l l' : List Bool) (i : Nat) : Bool := T.1 && x1P T.2 l i && z7X T.2 l i && y4X T.2 l && w2t T.2 B l ds i && (l.set i true == l')
theorem z1D {B : List Nat} (hT : rtab md ops = T) (hB : z5v T.2 B = true) (h : w2u T B ds l.toList l'.toList i = true) : takeB md ops ds l l' i = true := by
 refine x8g hT ?_
 simp only [w2u, x8f, Bool.and_eq_true] at h ⊢
 obtain ⟨⟨⟨⟨⟨h1, h2⟩, h3⟩, h4⟩, h5⟩, h6⟩ := h
 refine ⟨⟨⟨⟨⟨h1, h2⟩, h3⟩, h4⟩, ?_⟩, h6⟩
 unfold w2t at h5
 unfold lastT
 rw [List.all_eq_true] at h5 ⊢
 intro d hd
 have h7 := h5 d hd
 rw [Bool.or_eq_true, Bool.and_eq_true, decide_eq_true_eq] at h7
 rcases h7 with h7 | ⟨h8, h9⟩
 ·rw [h7, Bool.true_or]
 ·rw [y6N hB _ d h8 h8 h9, Bool.or_true]
theorem z3I {P : Program} {Q : Exit → Act → World → Prop} {S : World → Prop} {n : Nat} {a : Act} {w : World} {B : List Nat} (hT : rtab md ops = T) (hB : z5v T.2 B = true) (h : z0a (rtab md ops = T) → z0a (z5v T.2 B = true) → z1R P md ops Q S ds n l a w) : z1R P md ops Q S ds n l a w := h ⟨hT⟩ ⟨hB⟩
end
def y4h : Code → Nat → Option (Array Oper)
 | .region id ops _, k => if id == k then some ops else none
 | .seq a b, k => match y4h a k with
  | some o => some o
  | none => y4h b k
 | .cond _ a b, k => match y4h a k with
  | some o => some o
  | none => y4h b k
 | .block _ c, k => y4h c k
 | .loop c, k => y4h c k
 | .scope c, k => y4h c k
 | .rangeFunc _ _ a b, k => match y4h a k with
  | some o => some o
  | none => y4h b k
 | _, _ => none
def opsOf (f : Func) (k : Nat) : Array Oper := ((f.body.bind fun c => y4h c k)).getD #[]
end Go.Proofs.YtplkoabikliagaaGreatDoorW.PrintLast
namespace Go.Proofs.YtplkoabikliagaaGreatDoorW.PrintLast
section
variable {P : Program} {ops : Array Oper} {Q : Exit → Act → World → Prop} {md : Region.Mode} {S : World → Prop} {ds : List Nat} {T : Bool × List (List Nat × List Nat)}
end
end Go.Proofs.YtplkoabikliagaaGreatDoorW.PrintLast
namespace Go.Proofs.YtplkoabikliagaaGreatDoorW.PrintWords
open Go.RowKit
namespace Kd
section
variable {α : Type} {d : Kd α} {e base g o n cap : Nat} {ok okp : Nat → Prop} {w W : World} {v : Value} {xs : List α}
end
section
variable {α : Type} {enc : α → Value} {h1 : ∀ x, (enc x).oneCell' = true} {e base g o n cap : Nat} {ok : Nat → Prop} {W : World} {xs : List α}
end
end Kd
end Go.Proofs.YtplkoabikliagaaGreatDoorW.PrintWords
namespace Go.Proofs.YtplkoabikliagaaGreatDoorW.PrintWords
open Go.RowKit
namespace Kd
def tag {α : Type} (f : Nat → Nat) (d : Kd α) : Kd (α × Nat) where
 sz := d.sz
 E := d.E
 K := fun w x cs => d.K w x.1 cs
 M := fun w base ok x cs => d.M w base (fun k => ok k ∧ f k = x.2) x.1 cs
 K_len := fun h => d.K_len h
 K_one := fun h => d.K_one h
 K_below := fun hb h => d.K_below hb h
 K_of_M := fun h => d.K_of_M h
 M_mono := fun hok h => d.M_mono (fun k hk => ⟨hok k hk.1, hk.2⟩) h
 M_bound := fun h => d.M_mono (fun _ hk => ⟨⟨hk.1.1, hk.2⟩, hk.1.2⟩) (d.M_bound h)
 M_move := fun hm h => d.M_move (fun k hk => hm k hk.1) h
 M_lower := fun hb h => d.M_lower hb h
def raw (sz : Nat) : Kd (List Value) where
 sz := sz
 E := []
 K := fun _ x cs => cs = x ∧ cs.length = sz ∧ ∀ u ∈ cs, u.oneCell' = true
 M := fun _ _ _ x cs => cs = x ∧ cs.length = sz ∧ ∀ u ∈ cs, u.oneCell' = true
 K_len := fun h => h.2.1
 K_one := fun h => h.2.2
 K_below := fun _ h => h
 K_of_M := fun h => h
 M_mono := fun _ h => h
 M_bound := fun h => h
 M_move := fun _ h => h
 M_lower := fun _ h => h
def S {α : Type} (d : Kd α) (e : Nat) (w : World) (base : Nat) (ok : Nat → Prop) (v : Value) (xs : List α) : Prop := ∃ f, (tag f d).R e w base ok v xs.zipIdx
section
variable {α β : Type} {d : Kd α} {d' : Kd β} {e e' : Nat} {w w1 W : World} {base b : Nat} {ok ok' okv oku : Nat → Prop} {u v : Value} {xs : List α} {ys : List β}
theorem y7O (hE : d.E = []) (h : d.R e w base ok v xs) : d.R e w base (fun k => some k = v.ownBlock) v xs := by
 obtain ⟨h0, inner, ho, hr⟩ := h
 refine ⟨fun k hk => hk.symm, inner, ho, hr.y6B (fun p c hp => d.M_mono (fun k hk => ?_) (d.M_bound hp))⟩
 obtain ⟨_, _, _, q, hq, _⟩ := hk
 rw [hE] at hq
 cases hq
theorem y6O (d : Kd α) (e : Nat) (w : World) (base : Nat) (ok : Nat → Prop) : S d e w base ok (.slice none 0 0) [] := ⟨fun _ => 0, z5O _ _ _ _ _⟩
end
section
variable {α β : Type} {d : Kd α} {d' : Kd β} {e e' g : Nat} {w w1 W : World} {base b : Nat} {ok ok' okv oku : Nat → Prop} {u v : Value} {xs : List α} {ys : List β}
end
section
variable {P : Program} {ops : Array Oper} {rest : List Oper} {o : Oper} {a : Act} {Q : Exit → Act → World → Prop} {Kc : Act → World → Prop} {α : Type}
end
def gap {α : Type} (f : Nat → Nat) (d : Kd α) (i : Nat) (c : List Value) : Kd (α × Nat) where
 sz := d.sz
 E := d.E
 K := fun w x cs => (x.2 = i → cs = c ∧ cs.length = d.sz ∧ ∀ u ∈ cs, u.oneCell' = true) ∧ (x.2 ≠ i → d.K w x.1 cs)
 M := fun w base ok x cs => (x.2 = i → cs = c ∧ cs.length = d.sz ∧ ∀ u ∈ cs, u.oneCell' = true) ∧ (x.2 ≠ i → d.M w base (fun k => ok k ∧ f k = x.2) x.1 cs)
 K_len := fun {w x cs} h => by
  by_cases hx : x.2 = i
  ·exact (h.1 hx).2.1
  ·exact d.K_len (h.2 hx)
 K_one := fun {w x cs} h => by
  by_cases hx : x.2 = i
  ·exact (h.1 hx).2.2
  ·exact d.K_one (h.2 hx)
 K_below := fun hb h => ⟨h.1, fun hx => d.K_below hb (h.2 hx)⟩
 K_of_M := fun h => ⟨h.1, fun hx => d.K_of_M (h.2 hx)⟩
 M_mono := fun hok h => ⟨h.1, fun hx => d.M_mono (fun k hk => ⟨hok k hk.1, hk.2⟩) (h.2 hx)⟩
 M_bound := fun h => ⟨h.1, fun hx => d.M_mono (fun _ hk => ⟨⟨hk.1.1, hk.2⟩, hk.1.2⟩) (d.M_bound (h.2 hx))⟩
 M_move := fun hm h => ⟨h.1, fun hx => d.M_move (fun k hk => hm k hk.1) (h.2 hx)⟩
 M_lower := fun hb h => ⟨h.1, fun hx => d.M_lower hb (h.2 hx)⟩
def H {α : Type} (d : Kd α) (e : Nat) (w : World) (base : Nat) (ok : Nat → Prop) (v : Value) (xs : List α) (i : Int) (oki : Nat → Prop) (c : List Value) : Prop :=
 (∀ k, oki k → ok k) ∧ ∃ f, (gap f d i.toNat c).R e w base (fun k => ok k ∧ ¬ oki k) v xs.zipIdx
section
variable {α β : Type} {d : Kd α} {e e' g n cap : Nat} {w w1 W : World} {base : Nat} {ok ok' oki okp : Nat → Prop} {u v : Value} {xs : List α} {i : Int} {c : List Value}
end
section
variable {P : Program} {ops : Array Oper} {rest : List Oper} {o : Oper} {a : Act} {Q : Exit → Act → World → Prop} {α : Type}
end
end Kd
end Go.Proofs.YtplkoabikliagaaGreatDoorW.PrintWords
namespace Go.Proofs.YtplkoabikliagaaGreatDoorW.PrintWords
open Go.RowKit
namespace Kd
section
variable {α : Type} {n : Nat} {d : Kd α} {hs : 0 < d.sz} {w : World} {base : Nat} {ok : Nat → Prop} {xs : List α} {cs : List Value}
end
section
variable {α : Type} {n : Nat} {enc : α → Value} {h1 : ∀ x, (enc x).oneCell' = true} {hs : 0 < (scalar enc h1).sz} {w : World} {base : Nat} {ok : Nat → Prop} {xs : List α} {cs : List Value}
end
end Kd
end Go.Proofs.YtplkoabikliagaaGreatDoorW.PrintWords
namespace Go.Proofs.YtplkoabikliagaaGreatDoorW.PrintWords
open Go.RowKit
section
variable {P : Program}
end
namespace Kd
section
variable {P : Program} {ops : Array Oper} {rest : List Oper} {o : Oper} {a : Act} {Q : Exit → Act → World → Prop} {Kc : Act → World → Prop} {α : Type}
end
section
variable {α : Type} {d : Kd α} {e : Nat} {w : World} {base : Nat} {ok : Nat → Prop} {v : Value} {xs : List α}
end
section
variable {P : Program} {ops : Array Oper} {rest : List Oper} {o : Oper} {a : Act} {Q : Exit → Act → World → Prop} {Kc : Act → World → Prop} {α : Type}
end
end Kd
end Go.Proofs.YtplkoabikliagaaGreatDoorW.PrintWords
namespace Go.Proofs.YtplkoabikliagaaGreatDoorW.PrintWords
open Go.RowKit
namespace Kd
structure Heap {α : Type} (d : Kd α) : Prop where
 K : ∀ {w w1 : World} {x : α} {cs : List Value}, (∀ k, k < w.heap.size → w1.heap[k]? = w.heap[k]?) → d.K w x cs → d.K w1 x cs
theorem x1U {w w1 : World} (hb : ∀ k, k < w.heap.size → w1.heap[k]? = w.heap[k]?) {a : Addr} {v : Value} (h : w.cell? a = some v) : w1.cell? a = some v := by
 have := hb a.block (World.block_lt_of_cell? w a h)
 simpa [World.cell?, this] using h
theorem Heap.C {α : Type} {d : Kd α} (hd : Heap d) {w w1 : World} {A : Option Addr} {n : Nat} {xs : List α} (hb : ∀ k, k < w.heap.size → w1.heap[k]? = w.heap[k]?) (h : d.C w A n xs) : d.C w1 A n xs :=
 ⟨h.1, h.2.1, fun hn => by
  obtain ⟨ad, e, hc⟩ := h.2.2 hn
  refine ⟨ad, e, fun j p hj => ?_⟩
  obtain ⟨c, hs, hr, hcell⟩ := hc j p hj
  exact ⟨c, hs, hd.K hb hr, fun i u hu => x1U hb (hcell i u hu)⟩⟩
theorem z3E (k : IntKind) : Heap (Kd.int k) := ⟨fun _ h => h⟩
theorem x1V : Heap Kd.bool := ⟨fun _ h => h⟩
theorem y1I : Heap Kd.string := ⟨fun _ h => h⟩
theorem z6m {α : Type} {d : Kd α} (e : Nat) (hd : Heap d) : Heap (slice e d) := ⟨by
 rintro w w1 x cs hb ⟨A, c, rfl, hl, hr⟩
 exact ⟨A, c, rfl, hl, hd.C hb hr⟩⟩
theorem z2H {α β : Type} {a : Kd α} {b : Kd β} (ha : Heap a) (hb' : Heap b) : Heap (pair a b) := ⟨by
 rintro w w1 x cs hb ⟨c0, c1, rfl, h0, h1⟩
 exact ⟨c0, c1, rfl, ha.K hb h0, hb'.K hb h1⟩⟩
theorem z8P {α β : Type} {d : Kd α} (f : β → α) (hd : Heap d) : Heap (iso d f) := ⟨fun hb h => hd.K hb h⟩
section
variable {α : Type} {d : Kd α} {e base g n c : Nat} {ok : Nat → Prop} {w w0 W : World} {A : Option Addr} {xs : List α}
end
end Kd
end Go.Proofs.YtplkoabikliagaaGreatDoorW.PrintWords
namespace Go.Proofs.YtplkoabikliagaaGreatDoorW.PrintWords
open Go.RowKit
def Kept (w W : World) (S : Nat → Prop) : Prop := w.heap.size ≤ W.heap.size ∧ ∀ i, i < w.heap.size → ¬ S i → W.heap[i]? = w.heap[i]?
section
variable {w W W2 : World} {S S2 S' : Nat → Prop}
theorem Kept.refl (w : World) (S : Nat → Prop) : Kept w w S := ⟨Nat.le_refl _, fun _ _ _ => rfl⟩
theorem Kept.of_below (h : Below w.heap.size w W) (S : Nat → Prop) : Kept w W S := ⟨h.size, fun i hi _ => h.block i hi⟩
theorem Kept.mono (h : Kept w W S) (hs : ∀ k, S k → S' k) : Kept w W S' := ⟨h.1, fun i hi hn => h.2 i hi (fun hk => hn (hs i hk))⟩
theorem Kept.w2v (h : Kept w W S) (k : Kept W W2 S2) (hs : ∀ k, S2 k → S k ∨ w.heap.size ≤ k) : Kept w W2 S :=
 ⟨Nat.le_trans h.1 k.1, fun i hi hn => (k.2 i (Nat.lt_of_lt_of_le hi h.1) (fun h2 => (hs i h2).elim hn (fun h3 => by omega))).trans (h.2 i hi hn)⟩
theorem Kept.below (h : Kept w W S) (hb : Below W.heap.size W W2) : Kept w W2 S := h.w2v (Kept.of_below hb (fun _ => False)) (fun _ hk => hk.elim)
theorem Kept.alloc (h : Kept w W S) (o : Obj) : Kept w (W.alloc o) S := h.below (z1w (Below.refl _ _) o)
theorem Kept.drew (h : Kept w W S) : Kept w W.drew S := h
theorem Kept.drewN (h : Kept w W S) (m : Nat) : Kept w (W.drewN m) S := h
theorem Kept.setCell (h : Kept w W S) {p : Addr} (hp : S p.block ∨ w.heap.size ≤ p.block) (u : Value) : Kept w (W.setCell p u) S :=
 h.w2v (S2 := fun k => k = p.block) ⟨by simp [World.setCell], fun i _ hn => Below.heap_setCell W p u i hn⟩ (fun k hk => by rw [hk]; exact hp)
theorem Kept.keep {g : Nat} (h : z3B w W g none) (k : Kept W W2 S2) (hs : ∀ k, S2 k → w.heap.size ≤ k) : z3B w W2 g none :=
 ⟨Nat.le_trans h.1 k.1, fun i hi hg hr => (k.2 i (Nat.lt_of_lt_of_le hi h.1) (fun h2 => by have := hs i h2; omega)).trans (h.2 i hi hg hr)⟩
theorem x6D {g : Nat} {o : Obj} (hb : W.heap[g]? = some o) (hk : Kept W W2 S) (hne : ¬ S g) : W2.heap[g]? = some o := (hk.2 g (z4s hb) hne).trans hb
end
namespace Kd
section
variable {α : Type} {d : Kd α} {e base n c : Nat} {ok oki S S2 : Nat → Prop} {w w0 W W1 W2 : World} {v : Value} {A : Option Addr} {xs : List α} {i : Int} {cs : List Value}
end
end Kd
end Go.Proofs.YtplkoabikliagaaGreatDoorW.PrintWords
namespace Go.Proofs.YtplkoabikliagaaGreatDoorW.PrintWords
open Go.RowKit
def Foot (P : World → Prop) (W : World) (ok : Nat → Prop) : Prop := ∀ W' : World, (∀ k, ok k → k < W.heap.size → W'.heap[k]? = W.heap[k]?) → P W'
theorem x8h {W W1 : World} {k : Nat} (h : W1.heap[k]? = W.heap[k]?) (hlt : k < W.heap.size) : k < W1.heap.size := by
 rw [Array.getElem?_eq_getElem hlt] at h
 exact (Array.getElem?_eq_some_iff.1 h).1
namespace Foot
variable {P Q : World → Prop} {W W1 : World} {ok ok' : Nat → Prop}
theorem now (h : Foot P W ok) : P W := h W (fun _ _ _ => rfl)
theorem mono (h : Foot P W ok) (hok : ∀ k, ok k → ok' k) : Foot P W ok' := fun W' hW => h W' (fun k hk hlt => hW k (hok k hk) hlt)
theorem bound (h : Foot P W ok) : Foot P W (fun k => ok k ∧ k < W.heap.size) := fun W' hW => h W' (fun k hk hlt => hW k ⟨hk, hlt⟩ hlt)
theorem step (h : Foot P W ok) (hm : ∀ k, ok k → k < W.heap.size → W1.heap[k]? = W.heap[k]?) : Foot P W1 ok := fun W' hW => h W' (fun k hk hlt => (hW k hk (x8h (hm k hk hlt) hlt)).trans (hm k hk hlt))
theorem old (h : Foot P W ok) (hb : Below W.heap.size W W1) : Foot P W1 (fun k => ok k ∧ k < W.heap.size) := (h.bound).step (fun k _ hlt => hb.block k hlt)
end Foot
namespace Kd
def F {α : Type} (d : Kd α) (W : World) (ok : Nat → Prop) (A : Option Addr) (n : Nat) (xs : List α) : Prop := Foot (fun W => d.C W A n xs) W ok
def FK {α : Type} (d : Kd α) (W : World) (ok : Nat → Prop) (x : α) (c : List Value) : Prop := Foot (fun W => d.K W x c) W ok
section
variable {α β : Type} {d : Kd α} {e base n n' cc g N : Nat} {ok ok' okp S : Nat → Prop} {w w0 w1 W W1 : World} {A A' : Option Addr} {u v v1 : Value} {xs : List α} {xs' : List β} {d' : Kd β} {x : α} {c : List Value}
theorem x8i (h : F d W ok A n xs) : d.C W A n xs := Foot.now h
theorem x0r (h : F d W ok A n xs) (hok : ∀ k, ok k → ok' k) : F d W ok' A n xs := Foot.mono h hok
theorem x1W (h : F d W ok A n xs) : F d W (fun k => ok k ∧ k < W.heap.size) A n xs := Foot.bound h
theorem x7L (h : F d W ok A n xs) (hm : ∀ k, ok k → k < W.heap.size → W1.heap[k]? = W.heap[k]?) : F d W1 ok A n xs := Foot.step h hm
theorem y4Y (h : F d W ok A n xs) (hb : Below W.heap.size W W1) : F d W1 ok A n xs := x7L h (fun k _ hlt => hb.block k hlt)
theorem x8j (h : F d W ok A n xs) (o : Obj) : F d (W.alloc o) ok A n xs := y4Y h (z1w (Below.refl _ _) o)
theorem w2w (h : F d W ok A n xs) : F d W.drew ok A n xs := y4Y h (z4r (Below.refl _ _))
theorem x8k (h : F d W ok A n xs) (m : Nat) : F d (W.drewN m) ok A n xs := y4Y h (z1d (Below.refl _ _) m)
theorem F_nil (d : Kd α) (W : World) (ok : Nat → Prop) : F d W ok none ([] : List α).length [] := fun W' _ => C_nil d W'
theorem x6E (h : F d W ok A n xs) (hbase : ∀ k, v.ownBlock = some k → W.heap.size ≤ k) (hb : Below W.heap.size W W1) : F d W1 (fun k => ok k ∧ some k ≠ v.ownBlock) A n xs :=
 x0r (Foot.old h hb) (fun k hk => ⟨hk.1, fun he => by have := hbase k he.symm; have := hk.2; omega⟩)
theorem x6F (h : F d W ok A n xs) (a : Nat) (ha : W.heap.size ≤ a) : F d W (fun k => ok k ∧ k ≠ a) A n xs := x0r (x1W h) (fun k hk => ⟨hk.1, by have := hk.2; omega⟩)
theorem x8l (h : F d W (fun k => ok k ∧ some k ≠ v.ownBlock) A n xs) (hg : W.grownBy W1 v.ownBlock) (hat : v1.ownBlock = v.ownBlock ∨ ∃ b, v1.ownBlock = some b ∧ W.heap.size ≤ b) : F d W1 (fun k => ok k ∧ some k ≠ v1.ownBlock) A n xs := by
 refine x0r (Foot.step (x1W h) (fun k hk hlt => hg.block k hlt hk.1.2)) (fun k hk => ⟨hk.1.1, ?_⟩)
 rcases hat with hat | ⟨b, hb, hle⟩
 ·rw [hat]; exact hk.1.2
 ·rw [hb]
  intro he
  injection he with he
  have := hk.2
  omega
theorem C_F (hd : Heap d) (h : d.C w A n xs) : F d w (fun k => k < w.heap.size) A n xs := fun _ hW => hd.C (fun k hlt => hW k hlt hlt) h
theorem x0s (h : FK d W ok x c) : d.K W x c := Foot.now h
theorem x1X (h : FK d W ok x c) (hok : ∀ k, ok k → ok' k) : FK d W ok' x c := Foot.mono h hok
theorem x6G (h : FK d W ok x c) : FK d W (fun k => ok k ∧ k < W.heap.size) x c := Foot.bound h
theorem x1Y (h : FK d W ok x c) (hm : ∀ k, ok k → k < W.heap.size → W1.heap[k]? = W.heap[k]?) : FK d W1 ok x c := Foot.step h hm
theorem x8m (h : d.M W base ok x c) : FK d W ok x c := fun _ hW => d.K_of_M (x7D h hW)
theorem emptied (W : World) (g : Nat) : ∃ W' : World, (∀ k, k ≠ g → W'.heap[k]? = W.heap[k]?) ∧ ∀ a : Addr, a.block = g → W'.cell? a = none := by
 refine ⟨{ W with heap := W.heap.setIfInBounds g (.cells #[] 0) }, fun k hk => by simp [Ne.symm hk], fun a ha => ?_⟩
 subst ha
 by_cases hlt : a.block < W.heap.size
 ·simp [World.cell?, hlt]
 ·simp [World.cell?, hlt]
end
end Kd
end Go.Proofs.YtplkoabikliagaaGreatDoorW.PrintWords
namespace Go.Proofs.YtplkoabikliagaaGreatDoorW.PrintWords
open Go.RowKit
namespace Kd
def chunks (sz : Nat) (n : Nat) (inner : List Value) : List (List Value) := (List.range n).map fun j => (inner.drop (j * sz)).take sz
theorem z2Y (sz n : Nat) (inner : List Value) : (chunks sz n inner).length = n := by simp [chunks]
theorem x1Z {sz n : Nat} {inner : List Value} {j : Nat} (hj : j < n) : (chunks sz n inner)[j]? = some ((inner.drop (j * sz)).take sz) := by simp [chunks, hj]
theorem z8Q {sz n : Nat} {inner : List Value} {j : Nat} {c : List Value} (h : (chunks sz n inner)[j]? = some c) : c = (inner.drop (j * sz)).take sz := by
 have hj : j < n := by have := (List.getElem?_eq_some_iff.1 h).1; rwa [z2Y] at this
 rw [x1Z hj] at h
 injection h with h
 exact h.symm
theorem x6H {α : Type} {Rr : α → List Value → Prop} {sz : Nat} {xs : List α} {inner : List Value} (h : Reps Rr sz xs inner) (hR : ∀ x c, Rr x c → c.length = sz ∧ ∀ u ∈ c, u.oneCell' = true) : Reps (fun x cs => cs = x ∧ cs.length = sz ∧ ∀ u ∈ cs, u.oneCell' = true) sz (chunks sz xs.length inner) inner := by
 refine ⟨by rw [z2Y]; exact h.1, fun j p hj => ?_⟩
 have hjl : j < xs.length := by have := (List.getElem?_eq_some_iff.1 hj).1; rwa [z2Y] at this
 have hp := z8Q hj
 exact ⟨hp.symm, hR _ _ (h.2 j _ (List.getElem?_eq_getElem hjl))⟩
section
variable {α : Type} {d : Kd α} {e base n cc g : Nat} {ok ok' okp S : Nat → Prop} {w w1 W W1 : World} {A : Option Addr} {u v v1 : Value} {xs : List α} {x : α} {c : List Value}
theorem w2x (h : F d W ok A n xs) (z : α) (i : Int) (h0 : 0 ≤ i) (h1 : i < n) :
  ∃ ad c, A = some ad ∧ c.length = d.sz ∧ FK d W ok (xs.getD i.toNat z) c ∧ (∀ j u, c[j]? = some u → W.cell? (ad.add (i.toNat * d.sz + j)) = some u) ∧ (0 < d.sz → ok ad.block) := by
 obtain ⟨ad, c, rfl, hcl, hK, hcc⟩ := y4R (x8i h) z i h0 h1
 have hin : 0 < d.sz → ok ad.block := by
  intro hs
  by_cases hk : ok ad.block
  ·exact hk
  ·obtain ⟨W', h2, h3⟩ := emptied W ad.block
   obtain ⟨ad', c', he, hcl', _, hcc'⟩ := y4R (h W' (fun k hk' _ => h2 k (fun e => hk (e ▸ hk')))) z i h0 h1
   injection he with he
   subst he
   have h4 := hcc' 0 _ (List.getElem?_eq_getElem (by omega))
   rw [h3 _ (add_block _ _)] at h4
   cases h4
 refine ⟨ad, c, rfl, hcl, fun W' hW => ?_, hcc, hin⟩
 obtain ⟨ad', c', he, hcl', hK', hcc'⟩ := y4R (h W' hW) z i h0 h1
 injection he with he
 subst he
 have hc : c = c' := by
  apply List.ext_getElem?
  intro j
  by_cases hj : j < d.sz
  ·have hb : W'.heap[ad.block]? = W.heap[ad.block]? := by
    have h5 := hcc j _ (List.getElem?_eq_getElem (by omega))
    have h6 := World.block_lt_of_cell? W _ h5
    rw [add_block] at h6
    exact hW _ (hin (by omega)) h6
   have h5 := hcc j _ (List.getElem?_eq_getElem (by omega))
   have h6 := hcc' j _ (List.getElem?_eq_getElem (by omega))
   have h7 : W'.cell? (ad.add (i.toNat * d.sz + j)) = W.cell? (ad.add (i.toNat * d.sz + j)) := by simp [World.cell?, add_block, hb]
   rw [h7, h5] at h6
   rw [List.getElem?_eq_getElem (by omega), List.getElem?_eq_getElem (by omega)]
   exact h6
  ·rw [List.getElem?_eq_none (by omega), List.getElem?_eq_none (by omega)]
 rw [hc]
 exact hK'
theorem w2y (h : F d W ok A n xs) : z2F (fun x c => FK d W ok x c) d.sz W A n xs := by
 obtain ⟨hl, hm, hn⟩ := x8i h
 refine ⟨hl, hm, fun hp => ?_⟩
 obtain ⟨ad, rfl, _⟩ := hn hp
 refine ⟨ad, rfl, fun j p hj => ?_⟩
 obtain ⟨hjl, hjp⟩ := List.getElem?_eq_some_iff.1 hj
 obtain ⟨ad', c, he, hcl, hK, hcc, _⟩ := w2x h p (j : Int) (by omega) (by omega)
 injection he with he
 subst he
 simp only [Int.toNat_natCast] at hK hcc
 rw [List.getD_eq_getElem?_getD, hj] at hK
 exact ⟨c, hcl, hK, hcc⟩
def N {α : Type} (d : Kd α) (e : Nat) (w : World) (base : Nat) (ok : Nat → Prop) (v : Value) (xs : List α) : Prop :=
 (∀ k, v.ownBlock = some k → ok k) ∧ ∃ rows : List (List Value), rows.length = xs.length ∧ (raw d.sz).R e w base (fun k => some k = v.ownBlock) v rows ∧ ∀ (j : Nat) (x : α) (c : List Value), xs[j]? = some x → rows[j]? = some c → FK d w (fun k => ok k ∧ some k ≠ v.ownBlock) x c
theorem x2a {sz : Nat} {rows : List (List Value)} (h : (raw sz).R e w base ok v rows) : (raw sz).R e w base (fun k => some k = v.ownBlock) v rows := y7O rfl h
theorem x8n {sz : Nat} {rows : List (List Value)} (h : (raw sz).R e w base ok v rows) : (raw sz).R e w base (fun _ => True) v rows := z3D h (fun _ _ => trivial)
theorem R_N (h : d.R e w base ok v xs) : N d e w base ok v xs := by
 obtain ⟨h0, inner, ho, hr⟩ := h
 refine ⟨h0, chunks d.sz xs.length inner, z2Y _ _ _, ⟨fun k hk => hk.symm, inner, by rw [z2Y]; exact ho, x6H hr (fun x c hp => ⟨d.K_len (d.K_of_M hp), d.K_one (d.K_of_M hp)⟩)⟩, fun j x c hx hc => ?_⟩
 rw [z8Q hc]
 exact x8m (hr.2 j x hx)
theorem y6P (d : Kd α) (e : Nat) (w : World) (base : Nat) (ok : Nat → Prop) : N d e w base ok (.slice none 0 0) [] := R_N (z5O _ _ _ _ _)
theorem w2z (h : N d e w base ok v xs) (hok : ∀ k, ok k → ok' k) : N d e w base ok' v xs := by
 obtain ⟨h0, rows, hl, hR, hf⟩ := h
 exact ⟨fun k hk => hok k (h0 k hk), rows, hl, hR, fun j x c hx hc => x1X (hf j x c hx hc) (fun k hk => ⟨hok k hk.1, hk.2⟩)⟩
theorem x8o (h : N d e w base ok v xs) : ∀ k, v.ownBlock = some k → ∃ cells, w.heap[k]? = some (.cells cells e (0, 0)) := by
 obtain ⟨_, rows, _, hR, _⟩ := h
 exact x8b hR
theorem N_ne (h : N d e w base ok v xs) {t : Nat} {cells : Array Value} (hb : w.heap[g]? = some (.cells cells t (0, 0))) (ht : e ≠ t) : some g ≠ v.ownBlock := by
 obtain ⟨_, rows, _, hR, _⟩ := h
 exact x7G hR hb ht
theorem x7M (h : N d e w base ok v xs) (hm : ∀ k, ok k → k < w.heap.size → w1.heap[k]? = w.heap[k]?) : N d e w1 base ok v xs := by
 obtain ⟨h0, rows, hl, hR, hf⟩ := h
 exact ⟨h0, rows, hl, x1K hR (fun k hk hlt => hm k (h0 k hk.symm) hlt), fun j x c hx hc => x1Y (hf j x c hx hc) (fun k hk hlt => hm k hk.1 hlt)⟩
theorem y1J (h : N d e w base ok v xs) (hb : Below w.heap.size w w1) : N d e w1 base ok v xs := x7M h (fun k _ hk => hb.block k hk)
theorem y4Z (h : N d e w base ok v xs) (o : Obj) : N d e (w.alloc o) base ok v xs := y1J h (z1w (Below.refl _ _) o)
theorem y6Q (h : N d e w base ok v xs) : N d e w.drew base ok v xs := y1J h (z4r (Below.refl _ _))
theorem y5a (h : N d e w base ok v xs) (m : Nat) : N d e (w.drewN m) base ok v xs := y1J h (z1d (Below.refl _ _) m)
theorem x8p (h : N d e w base ok v xs) : ∃ A c, v = .slice A xs.length c := by
 obtain ⟨_, rows, hl, hR, _⟩ := h
 obtain ⟨A, c, he⟩ := z2q hR
 exact ⟨A, c, by rw [he, hl]⟩
theorem x0t {n c : Nat} (h : N d e w base ok (.slice A n c) xs) : n = xs.length ∧ n ≤ c ∧ d.C w A xs.length xs := by
 obtain ⟨_, rows, hl, hR, hf⟩ := h
 obtain ⟨hn, hc, hC⟩ := z1K hR
 refine ⟨by omega, hc, ?_⟩
 rw [hl] at hC
 refine ⟨rfl, hC.2.1, fun hp => ?_⟩
 obtain ⟨ad, he, hcell⟩ := hC.2.2 hp
 refine ⟨ad, he, fun j p hj => ?_⟩
 have hjl : j < rows.length := by have := (List.getElem?_eq_some_iff.1 hj).1; omega
 obtain ⟨c', hcl, hK, hcc⟩ := hcell j _ (List.getElem?_eq_getElem hjl)
 have hk := x0s (hf j p _ hj (List.getElem?_eq_getElem hjl))
 refine ⟨c', hcl, ?_, hcc⟩
 rw [show c' = rows[j] from hK.1]
 exact hk
theorem x8q (h : N d e w base ok v xs) : ∃ A c, v = .slice A xs.length c ∧ xs.length ≤ c ∧ d.C w A xs.length xs := by
 obtain ⟨A, c, rfl⟩ := x8p h
 exact ⟨A, c, rfl, (x0t h).2⟩
end
end Kd
end Go.Proofs.YtplkoabikliagaaGreatDoorW.PrintWords
namespace Go.Proofs.YtplkoabikliagaaGreatDoorW.PrintWords
open Go.RowKit
namespace Kd
section
variable {α : Type} {d : Kd α} {W : World} {g n : Nat} {S ok : Nat → Prop} {A : Option Addr} {ad : Addr} {xs : List α}
end
end Kd
end Go.Proofs.YtplkoabikliagaaGreatDoorW.PrintWords
namespace Go.Proofs.YtplkoabikliagaaGreatDoorW.PrintWords
open Go.RowKit
section
variable {w w' u : World} {m B g : Nat} {o : Obj} {row : Option Nat} {S : Nat → Prop} {a : Addr} {v : Value}
end
namespace Kd
section
variable {α : Type} {d : Kd α} {e base n m : Nat} {ok : Nat → Prop} {w w' : World} {v : Value} {A : Option Addr} {xs : List α}
theorem w2k (hq : w.drewN m = w') (h : d.R e w base ok v xs) : d.R e w' base ok v xs := by subst hq; exact z0Y h m
end
end Kd
end Go.Proofs.YtplkoabikliagaaGreatDoorW.PrintWords
namespace Go.Proofs.YtplkoabikliagaaGreatDoorW.PrintWords
open Go.RowKit
section
variable {P : Program} {d : Nat} {xs ys : Array Value} {f : Field} {fs : List Field} {a b : Value} {r s : Bool} {w : World}
theorem x0u (hn : (f.name == "_") = false) (ha : (part f.type xs f.offset).run P w = .ok a w) (hb : (part f.type ys f.offset).run P w = .ok b w) (he : (Op.equalIn d f.type a b).run P w = .ok r w) : (Op.eqFields d xs ys [f]).run P w = .ok r w := by
 have hn' : f.name ≠ "_" := by simpa using hn
 simp only [Op.eqFields, if_pos hn', Sem.run_bind, ha, hb, he, Result.andThen_ok]
 cases r <;> simp
theorem z9Y (hn : (f.name == "_") = false) (ha : (part f.type xs f.offset).run P w = .ok a w) (hb : (part f.type ys f.offset).run P w = .ok b w) (he : (Op.equalIn d f.type a b).run P w = .ok r w) (hr : (Op.eqFields d xs ys fs).run P w = .ok s w) : (Op.eqFields d xs ys (f :: fs)).run P w = .ok (r && s) w := by
 have hn' : f.name ≠ "_" := by simpa using hn
 rw [Op.eqFields]
 simp only [if_pos hn', Sem.run_bind, ha, hb, he, Result.andThen_ok]
 cases r
 ·simp
 ·simpa using hr
theorem x7N {t : TypeId} {fs : Array Field} (hu : P.underlying t = some (.struct fs)) (hp : P.stoodInHeld t = false) (h : (Op.eqFields d xs ys fs.toList).run P w = .ok r w) : (Op.equalIn (d + 1) t (.agg xs) (.agg ys)).run P w = .ok r w := by
 have hf : P.fieldsOf t = fs := by simp [Program.fieldsOf, hu]
 rw [run_equalIn_struct (P := P) w d t xs ys (by rw [hf]; exact hu) hp, hf]
 exact h
end
end Go.Proofs.YtplkoabikliagaaGreatDoorW.PrintWords
namespace Go.Proofs.YtplkoabikliagaaGreatDoorW.PrintWords
theorem Reps.one {α : Type} {R : α → List Value → Prop} {ps : List α} {cs : List Value} {p : α} {v : Value} (hp : R p [v]) (h : Reps R 1 ps cs) : Reps R 1 (p :: ps) (v :: cs) := by
 refine ⟨by simp [h.1], fun j q hq => ?_⟩
 cases j with
 | zero =>
  simp only [List.getElem?_cons_zero, Option.some.injEq] at hq
  subst hq
  simpa using hp
 | succ j =>
  simp only [List.getElem?_cons_succ] at hq
  have h1 := h.2 j q hq
  simpa [Nat.mul_one] using h1
theorem Reps.front {α : Type} {R : α → List Value → Prop} {size : Nat} {ps : List α} {cs c all : List Value} {p : α} (hp : R p c) (hc : c.length = size) (h : Reps R size ps cs) (ha : c ++ cs = all) : Reps R size (p :: ps) all := by
 subst ha
 refine ⟨by rw [List.length_append, hc, h.1, List.length_cons, Nat.succ_mul, Nat.add_comm], fun j q hq => ?_⟩
 cases j with
 | zero =>
  simp only [List.getElem?_cons_zero, Option.some.injEq] at hq
  subst hq
  rw [Nat.zero_mul, List.drop_zero, List.take_append_of_le_length (by omega), List.take_of_length_le (by omega)]
  exact hp
 | succ j =>
  simp only [List.getElem?_cons_succ] at hq
  have h1 := h.2 j q hq
  rw [Nat.succ_mul, List.drop_append, List.drop_of_length_le (by rw [hc]; exact Nat.le_add_left _ _), List.nil_append, hc, Nat.add_sub_cancel]
  exact h1
theorem Reps.c2 {α : Type} {R : α → List Value → Prop} {ps : List α} {cs : List Value} {p : α} {va vb : Value} (hp : R p [va, vb]) (h : Reps R 2 ps cs) : Reps R 2 (p :: ps) (va :: vb :: cs) := Reps.front hp rfl h rfl
theorem Reps.c3 {α : Type} {R : α → List Value → Prop} {ps : List α} {cs : List Value} {p : α} {va vb vc : Value} (hp : R p [va, vb, vc]) (h : Reps R 3 ps cs) : Reps R 3 (p :: ps) (va :: vb :: vc :: cs) := Reps.front hp rfl h rfl
theorem Reps.c4 {α : Type} {R : α → List Value → Prop} {ps : List α} {cs : List Value} {p : α} {va vb vc vd : Value} (hp : R p [va, vb, vc, vd]) (h : Reps R 4 ps cs) : Reps R 4 (p :: ps) (va :: vb :: vc :: vd :: cs) := Reps.front hp rfl h rfl
theorem Reps.c5 {α : Type} {R : α → List Value → Prop} {ps : List α} {cs : List Value} {p : α} {va vb vc vd ve : Value} (hp : R p [va, vb, vc, vd, ve]) (h : Reps R 5 ps cs) : Reps R 5 (p :: ps) (va :: vb :: vc :: vd :: ve :: cs) := Reps.front hp rfl h rfl
theorem Reps.c6 {α : Type} {R : α → List Value → Prop} {ps : List α} {cs : List Value} {p : α} {va vb vc vd ve vf : Value} (hp : R p [va, vb, vc, vd, ve, vf]) (h : Reps R 6 ps cs) : Reps R 6 (p :: ps) (va :: vb :: vc :: vd :: ve :: vf :: cs) := Reps.front hp rfl h rfl
theorem Reps.c7 {α : Type} {R : α → List Value → Prop} {ps : List α} {cs : List Value} {p : α} {va vb vc vd ve vf vg : Value} (hp : R p [va, vb, vc, vd, ve, vf, vg]) (h : Reps R 7 ps cs) : Reps R 7 (p :: ps) (va :: vb :: vc :: vd :: ve :: vf :: vg :: cs) := Reps.front hp rfl h rfl
theorem Reps.c8 {α : Type} {R : α → List Value → Prop} {ps : List α} {cs : List Value} {p : α} {va vb vc vd ve vf vg vh : Value} (hp : R p [va, vb, vc, vd, ve, vf, vg, vh]) (h : Reps R 8 ps cs) : Reps R 8 (p :: ps) (va :: vb :: vc :: vd :: ve :: vf :: vg :: vh :: cs) := Reps.front hp rfl h rfl
theorem Reps.c9 {α : Type} {R : α → List Value → Prop} {ps : List α} {cs : List Value} {p : α} {va vb vc vd ve vf vg vh vi : Value} (hp : R p [va, vb, vc, vd, ve, vf, vg, vh, vi]) (h : Reps R 9 ps cs) : Reps R 9 (p :: ps) (va :: vb :: vc :: vd :: ve :: vf :: vg :: vh :: vi :: cs) := Reps.front hp rfl h rfl
theorem Reps.c10 {α : Type} {R : α → List Value → Prop} {ps : List α} {cs : List Value} {p : α} {va vb vc vd ve vf vg vh vi vj : Value} (hp : R p [va, vb, vc, vd, ve, vf, vg, vh, vi, vj]) (h : Reps R 10 ps cs) : Reps R 10 (p :: ps) (va :: vb :: vc :: vd :: ve :: vf :: vg :: vh :: vi :: vj :: cs) := Reps.front hp rfl h rfl
end Go.Proofs.YtplkoabikliagaaGreatDoorW.PrintWords
namespace Go.Proofs.YtplkoabikliagaaGreatDoorW.PrintLast
def up (b : Nat → Bool) (i : Nat) : Nat → Bool := fun j => if j = i then true else b j
section
variable {P : Program} {ops : Array Oper} {Q : Exit → Act → World → Prop} {md : Region.Mode} {T : Bool × List (List Nat × List Nat)} {B : List Nat} {O : List Nat} {b : Nat → Bool} {i j n : Nat}
end
end Go.Proofs.YtplkoabikliagaaGreatDoorW.PrintLast
namespace Go.Proofs.YtplkoabikliagaaGreatDoorW.PrintWords
open Go.RowKit
end Go.Proofs.YtplkoabikliagaaGreatDoorW.PrintWords
namespace Go.Proofs.YtplkoabikliagaaGreatDoorW.PrintLast
section
variable {ops : Array Oper} {a : Act} {o og : Oper} {g : Nat} {t : Tmp} {u : Bool}
end
end Go.Proofs.YtplkoabikliagaaGreatDoorW.PrintLast
namespace Go.Proofs.YtplkoabikliagaaGreatDoorW.PrintWords
open Go.RowKit
section
variable {P : Program} {ops : Array Oper} {rest : List Oper} {o : Oper} {a : Act} {Q : Exit → Act → World → Prop} {W : World}
theorem x0X (hw : Region.wanted o (yielded ops a.tmps) = true) (h : wpList P ops Q ({ o with guard := none } :: rest) a W) : wpList P ops Q (o :: rest) a W := by
 have h1 : Region.wanted { o with guard := none } (yielded ops a.tmps) = true := rfl
 unfold wpList at h ⊢
 rw [if_pos h1] at h
 rw [if_pos hw]
 exact h
end
end Go.Proofs.YtplkoabikliagaaGreatDoorW.PrintWords
namespace Go.Proofs.YtplkoabikliagaaGreatDoorW.PrintWords
open Go.RowKit
namespace Kd
section
variable {α : Type} {d : Kd α} {e base n cap g : Nat} {ok ok' okp : Nat → Prop} {w w1 W : World} {v v1 : Value} {xs ys : List α}
theorem x0Y {rows news : List (List Value)} (h0 : ∀ k, v.ownBlock = some k → ok k) (hl : rows.length = xs.length) (hf : ∀ (j : Nat) (x : α) (c : List Value), xs[j]? = some x → rows[j]? = some c → FK d W (fun k => ok k ∧ some k ≠ v.ownBlock) x c)
  (hl2 : news.length = ys.length) (hf2 : ∀ (j : Nat) (x : α) (c : List Value), ys[j]? = some x → news[j]? = some c → FK d W okp x c) (hokp : ∀ k, okp k → ok k ∧ some k ≠ v.ownBlock) (hfresh : ∀ k, W.heap.size ≤ k → ok k)
  (hR : (raw d.sz).R e w1 base (fun _ => True) v1 (rows ++ news)) (hg : W.grownBy w1 v.ownBlock) (hat : v1.ownBlock = v.ownBlock ∨ ∃ b, v1.ownBlock = some b ∧ W.heap.size ≤ b) : N d e w1 base ok v1 (xs ++ ys) := by
 have hne : ∀ k, some k ≠ v.ownBlock → k < W.heap.size → some k ≠ v1.ownBlock := by
  intro k hk hlt
  rcases hat with hat | ⟨b, hb, hle⟩
  ·rw [hat]; exact hk
  ·rw [hb]
   intro he
   injection he with he
   omega
 have step : ∀ {x : α} {c : List Value} {o : Nat → Prop}, FK d W o x c → (∀ k, o k → ok k ∧ some k ≠ v.ownBlock) → FK d w1 (fun k => ok k ∧ some k ≠ v1.ownBlock) x c := by
  intro x c o hq ho
  exact x1X (x1Y (x6G hq) (fun k hk hlt => hg.block k hlt (ho k hk.1).2)) (fun k hk => ⟨(ho k hk.1).1, hne k (ho k hk.1).2 hk.2⟩)
 refine ⟨fun k hk => ?_, rows ++ news, by rw [List.length_append, List.length_append, hl, hl2], x2a hR, fun j x c hx hc => ?_⟩
 ·rcases hat with hat | ⟨b, hb, hle⟩
  ·exact h0 k (hat ▸ hk)
  ·rw [hb] at hk
   injection hk with hk
   exact hfresh k (by omega)
 ·rcases Nat.lt_or_ge j xs.length with hlt | hge
  ·rw [List.getElem?_append_left hlt] at hx
   rw [List.getElem?_append_left (by omega)] at hc
   exact step (hf j x c hx hc) (fun _ hk => hk)
  ·rw [List.getElem?_append_right hge] at hx
   rw [List.getElem?_append_right (by omega), hl] at hc
   exact step (hf2 _ x c hx hc) hokp
theorem y6R {Rr : α → List Value → Prop} {sz m : Nat} {A : Option Addr} (h : z2F Rr sz W A m ys) (hR : ∀ x c, Rr x c → c.length = sz ∧ ∀ u ∈ c, u.oneCell' = true) :
  ∃ news : List (List Value), news.length = ys.length ∧ z2F (fun x cs => cs = x ∧ cs.length = sz ∧ ∀ u ∈ cs, u.oneCell' = true) sz W A m news ∧ ∀ (j : Nat) (x : α) (c : List Value), ys[j]? = some x → news[j]? = some c → Rr x c := by
 rcases Nat.eq_zero_or_pos m with h0 | hp
 ·have hy : ys = [] := List.eq_nil_of_length_eq_zero (h.1.trans h0)
  subst hy
  exact ⟨[], rfl, ⟨h0 ▸ rfl, h.2.1, fun hp => by omega⟩, fun j x c hx => by simp at hx⟩
 ·obtain ⟨ad, rfl, _⟩ := h.2.2 hp
  obtain ⟨inner, hr, hc⟩ := z2F.x1J h
  refine ⟨chunks sz ys.length inner, z2Y _ _ _, ⟨by rw [z2Y]; exact h.1, h.2.1, fun _ => ⟨ad, rfl, fun j p hj => ?_⟩⟩, fun j x c hx hcc => ?_⟩
  ·have hjl : j < ys.length := by have := (List.getElem?_eq_some_iff.1 hj).1; rwa [z2Y] at this
   have hpe := z8Q hj
   have hq := hR _ _ (hr.2 j _ (List.getElem?_eq_getElem hjl))
   rw [← hpe] at hq
   refine ⟨p, hq.1, ⟨rfl, hq⟩, fun i u hu => ?_⟩
   have hu2 : inner[j * sz + i]? = some u := by
    rw [hpe, List.getElem?_take] at hu
    split at hu
    ·rw [List.getElem?_drop] at hu
     exact hu
    ·cases hu
   exact hc _ u hu2
  ·rw [z8Q hcc]
   exact hr.2 j x hx
end
section
variable {P : Program} {ops : Array Oper} {rest : List Oper} {o : Oper} {a : Act} {Q : Exit → Act → World → Prop} {Kc : Act → World → Prop} {α : Type}
theorem z9Z (d : Kd α) {w0 W : World} (base : Nat) (hw : Region.wanted o (yielded ops a.tmps) = true) (s x : Operand) (t e : TypeId) (z : Value) (bytes : Nat)
  (ho : o.op = .call { callee := .builtin .append, args := #[s, x], argTypes := #[t, t] })
  (ht : P.underlying t = some (.slice e)) (hinfo : (P.info? e).map (fun i => (i.zero, i.size, i.bytes)) = some (some z, d.sz, bytes)) (hz : z.cells.size = d.sz) (hs0 : 0 < d.sz) (hb0 : 0 < bytes)
  (v : Value) (xs ys : List α) (A : Option Addr) (m c : Nat) (ok okp : Nat → Prop) (hs : a.eval s = v) (hx : a.eval x = .slice A m c)
  (HO : N d e W base ok v xs) (HR : F d W okp A m ys) (hokp : ∀ k, okp k → ok k ∧ some k ≠ v.ownBlock) (hfresh : ∀ k, W.heap.size ≤ k → ok k)
  (HB : Below base w0 W) (hbase : base ≤ W.heap.size) (hl : (xs.length + m) * bytes ≤ 140737488355328)
  (h : ∀ v1 w1, N d e w1 base ok v1 (xs ++ ys) → Below base w0 w1 → W.grownBy w1 v.ownBlock → (v1.ownBlock = v.ownBlock ∨ ∃ b, v1.ownBlock = some b ∧ W.heap.size ≤ b) → Kc (a.put o.dst v1) w1) :
  if Region.wanted o (yielded ops a.tmps) = true then Oper.wp P o a W Kc Q else Kc (a.put o.dst undef) W := by
 obtain ⟨h0, rows, hlr, hR, hf⟩ := HO
 obtain ⟨news, hnl, hnr, hnf⟩ := y6R (w2y HR) (fun y c hk => ⟨d.K_len (x0s hk), d.K_one (x0s hk)⟩)
 refine z9U (raw d.sz) base hw s x t e z bytes ho ht hinfo hz hs0 hb0 v rows news A m c (fun _ => True) (fun _ => False) hs hx (x8n hR) hnr (fun _ _ hk => hk) (fun _ hk => hk.elim) (fun _ _ => trivial) HB hbase (by rw [hlr]; exact hl) ?_
 intro v1 w1 hr hb hg hat
 exact h v1 w1 (x0Y h0 hlr hf hnl hnf hokp hfresh hr hg hat) hb hg hat
end
end Kd
end Go.Proofs.YtplkoabikliagaaGreatDoorW.PrintWords
namespace Go.Proofs.YtplkoabikliagaaGreatDoorW.PrintMore
open Go.RowKit Go.Proofs.YtplkoabikliagaaGreatDoorW.PrintWords
namespace Kd
open Go.Proofs.YtplkoabikliagaaGreatDoorW.PrintWords.Kd
end Kd
namespace Kd
open Go.Proofs.YtplkoabikliagaaGreatDoorW.PrintWords.Kd
section
variable {α : Type} {d : Kd α} {e base g N : Nat} {ok : Nat → Prop} {W w1 : World} {u v : Value} {xs : List α}
end
end Kd
theorem z1o (k k' : IntKind) (x y : Int) : Builtin.max2 (.int k x) (.int k' y) = pure (.int k (if x < y then y else x)) := by simp only [Builtin.max2, gt_iff_lt]
theorem z1p (k k' : IntKind) (x y : Int) : Builtin.min2 (.int k x) (.int k' y) = pure (.int k (if y < x then y else x)) := by simp only [Builtin.min2]
theorem z1B (ats : Array TypeId) (ty : TypeId) (a b : Value) : Builtin.max_ ats ty #[a, b] = (Builtin.max2 a b >>= fun s => pure s) := by simp only [Builtin.max_, List.foldlM_cons, List.foldlM_nil]
theorem z1C (ats : Array TypeId) (ty : TypeId) (a b : Value) : Builtin.min_ ats ty #[a, b] = (Builtin.min2 a b >>= fun s => pure s) := by simp only [Builtin.min_, List.foldlM_cons, List.foldlM_nil]
theorem z1b (ats : Array TypeId) (ty : TypeId) (a b c : Value) : Builtin.max_ ats ty #[a, b, c] = (Builtin.max2 a b >>= fun s => Builtin.max2 s c >>= fun s => pure s) := by simp only [Builtin.max_, List.foldlM_cons, List.foldlM_nil]
theorem z1c (ats : Array TypeId) (ty : TypeId) (a b c : Value) : Builtin.min_ ats ty #[a, b, c] = (Builtin.min2 a b >>= fun s => Builtin.min2 s c >>= fun s => pure s) := by simp only [Builtin.min_, List.foldlM_cons, List.foldlM_nil]
theorem z1q (ats : Array TypeId) (ty : TypeId) (a b c d : Value) : Builtin.max_ ats ty #[a, b, c, d] = (Builtin.max2 a b >>= fun s => Builtin.max2 s c >>= fun s => Builtin.max2 s d >>= fun s => pure s) := by simp only [Builtin.max_, List.foldlM_cons, List.foldlM_nil]
theorem z1r (ats : Array TypeId) (ty : TypeId) (a b c d : Value) : Builtin.min_ ats ty #[a, b, c, d] = (Builtin.min2 a b >>= fun s => Builtin.min2 s c >>= fun s => Builtin.min2 s d >>= fun s => pure s) := by simp only [Builtin.min_, List.foldlM_cons, List.foldlM_nil]
end Go.Proofs.YtplkoabikliagaaGreatDoorW.PrintMore
namespace Go.Proofs.YtplkoabikliagaaGreatDoorW.PrintWords
open Go.RowKit
section
variable {P : Program} {ops : Array Oper} {rest : List Oper} {o : Oper} {a : Act} {Q : Exit → Act → World → Prop} {W : World}
theorem z0m {f : FuncId} {xas : Array Operand} {ts : Array TypeId} (_ho : o.op = .call { callee := .value (.func f), args := xas, argTypes := ts }) (h : wpList P ops Q (o :: rest) a W) : wpList P ops Q (o :: rest) a W := h
theorem z2Z {b : Builtin} {xs : Array Operand} {ts : Array TypeId} (_ho : o.op = .call { callee := .builtin b, args := xs, argTypes := ts }) (h : wpList P ops Q (o :: rest) a W) : wpList P ops Q (o :: rest) a W := h
end
def shl (k : IntKind) (x y : Int) : Int := k.wrap (x * 2 ^ min y.toNat k.bits)
def shr (k : IntKind) (x y : Int) : Int := x / 2 ^ min y.toNat k.bits
theorem x2b {k : IntKind} {x y j : Int} (h : shl k x y = j) (hy : y ≤ k.bits) : k.wrap (x * 2 ^ y.toNat) = j := by rw [← h]; unfold shl; rw [Nat.min_eq_left (by omega)]
theorem x2c {k : IntKind} {x y j : Int} (h : shr k x y = j) (hy : y ≤ k.bits) : x / 2 ^ y.toNat = j := by rw [← h]; unfold shr; rw [Nat.min_eq_left (by omega)]
namespace Kd
section
variable {α : Type} {d : Kd α} {e base : Nat} {ok : Nat → Prop} {W w1 : World} {v : Value} {xs : List α}
end
section
variable {α : Type} {d : Kd α} {e base g n cap : Nat} {ok oki okp : Nat → Prop} {W : World} {xs : List α} {i : Int} {c : List Value}
end
section
variable {α : Type} {d : Kd α} {e base b b' g N : Nat} {ok ok1 : Nat → Prop} {W W2 w1 : World} {u v : Value} {xs ys : List α} {S : Nat → Prop}
theorem w2A (hE : d.E = []) (h : d.R e W base ok1 v xs) (hok : ∀ k, v.ownBlock = some k → ok k) : d.R e W base ok v xs := z3D (y7O hE h) (fun k hk => hok k hk.symm)
end
end Kd
end Go.Proofs.YtplkoabikliagaaGreatDoorW.PrintWords
namespace Go.Proofs.YtplkoabikliagaaGreatDoorW.PrintWords
open Go.RowKit
namespace Kd
def V {α : Type} (d : Kd α) (_e : Nat) (W : World) (_base : Nat) (ok : Nat → Prop) (v : Value) (xs : List α) : Prop := ∃ A c, v = .slice A xs.length c ∧ xs.length ≤ c ∧ F d W ok A xs.length xs
section
variable {α β : Type} {d : Kd α} {e base base' n m c g N' lo hi : Nat} {ok ok' S : Nat → Prop} {w W w1 : World} {A : Option Addr} {ad : Addr} {u v v1 : Value} {xs : List α}
theorem y6S (h : V d e W base ok v xs) (hF : ∀ A, F d W ok A xs.length xs → F d w1 ok' A xs.length xs) : V d e w1 base' ok' v xs := by
 obtain ⟨A, c, hv, hl, hf⟩ := h
 exact ⟨A, c, hv, hl, hF A hf⟩
theorem V_mk (hl : xs.length ≤ c) (hf : F d W ok A xs.length xs) : V d e W base ok (.slice A xs.length c) xs := ⟨A, c, rfl, hl, hf⟩
theorem V_at (h : V d e W base ok (.slice A n c) xs) : n = xs.length ∧ n ≤ c ∧ F d W ok A xs.length xs := by
 obtain ⟨A', c', hv, hl, hf⟩ := h
 injection hv with ha hn hc
 subst ha; subst hc
 exact ⟨hn, by rw [hn]; exact hl, hf⟩
theorem z5S (h : V d e W base ok (.slice A n c) xs) : n = xs.length ∧ n ≤ c ∧ d.C W A xs.length xs := ⟨(V_at h).1, (V_at h).2.1, x8i (V_at h).2.2⟩
theorem V_F (h : V d e W base ok (.slice A n c) xs) : F d W ok A n xs := by
 obtain ⟨hn, _, hf⟩ := V_at h
 rw [hn]
 exact hf
theorem y6T (d : Kd α) (e : Nat) (W : World) (base : Nat) (ok : Nat → Prop) : V d e W base ok (.slice none 0 0) [] := ⟨none, 0, rfl, Nat.le_refl _, F_nil d W ok⟩
theorem y4w (h : V d e W base ok v xs) (hok : ∀ k, ok k → ok' k) : V d e W base ok' v xs := y6S h (fun _ hf => x0r hf hok)
theorem y5b (h : V d e W base ok v xs) (hb : Below W.heap.size W w1) : V d e w1 base ok v xs := y6S h (fun _ hf => y4Y hf hb)
theorem z6w (h : V d e W base ok v xs) (o : Obj) : V d e (W.alloc o) base ok v xs := y6S h (fun _ hf => x8j hf o)
theorem z9a (h : V d e W base ok v xs) : V d e W.drew base ok v xs := y6S h (fun _ hf => w2w hf)
theorem z6x (h : V d e W base ok v xs) (m : Nat) : V d e (W.drewN m) base ok v xs := y6S h (fun _ hf => x8k hf m)
theorem x8r (h : V d e W base (fun k => ok k ∧ some k ≠ u.ownBlock) v xs) (hg : W.grownBy w1 u.ownBlock) (hat : v1.ownBlock = u.ownBlock ∨ ∃ b, v1.ownBlock = some b ∧ W.heap.size ≤ b) : V d e w1 base (fun k => ok k ∧ some k ≠ v1.ownBlock) v xs := y6S h (fun _ hf => x8l hf hg hat)
theorem x0v (h : V d e W base (fun k => ok k ∧ some k ≠ v.ownBlock) u xs) (hg : W.grownBy w1 v.ownBlock) (hat : v1.ownBlock = v.ownBlock ∨ ∃ b, v1.ownBlock = some b ∧ W.heap.size ≤ b) : V d e w1 base (fun k => ok k ∧ some k ≠ v1.ownBlock) u xs := x8r h hg hat
theorem x6I (h : V d e W base ok v xs) (hbase : ∀ k, u.ownBlock = some k → W.heap.size ≤ k) (hb : Below W.heap.size W w1) : V d e w1 base (fun k => ok k ∧ some k ≠ u.ownBlock) v xs := y6S h (fun _ hf => x6E hf hbase hb)
theorem x0w (h : V d e W base ok v xs) (a : Nat) (ha : W.heap.size ≤ a) : V d e W base (fun k => ok k ∧ k ≠ a) v xs := y6S h (fun _ hf => x6F hf a ha)
theorem V_get (h : V d e W base ok (.slice (some ad) n c) xs) (z : α) (i : Int) (h0 : 0 ≤ i) (h1 : i < n) :
  ∃ cs, cs.length = d.sz ∧ FK d W ok (xs.getD i.toNat z) cs ∧ ∀ j u, cs[j]? = some u → W.cell? (ad.add (i.toNat * d.sz + j)) = some u := by
 obtain ⟨ad', cs, he, hcl, hK, hcc, _⟩ := w2x (V_F h) z i h0 h1
 injection he with he
 subst he
 exact ⟨cs, hcl, hK, hcc⟩
theorem w2B {M : Nat → Prop} (h : d.R e w1 W.heap.size ok v xs) (hle : w.heap.size ≤ W.heap.size) (hM : ∀ k, w.heap.size ≤ k → M k) : d.R e w1 W.heap.size (fun k => M k ∧ ok k) v xs := z3D (z4W h) (fun k hk => ⟨hM k (Nat.le_trans hle hk.2.1), hk.1⟩)
end
end Kd
end Go.Proofs.YtplkoabikliagaaGreatDoorW.PrintWords
namespace Go.Proofs.YtplkoabikliagaaGreatDoor.K
open Go.RowKit Go.Proofs.YtplkoabikliagaaGreatDoorW.PrintWords Go.Proofs.YtplkoabikliagaaGreatDoorW.PrintLast Go.Proofs.YtplkoabikliagaaGreatDoorW.PrintMore
attribute [local go_sem] z1o z1p z1B z1C z1b z1c z1q z1r
set_option linter.unusedVariables false
set_option linter.unusedSimpArgs false
def errW : Option Int → Value
 | none => .nilIface
 | some c => .iface 0 (.int .i64 c)
theorem z3J : errW none = .nilIface := rfl
theorem z3K (c : Int) : errW (some c) = .iface 0 (.int .i64 c) := rfl
theorem info3 : (Tryz.prog.info? 3).map (fun i => (i.zero, i.size, i.bytes)) = some (some (.int .i64 0), 1, 8) := by kernel_rfl
theorem w2C : (Tryz.prog.info? 4).map (fun i => (i.zero, i.size, i.bytes)) = some (some (.bool false), 1, 1) := by kernel_rfl
theorem x7O : (Tryz.prog.info? 51).map (fun i => (i.zero, i.size, i.bytes)) = some (some (.agg #[(.string ⟨#[]⟩), (.slice none 0 0), (.slice none 0 0), (.slice none 0 0), (.slice none 0 0), (.int .u8 0), (.bool false)]), 7, 120) := by kernel_rfl
structure z1J where
 f0 : Int
 f1 : Int
 f2 : Int
def z145 : z1J := ⟨(0 : Int), (0 : Int), (0 : Int)⟩
def z5a : Kd z1J := Kd.iso (Kd.pair (Kd.int .i32) (Kd.pair (Kd.int .u32) (Kd.int .u32))) (fun x : z1J => (x.f0, x.f1, x.f2))
theorem x2d {w : World} {x : z1J} {cs : List Value} (h : z5a.K w x cs) : cs = [.int .i32 x.f0, .int .u32 x.f1, .int .u32 x.f2] := by
 obtain ⟨_, _, rfl, rfl, ⟨_, _, rfl, rfl, rfl⟩⟩ := h
 exact rfl
theorem x0x (w : World) (base : Nat) (ok : Nat → Prop) (x : z1J)  : z5a.M w base ok x [.int .i32 x.f0, .int .u32 x.f1, .int .u32 x.f2] := ⟨[.int .i32 x.f0], [.int .u32 x.f1, .int .u32 x.f2], rfl, rfl, ⟨[.int .u32 x.f1], [.int .u32 x.f2], rfl, rfl, rfl⟩⟩
def z0R (xs : List z1J) (i : Int) : z1J := xs.getD i.toNat z145
theorem z9k {w : World} {A : Option Addr} {n : Nat} {xs : List z1J} (h : Kd.C z5a w A n xs) (i : Int) (h0 : 0 ≤ i) (h1 : i < n) : ∃ ad , A = some ad ∧ w.cell? (ad.add (i.toNat * 3)) = some (.int .i32 (z0R xs i).f0) ∧ w.cell? ⟨(ad.add (i.toNat * 3)).block, (ad.add (i.toNat * 3)).off + 1, none⟩ = some (.int .u32 (z0R xs i).f1) ∧ w.cell? ⟨(ad.add (i.toNat * 3)).block, (ad.add (i.toNat * 3)).off + 2, none⟩ = some (.int .u32 (z0R xs i).f2) := by
 obtain ⟨ad, c, e, _, hK, hc0⟩ := Kd.y4R h z145 i h0 h1
 have hc : ∀ j u, c[j]? = some u → w.cell? (ad.add (i.toNat * 3 + j)) = some u := hc0
 obtain rfl := x2d hK
 exact ⟨ad, e, hc 0 _ rfl, by rw [← z2o _ _ 1 (by omega)]; exact hc 1 _ rfl, by rw [← z2o _ _ 2 (by omega)]; exact hc 2 _ rfl⟩
structure S25 where
 f0 : (List ByteArray)
 f1 : (List z1J)
def k25 : Kd S25 := Kd.iso (Kd.pair (Kd.slice 9 Kd.string) (Kd.slice 145 z5a)) (fun x : S25 => (x.f0, x.f1))
theorem x6J {w : World} {x : S25} {cs : List Value} (h : k25.K w x cs) : ∃ A0 c0 A1 c1, cs = [.slice A0 x.f0.length c0, .slice A1 x.f1.length c1] ∧ x.f0.length ≤ c0 ∧ Kd.string.C w A0 x.f0.length x.f0 ∧ x.f1.length ≤ c1 ∧ z5a.C w A1 x.f1.length x.f1 := by
 obtain ⟨_, _, rfl, ⟨A0, c0, rfl, l0, g0⟩, ⟨A1, c1, rfl, l1, g1⟩⟩ := h
 exact ⟨A0, c0, A1, c1, rfl, l0, g0, l1, g1⟩
structure S54 where
 f0 : Int
 f1 : Int
 f2 : Int
def z54 : S54 := ⟨(0 : Int), (0 : Int), (0 : Int)⟩
def k54 : Kd S54 := Kd.iso (Kd.pair (Kd.int .i32) (Kd.pair (Kd.int .u32) (Kd.int .u32))) (fun x : S54 => (x.f0, x.f1, x.f2))
theorem x6K {w : World} {x : S54} {cs : List Value} (h : k54.K w x cs) : cs = [.int .i32 x.f0, .int .u32 x.f1, .int .u32 x.f2] := by
 obtain ⟨_, _, rfl, rfl, ⟨_, _, rfl, rfl, rfl⟩⟩ := h
 exact rfl
theorem x2e {w : World} {base : Nat} {ok : Nat → Prop} {x : S54} {cs : List Value} (h : k54.M w base ok x cs) : cs = [.int .i32 x.f0, .int .u32 x.f1, .int .u32 x.f2] := by
 obtain ⟨_, _, rfl, rfl, ⟨_, _, rfl, rfl, rfl⟩⟩ := h
 exact rfl
def z1L (xs : List S54) (i : Int) : S54 := xs.getD i.toNat z54
theorem z9b {w : World} {A : Option Addr} {n : Nat} {xs : List S54} (h : Kd.C k54 w A n xs) (i : Int) (h0 : 0 ≤ i) (h1 : i < n) : ∃ ad , A = some ad ∧ w.cell? (ad.add (i.toNat * 3)) = some (.int .i32 (z1L xs i).f0) ∧ w.cell? ⟨(ad.add (i.toNat * 3)).block, (ad.add (i.toNat * 3)).off + 1, none⟩ = some (.int .u32 (z1L xs i).f1) ∧ w.cell? ⟨(ad.add (i.toNat * 3)).block, (ad.add (i.toNat * 3)).off + 2, none⟩ = some (.int .u32 (z1L xs i).f2) := by
 obtain ⟨ad, c, e, _, hK, hc0⟩ := Kd.y4R h z54 i h0 h1
 have hc : ∀ j u, c[j]? = some u → w.cell? (ad.add (i.toNat * 3 + j)) = some u := hc0
 obtain rfl := x6K hK
 exact ⟨ad, e, hc 0 _ rfl, by rw [← z2o _ _ 1 (by omega)]; exact hc 1 _ rfl, by rw [← z2o _ _ 2 (by omega)]; exact hc 2 _ rfl⟩
structure S56 where
 f0 : Int
 f1 : Int
 f2 : Int
 f3 : Int
def z56 : S56 := ⟨(0 : Int), (0 : Int), (0 : Int), (0 : Int)⟩
def k56 : Kd S56 := Kd.iso (Kd.pair (Kd.int .i32) (Kd.pair (Kd.int .i64) (Kd.pair (Kd.int .u32) (Kd.int .u32)))) (fun x : S56 => (x.f0, x.f1, x.f2, x.f3))
theorem x6L {w : World} {x : S56} {cs : List Value} (h : k56.K w x cs) : cs = [.int .i32 x.f0, .int .i64 x.f1, .int .u32 x.f2, .int .u32 x.f3] := by
 obtain ⟨_, _, rfl, rfl, ⟨_, _, rfl, rfl, ⟨_, _, rfl, rfl, rfl⟩⟩⟩ := h
 exact rfl
theorem x2f {w : World} {base : Nat} {ok : Nat → Prop} {x : S56} {cs : List Value} (h : k56.M w base ok x cs) : cs = [.int .i32 x.f0, .int .i64 x.f1, .int .u32 x.f2, .int .u32 x.f3] := by
 obtain ⟨_, _, rfl, rfl, ⟨_, _, rfl, rfl, ⟨_, _, rfl, rfl, rfl⟩⟩⟩ := h
 exact rfl
def z1y (xs : List S56) (i : Int) : S56 := xs.getD i.toNat z56
theorem y4x {w : World} {A : Option Addr} {n : Nat} {xs : List S56} (h : Kd.C k56 w A n xs) (i : Int) (h0 : 0 ≤ i) (h1 : i < n) : ∃ ad , A = some ad ∧ w.cell? (ad.add (i.toNat * 4)) = some (.int .i32 (z1y xs i).f0) ∧ w.cell? ⟨(ad.add (i.toNat * 4)).block, (ad.add (i.toNat * 4)).off + 1, none⟩ = some (.int .i64 (z1y xs i).f1) ∧ w.cell? ⟨(ad.add (i.toNat * 4)).block, (ad.add (i.toNat * 4)).off + 2, none⟩ = some (.int .u32 (z1y xs i).f2) ∧ w.cell? ⟨(ad.add (i.toNat * 4)).block, (ad.add (i.toNat * 4)).off + 3, none⟩ = some (.int .u32 (z1y xs i).f3) := by
 obtain ⟨ad, c, e, _, hK, hc0⟩ := Kd.y4R h z56 i h0 h1
 have hc : ∀ j u, c[j]? = some u → w.cell? (ad.add (i.toNat * 4 + j)) = some u := hc0
 obtain rfl := x6L hK
 exact ⟨ad, e, hc 0 _ rfl, by rw [← z2o _ _ 1 (by omega)]; exact hc 1 _ rfl, by rw [← z2o _ _ 2 (by omega)]; exact hc 2 _ rfl, by rw [← z2o _ _ 3 (by omega)]; exact hc 3 _ rfl⟩
structure S58 where
 f0 : Int
 f1 : Int
 f2 : Int
 f3 : Int
 f4 : (List Int)
def z58 : S58 := ⟨(0 : Int), (0 : Int), (0 : Int), (0 : Int), ([] : List Int)⟩
def k58 : Kd S58 := Kd.iso (Kd.pair (Kd.int .u8) (Kd.pair (Kd.int .i32) (Kd.pair (Kd.int .u32) (Kd.pair (Kd.int .u32) (Kd.slice 3 (Kd.int .i64)))))) (fun x : S58 => (x.f0, x.f1, x.f2, x.f3, x.f4))
theorem x0y {w : World} {x : S58} {cs : List Value} (h : k58.K w x cs) : ∃ A4 c4, cs = [.int .u8 x.f0, .int .i32 x.f1, .int .u32 x.f2, .int .u32 x.f3, .slice A4 x.f4.length c4] ∧ x.f4.length ≤ c4 ∧ (Kd.int .i64).C w A4 x.f4.length x.f4 := by
 obtain ⟨_, _, rfl, rfl, ⟨_, _, rfl, rfl, ⟨_, _, rfl, rfl, ⟨_, _, rfl, rfl, ⟨A4, c4, rfl, l4, g4⟩⟩⟩⟩⟩ := h
 exact ⟨A4, c4, rfl, l4, g4⟩
theorem x2g {w : World} {base : Nat} {ok : Nat → Prop} {x : S58} {cs : List Value} (h : k58.M w base ok x cs) : ∃ v4, cs = [.int .u8 x.f0, .int .i32 x.f1, .int .u32 x.f2, .int .u32 x.f3, v4] ∧ (Kd.int .i64).R 3 w base ok v4 x.f4 := by
 obtain ⟨_, _, rfl, rfl, ⟨_, _, rfl, rfl, ⟨_, _, rfl, rfl, ⟨_, _, rfl, rfl, ⟨v4, rfl, g4⟩⟩⟩⟩⟩ := h
 exact ⟨v4, rfl, g4⟩
theorem x8s (w : World) (base : Nat) (ok : Nat → Prop) (x : S58) {v4 : Value} (g4 : (Kd.int .i64).R 3 w base ok v4 x.f4) : k58.M w base ok x [.int .u8 x.f0, .int .i32 x.f1, .int .u32 x.f2, .int .u32 x.f3, v4] := ⟨[.int .u8 x.f0], [.int .i32 x.f1, .int .u32 x.f2, .int .u32 x.f3, v4], rfl, rfl, ⟨[.int .i32 x.f1], [.int .u32 x.f2, .int .u32 x.f3, v4], rfl, rfl, ⟨[.int .u32 x.f2], [.int .u32 x.f3, v4], rfl, rfl, ⟨[.int .u32 x.f3], [v4], rfl, rfl, ⟨v4, rfl, g4⟩⟩⟩⟩⟩
def z0g (xs : List S58) (i : Int) : S58 := xs.getD i.toNat z58
theorem z3y {w : World} {A : Option Addr} {n : Nat} {xs : List S58} (h : Kd.C k58 w A n xs) (i : Int) (h0 : 0 ≤ i) (h1 : i < n) : ∃ ad A4 c4, A = some ad ∧ w.cell? (ad.add (i.toNat * 5)) = some (.int .u8 (z0g xs i).f0) ∧ w.cell? ⟨(ad.add (i.toNat * 5)).block, (ad.add (i.toNat * 5)).off + 1, none⟩ = some (.int .i32 (z0g xs i).f1) ∧ w.cell? ⟨(ad.add (i.toNat * 5)).block, (ad.add (i.toNat * 5)).off + 2, none⟩ = some (.int .u32 (z0g xs i).f2) ∧ w.cell? ⟨(ad.add (i.toNat * 5)).block, (ad.add (i.toNat * 5)).off + 3, none⟩ = some (.int .u32 (z0g xs i).f3) ∧ w.cell? ⟨(ad.add (i.toNat * 5)).block, (ad.add (i.toNat * 5)).off + 4, none⟩ = some (.slice A4 (z0g xs i).f4.length c4) ∧ (z0g xs i).f4.length ≤ c4 ∧ (Kd.int .i64).C w A4 (z0g xs i).f4.length (z0g xs i).f4 := by
 obtain ⟨ad, c, e, _, hK, hc0⟩ := Kd.y4R h z58 i h0 h1
 have hc : ∀ j u, c[j]? = some u → w.cell? (ad.add (i.toNat * 5 + j)) = some u := hc0
 obtain ⟨A4, c4, rfl, l4, g4⟩ := x0y hK
 exact ⟨ad, A4, c4, e, hc 0 _ rfl, by rw [← z2o _ _ 1 (by omega)]; exact hc 1 _ rfl, by rw [← z2o _ _ 2 (by omega)]; exact hc 2 _ rfl, by rw [← z2o _ _ 3 (by omega)]; exact hc 3 _ rfl, by rw [← z2o _ _ 4 (by omega)]; exact hc 4 _ rfl, l4, g4⟩
structure S49 where
 f0 : (List S58)
def z49 : S49 := ⟨([] : List S58)⟩
def k49 : Kd S49 := Kd.iso (Kd.slice 58 k58) (fun x : S49 => x.f0)
theorem x0z {w : World} {x : S49} {cs : List Value} (h : k49.K w x cs) : ∃ A0 c0, cs = [.slice A0 x.f0.length c0] ∧ x.f0.length ≤ c0 ∧ k58.C w A0 x.f0.length x.f0 := by
 obtain ⟨A0, c0, rfl, l0, g0⟩ := h
 exact ⟨A0, c0, rfl, l0, g0⟩
theorem y6U {w : World} {base : Nat} {ok : Nat → Prop} {x : S49} {cs : List Value} (h : k49.M w base ok x cs) : ∃ v0, cs = [v0] ∧ k58.R 58 w base ok v0 x.f0 := by
 obtain ⟨v0, rfl, g0⟩ := h
 exact ⟨v0, rfl, g0⟩
theorem x2h (w : World) (base : Nat) (ok : Nat → Prop) (x : S49) {v0 : Value} (g0 : k58.R 58 w base ok v0 x.f0) : k49.M w base ok x [v0] := ⟨v0, rfl, g0⟩
structure S51 where
 f0 : ByteArray
 f1 : (List S54)
 f2 : (List S56)
 f3 : S49
 f4 : S49
 f5 : Int
 f6 : Bool
def z51 : S51 := ⟨(⟨#[]⟩ : ByteArray), ([] : List S54), ([] : List S56), z49, z49, (0 : Int), false⟩
def k51 : Kd S51 := Kd.iso (Kd.pair Kd.string (Kd.pair (Kd.slice 54 k54) (Kd.pair (Kd.slice 56 k56) (Kd.pair k49 (Kd.pair k49 (Kd.pair (Kd.int .u8) Kd.bool)))))) (fun x : S51 => (x.f0, x.f1, x.f2, x.f3, x.f4, x.f5, x.f6))
theorem x6M {w : World} {x : S51} {cs : List Value} (h : k51.K w x cs) : ∃ A1 c1 A2 c2 A3 c3 A4 c4, cs = [.string x.f0, .slice A1 x.f1.length c1, .slice A2 x.f2.length c2, .slice A3 x.f3.f0.length c3, .slice A4 x.f4.f0.length c4, .int .u8 x.f5, .bool x.f6] ∧ x.f1.length ≤ c1 ∧ k54.C w A1 x.f1.length x.f1 ∧ x.f2.length ≤ c2 ∧ k56.C w A2 x.f2.length x.f2 ∧ x.f3.f0.length ≤ c3 ∧ k58.C w A3 x.f3.f0.length x.f3.f0 ∧ x.f4.f0.length ≤ c4 ∧ k58.C w A4 x.f4.f0.length x.f4.f0 := by
 obtain ⟨_, _, rfl, rfl, ⟨_, _, rfl, ⟨A1, c1, rfl, l1, g1⟩, ⟨_, _, rfl, ⟨A2, c2, rfl, l2, g2⟩, ⟨_, _, rfl, s3, ⟨_, _, rfl, s4, ⟨_, _, rfl, rfl, rfl⟩⟩⟩⟩⟩⟩ := h
 obtain ⟨A3, c3, rfl, l3, g3⟩ := x0z s3
 obtain ⟨A4, c4, rfl, l4, g4⟩ := x0z s4
 exact ⟨A1, c1, A2, c2, A3, c3, A4, c4, rfl, l1, g1, l2, g2, l3, g3, l4, g4⟩
theorem x2i {w : World} {base : Nat} {ok : Nat → Prop} {x : S51} {cs : List Value} (h : k51.M w base ok x cs) : ∃ v1 v2 v3 v4, cs = [.string x.f0, v1, v2, v3, v4, .int .u8 x.f5, .bool x.f6] ∧ k54.R 54 w base ok v1 x.f1 ∧ k56.R 56 w base ok v2 x.f2 ∧ k58.R 58 w base ok v3 x.f3.f0 ∧ k58.R 58 w base ok v4 x.f4.f0 := by
 obtain ⟨_, _, rfl, rfl, ⟨_, _, rfl, ⟨v1, rfl, g1⟩, ⟨_, _, rfl, ⟨v2, rfl, g2⟩, ⟨_, _, rfl, s3, ⟨_, _, rfl, s4, ⟨_, _, rfl, rfl, rfl⟩⟩⟩⟩⟩⟩ := h
 obtain ⟨v3, rfl, g3⟩ := y6U s3
 obtain ⟨v4, rfl, g4⟩ := y6U s4
 exact ⟨v1, v2, v3, v4, rfl, g1, g2, g3, g4⟩
theorem x8t (w : World) (base : Nat) (ok : Nat → Prop) (x : S51) {v1 : Value} (g1 : k54.R 54 w base ok v1 x.f1) {v2 : Value} (g2 : k56.R 56 w base ok v2 x.f2) {v3 : Value} (g3 : k58.R 58 w base ok v3 x.f3.f0) {v4 : Value} (g4 : k58.R 58 w base ok v4 x.f4.f0) : k51.M w base ok x [.string x.f0, v1, v2, v3, v4, .int .u8 x.f5, .bool x.f6] := ⟨[.string x.f0], [v1, v2, v3, v4, .int .u8 x.f5, .bool x.f6], rfl, rfl, ⟨[v1], [v2, v3, v4, .int .u8 x.f5, .bool x.f6], rfl, ⟨v1, rfl, g1⟩, ⟨[v2], [v3, v4, .int .u8 x.f5, .bool x.f6], rfl, ⟨v2, rfl, g2⟩, ⟨[v3], [v4, .int .u8 x.f5, .bool x.f6], rfl, (x2h w base ok x.f3 g3), ⟨[v4], [.int .u8 x.f5, .bool x.f6], rfl, (x2h w base ok x.f4 g4), ⟨[.int .u8 x.f5], [.bool x.f6], rfl, rfl, rfl⟩⟩⟩⟩⟩⟩
def z0K (xs : List S51) (i : Int) : S51 := xs.getD i.toNat z51
theorem y1K {w : World} {A : Option Addr} {n : Nat} {xs : List S51} (h : Kd.C k51 w A n xs) (i : Int) (h0 : 0 ≤ i) (h1 : i < n) : ∃ ad A1 c1 A2 c2 A3 c3 A4 c4, A = some ad ∧ w.cell? (ad.add (i.toNat * 7)) = some (.string (z0K xs i).f0) ∧ w.cell? ⟨(ad.add (i.toNat * 7)).block, (ad.add (i.toNat * 7)).off + 1, none⟩ = some (.slice A1 (z0K xs i).f1.length c1) ∧ w.cell? ⟨(ad.add (i.toNat * 7)).block, (ad.add (i.toNat * 7)).off + 2, none⟩ = some (.slice A2 (z0K xs i).f2.length c2) ∧ w.cell? ⟨(ad.add (i.toNat * 7)).block, (ad.add (i.toNat * 7)).off + 3, none⟩ = some (.slice A3 (z0K xs i).f3.f0.length c3) ∧ w.cell? ⟨(ad.add (i.toNat * 7)).block, (ad.add (i.toNat * 7)).off + 4, none⟩ = some (.slice A4 (z0K xs i).f4.f0.length c4) ∧ w.cell? ⟨(ad.add (i.toNat * 7)).block, (ad.add (i.toNat * 7)).off + 5, none⟩ = some (.int .u8 (z0K xs i).f5) ∧ w.cell? ⟨(ad.add (i.toNat * 7)).block, (ad.add (i.toNat * 7)).off + 6, none⟩ = some (.bool (z0K xs i).f6) ∧ (z0K xs i).f1.length ≤ c1 ∧ k54.C w A1 (z0K xs i).f1.length (z0K xs i).f1 ∧ (z0K xs i).f2.length ≤ c2 ∧ k56.C w A2 (z0K xs i).f2.length (z0K xs i).f2 ∧ (z0K xs i).f3.f0.length ≤ c3 ∧ k58.C w A3 (z0K xs i).f3.f0.length (z0K xs i).f3.f0 ∧ (z0K xs i).f4.f0.length ≤ c4 ∧ k58.C w A4 (z0K xs i).f4.f0.length (z0K xs i).f4.f0 := by
 obtain ⟨ad, c, e, _, hK, hc0⟩ := Kd.y4R h z51 i h0 h1
 have hc : ∀ j u, c[j]? = some u → w.cell? (ad.add (i.toNat * 7 + j)) = some u := hc0
 obtain ⟨A1, c1, A2, c2, A3, c3, A4, c4, rfl, l1, g1, l2, g2, l3, g3, l4, g4⟩ := x6M hK
 exact ⟨ad, A1, c1, A2, c2, A3, c3, A4, c4, e, hc 0 _ rfl, by rw [← z2o _ _ 1 (by omega)]; exact hc 1 _ rfl, by rw [← z2o _ _ 2 (by omega)]; exact hc 2 _ rfl, by rw [← z2o _ _ 3 (by omega)]; exact hc 3 _ rfl, by rw [← z2o _ _ 4 (by omega)]; exact hc 4 _ rfl, by rw [← z2o _ _ 5 (by omega)]; exact hc 5 _ rfl, by rw [← z2o _ _ 6 (by omega)]; exact hc 6 _ rfl, l1, g1, l2, g2, l3, g3, l4, g4⟩
structure S81 where
 f0 : ByteArray
 f1 : Int
 f2 : (List S51)
def z81 : S81 := ⟨(⟨#[]⟩ : ByteArray), (0 : Int), ([] : List S51)⟩
def k81 : Kd S81 := Kd.iso (Kd.pair Kd.string (Kd.pair (Kd.int .i64) (Kd.slice 51 k51))) (fun x : S81 => (x.f0, x.f1, x.f2))
theorem y5c {w : World} {x : S81} {cs : List Value} (h : k81.K w x cs) : ∃ A2 c2, cs = [.string x.f0, .int .i64 x.f1, .slice A2 x.f2.length c2] ∧ x.f2.length ≤ c2 ∧ k51.C w A2 x.f2.length x.f2 := by
 obtain ⟨_, _, rfl, rfl, ⟨_, _, rfl, rfl, ⟨A2, c2, rfl, l2, g2⟩⟩⟩ := h
 exact ⟨A2, c2, rfl, l2, g2⟩
theorem x2j (w : World) (base : Nat) (ok : Nat → Prop) (x : S81) {v2 : Value} (g2 : k51.R 51 w base ok v2 x.f2) : k81.M w base ok x [.string x.f0, .int .i64 x.f1, v2] := ⟨[.string x.f0], [.int .i64 x.f1, v2], rfl, rfl, ⟨[.int .i64 x.f1], [v2], rfl, rfl, ⟨v2, rfl, g2⟩⟩⟩
theorem x2k {W : World} {ok : Nat → Prop} {x : S81} {cs : List Value} (h : Kd.FK k81 W ok x cs) : ∃ A2 c2, cs = [.string x.f0, .int .i64 x.f1, .slice A2 x.f2.length c2] ∧ x.f2.length ≤ c2 ∧ Kd.F k51 W ok A2 x.f2.length x.f2 := by
 obtain ⟨A2, c2, rfl, l2, _⟩ := y5c (Kd.x0s h)
 exact ⟨A2, c2, rfl, l2, (fun W' hW => by obtain ⟨A2_, c2_, he, l2_, g2_⟩ := y5c (h W' hW); injection (Option.some.inj (show some (Value.slice A2 x.f2.length c2) = some (Value.slice A2_ x.f2.length c2_) from congrArg (fun l => l[2]?) he)) with ha_ _ _; rw [ha_]; exact g2_)⟩
def z0s (xs : List S81) (i : Int) : S81 := xs.getD i.toNat z81
theorem z3e {w : World} {A : Option Addr} {n : Nat} {xs : List S81} (h : Kd.C k81 w A n xs) (i : Int) (h0 : 0 ≤ i) (h1 : i < n) : ∃ ad A2 c2, A = some ad ∧ w.cell? (ad.add (i.toNat * 3)) = some (.string (z0s xs i).f0) ∧ w.cell? ⟨(ad.add (i.toNat * 3)).block, (ad.add (i.toNat * 3)).off + 1, none⟩ = some (.int .i64 (z0s xs i).f1) ∧ w.cell? ⟨(ad.add (i.toNat * 3)).block, (ad.add (i.toNat * 3)).off + 2, none⟩ = some (.slice A2 (z0s xs i).f2.length c2) ∧ (z0s xs i).f2.length ≤ c2 ∧ k51.C w A2 (z0s xs i).f2.length (z0s xs i).f2 := by
 obtain ⟨ad, c, e, _, hK, hc0⟩ := Kd.y4R h z81 i h0 h1
 have hc : ∀ j u, c[j]? = some u → w.cell? (ad.add (i.toNat * 3 + j)) = some u := hc0
 obtain ⟨A2, c2, rfl, l2, g2⟩ := y5c hK
 exact ⟨ad, A2, c2, e, hc 0 _ rfl, by rw [← z2o _ _ 1 (by omega)]; exact hc 1 _ rfl, by rw [← z2o _ _ 2 (by omega)]; exact hc 2 _ rfl, l2, g2⟩
structure S28 where
 f0 : S25
 f1 : (List S81)
def k28 : Kd S28 := Kd.iso (Kd.pair k25 (Kd.slice 81 k81)) (fun x : S28 => (x.f0, x.f1))
theorem x6N {w : World} {x : S28} {cs : List Value} (h : k28.K w x cs) : ∃ A0 c0 A1 c1 A2 c2, cs = [.slice A0 x.f0.f0.length c0, .slice A1 x.f0.f1.length c1, .slice A2 x.f1.length c2] ∧ x.f0.f0.length ≤ c0 ∧ Kd.string.C w A0 x.f0.f0.length x.f0.f0 ∧ x.f0.f1.length ≤ c1 ∧ z5a.C w A1 x.f0.f1.length x.f0.f1 ∧ x.f1.length ≤ c2 ∧ k81.C w A2 x.f1.length x.f1 := by
 obtain ⟨_, _, rfl, s0, ⟨A2, c2, rfl, l2, g2⟩⟩ := h
 obtain ⟨A0, c0, A1, c1, rfl, l0, g0, l1, g1⟩ := x6J s0
 exact ⟨A0, c0, A1, c1, A2, c2, rfl, l0, g0, l1, g1, l2, g2⟩
end Go.Proofs.YtplkoabikliagaaGreatDoor.K
namespace Go.Proofs.YtplkoabikliagaaGreatDoor.L
open Go.RowKit
theorem bcell {W w1 : World} (hb : Below W.heap.size W w1) : (∀ b o, b < W.heap.size → w1.cell? ⟨b, o, none⟩ = W.cell? ⟨b, o, none⟩) ∧ (∀ b o, b < W.heap.size → w1.frozen? ⟨b, o, none⟩ = W.frozen? ⟨b, o, none⟩) :=
 ⟨fun b o h => hb.cell (p := ⟨b, o, none⟩) h, fun b o h => hb.frozen (p := ⟨b, o, none⟩) h⟩
def z9c {α β : Type} (encK : α → Value) (encV : β → Value) (w : World) (B : Nat) (l : List (α × β)) : Prop :=
 ∃ es c, w.heap[B]? = some (.map es c) ∧ es.toList.map (fun e => (e.key, e.val)) = l.map (fun p => (encK p.1, encV p.2))
structure x6u {α : Type} [DecidableEq α] (P : Program) (kt : TypeId) (encK : α → Value) : Prop where
 now : ∃ d, P.underlying kt = some d ∧ ∀ a b, Instr.sameNow d (encK a) (encK b) = some (decide (a = b))
 check : ∀ em a w, (Instr.checkKey em 10000 kt (encK a)).run P w = .ok () w
 same : ∀ a, Instr.sameBits 10000 (encK a) (encK a) = true
def mhas {α β : Type} [DecidableEq α] (l : List (α × β)) (k : α) : Bool := l.any fun p => decide (k = p.1)
def mget {α β : Type} [DecidableEq α] (l : List (α × β)) (k : α) (z : β) : β := ((l.find? fun p => decide (k = p.1)).map (·.2)).getD z
def mput {α β : Type} [DecidableEq α] (l : List (α × β)) (k : α) (v : β) : List (α × β) :=
 if mhas l k then l.modify (l.findIdx fun p => decide (k = p.1)) (fun p => (p.1, v)) else l ++ [(k, v)]
theorem z9c.made {α β : Type} (encK : α → Value) (encV : β → Value) (w : World) : z9c encK encV (w.alloc (.map #[] 0)) w.heap.size [] := by
 refine ⟨#[], 0, ?_, rfl⟩
 show (w.heap.push (Obj.map #[] 0))[w.heap.size]? = _
 simp
theorem z9c.of_block {α β : Type} {encK : α → Value} {encV : β → Value} {w w' : World} {B : Nat} {l : List (α × β)} (h : z9c encK encV w B l) (hb : w'.heap[B]? = w.heap[B]?) : z9c encK encV w' B l := by
 obtain ⟨es, c, h1, h2⟩ := h
 exact ⟨es, c, by rw [hb]; exact h1, h2⟩
theorem z9c.lt {α β : Type} {encK : α → Value} {encV : β → Value} {w : World} {B : Nat} {l : List (α × β)} (h : z9c encK encV w B l) : B < w.heap.size := by
 obtain ⟨es, c, h1, _⟩ := h
 exact (Array.getElem?_eq_some_iff.1 h1).1
theorem z9c.below {α β : Type} {encK : α → Value} {encV : β → Value} {w w' : World} {B : Nat} {l : List (α × β)} (h : z9c encK encV w B l) (hb : Below w.heap.size w w') : z9c encK encV w' B l :=
 h.of_block (hb.block _ h.lt)
theorem z9c.drewN {α β : Type} {encK : α → Value} {encV : β → Value} {w : World} {B : Nat} {l : List (α × β)} (h : z9c encK encV w B l) (n : Nat) : z9c encK encV (w.drewN n) B l := h
theorem z9c.alloc {α β : Type} {encK : α → Value} {encV : β → Value} {w : World} {B : Nat} {l : List (α × β)} (h : z9c encK encV w B l) (o : Obj) : z9c encK encV (w.alloc o) B l :=
 h.below ((Below.refl _ _).alloc (Nat.le_refl _) o)
theorem z9c.setCell {α β : Type} {encK : α → Value} {encV : β → Value} {w : World} {B : Nat} {l : List (α × β)} (h : z9c encK encV w B l) (p : Addr) (hp : B ≠ p.block) (u : Value) : z9c encK encV (w.setCell p u) B l :=
 h.of_block (Below.heap_setCell _ _ _ _ hp)
section
variable {α β : Type} [DecidableEq α] {P : Program} {kt et T : TypeId} {encK : α → Value} {encV : β → Value}
theorem x0E {d : TypeDesc} (hd : ∀ a b, Instr.sameNow d (encK a) (encK b) = some (decide (a = b))) (k : α) :
  ∀ (es : List MapEntry) (l : List (α × β)) (i : Nat), es.map (fun e => (e.key, e.val)) = l.map (fun p => (encK p.1, encV p.2)) →
   Instr.findNow d (encK k) es i = some ((l.findIdx? fun p => decide (k = p.1)).map fun j => (i + j, ((l[j]?).map fun p => encV p.2).getD undef))
 | [], [], i, _ => by simp [Instr.findNow]
 | [], p :: l, i, h => by simp at h
 | e :: es, [], i, h => by simp at h
 | e :: es, p :: l, i, h => by
  simp only [List.map_cons, List.cons.injEq, Prod.mk.injEq] at h
  obtain ⟨⟨hk, hv⟩, hr⟩ := h
  unfold Instr.findNow
  rw [hk, hd k p.1]
  by_cases e' : k = p.1
  ·simp [e', List.findIdx?_cons, hv]
  ·simp only [e', decide_false, List.findIdx?_cons, Bool.false_eq_true, if_false]
   rw [x0E hd k es l (i + 1) hr]
   cases l.findIdx? fun p => decide (k = p.1) with
   | none => simp
   | some j => simp [Nat.add_comm, Nat.add_left_comm]
theorem run_findKey (K : x6u P kt encK) (k : α) (w : World) (es : List MapEntry) (l : List (α × β)) (h : es.map (fun e => (e.key, e.val)) = l.map (fun p => (encK p.1, encV p.2))) :
  (Instr.findKey kt (encK k) es).run P w = .ok ((l.findIdx? fun p => decide (k = p.1)).map fun j => (j, ((l[j]?).map fun p => encV p.2).getD undef)) w := by
 obtain ⟨d, hd, hs⟩ := K.now
 unfold Instr.findKey
 simp only [Sem.run_bind, run_underlying hd, Result.andThen]
 rw [x0E hs k es l 0 h]
 simp
theorem y6V {l : List (α × β)} {k : α} {j : Nat} (h : l.findIdx? (fun p => decide (k = p.1)) = some j) (z : β) : j < l.length ∧ ((l[j]?).map fun p => encV p.2).getD undef = encV (mget l k z) ∧ mhas l k = true := by
 obtain ⟨hj, hp, hm⟩ := List.findIdx?_eq_some_iff_getElem.1 h
 refine ⟨hj, ?_, ?_⟩
 ·have e : l.find? (fun p => decide (k = p.1)) = some l[j] := by
   rw [List.find?_eq_some_iff_getElem]
   refine ⟨hp, j, hj, rfl, fun i hi => by simpa using hm i hi⟩
  simp [mget, e, hj]
 ·simp only [mhas, List.any_eq_true]
  exact ⟨l[j], List.getElem_mem hj, hp⟩
theorem y6W {l : List (α × β)} {k : α} (h : l.findIdx? (fun p => decide (k = p.1)) = none) (z : β) : mget l k z = z ∧ mhas l k = false := by
 rw [List.findIdx?_eq_none_iff] at h
 refine ⟨?_, ?_⟩
 ·have e : l.find? (fun p => decide (k = p.1)) = none := by
   rw [List.find?_eq_none]
   intro x hx; simpa using h x hx
  simp [mget, e]
 ·simp only [mhas, List.any_eq_false]
  intro x hx; simpa using h x hx
theorem x6O (K : x6u P kt encK) (hT : P.underlying T = some (.map kt et)) (z : β) {w : World} (hz : (zeroValue et).run P w = .ok (encV z) w) {B : Nat} {l : List (α × β)} (h : z9c encK encV w B l) (k : α) (ok : Bool) :
  (Instr.lookup T (.map (some B)) (encK k) ok).run P w = .ok (if ok then .tuple #[encV (mget l k z), .bool (mhas l k)] else encV (mget l k z)) w := by
 obtain ⟨es, c, h1, h2⟩ := h
 have hg := MapKept.run_getObj_map (P := P) h1
 have hc := K.check es.isEmpty k w
 have hf := run_findKey K k w es.toList l h2
 cases hi : l.findIdx? fun p => decide (k = p.1) with
 | none =>
  obtain ⟨e1, e2⟩ := y6W hi z
  rw [hi] at hf
  simp only [Option.map_none] at hf
  rw [e1, e2]
  cases ok <;> simp [Instr.lookup, run_underlying hT, hg, hc, hf, hz, Result.andThen]
 | some j =>
  obtain ⟨_, e1, e2⟩ := y6V (encV := encV) hi z
  rw [hi] at hf
  simp only [Option.map_some, e1] at hf
  rw [e2]
  cases ok <;> simp [Instr.lookup, run_underlying hT, hg, hc, hf, Result.andThen]
theorem x2l {l : List (α × β)} {k : α} (h : l.findIdx? (fun p => decide (k = p.1)) = none) (v : β) : mput l k v = l ++ [(k, v)] := by
 unfold mput
 rw [(y6W h v).2]
 rfl
theorem x2m {l : List (α × β)} {k : α} {j : Nat} (h : l.findIdx? (fun p => decide (k = p.1)) = some j) (v : β) : mput l k v = l.modify j (fun p => (p.1, v)) := by
 unfold mput
 have hh : mhas l k = true := by
  obtain ⟨hj, hp, _⟩ := List.findIdx?_eq_some_iff_getElem.1 h
  simp only [mhas, List.any_eq_true]
  exact ⟨l[j], List.getElem_mem hj, hp⟩
 rw [hh]
 have e : l.findIdx (fun p => decide (k = p.1)) = j := by
  rw [List.findIdx?_eq_some_iff_findIdx_eq] at h
  exact h.2
 simp [e]
theorem x8u (K : x6u P kt encK) (hT : P.underlying T = some (.map kt et)) {w : World} {B : Nat} {l : List (α × β)} (h : z9c encK encV w B l) (k : α) (v : β) :
  ∃ o, (Instr.mapUpdate T (.map (some B)) (encK k) (encV v)).run P w = .ok () { w with heap := w.heap.setIfInBounds B o } ∧ z9c encK encV { w with heap := w.heap.setIfInBounds B o } B (mput l k v) := by
 have hlt := h.lt
 obtain ⟨es, c, h1, h2⟩ := h
 have hg := MapKept.run_getObj_map (P := P) h1
 have hs := fun o => MapKept.run_setObj_map (P := P) o h1
 have hc := K.check false k w
 have hf := run_findKey K k w es.toList l h2
 have hlen : es.size = l.length := by have := congrArg List.length h2; simpa using this
 cases hi : l.findIdx? fun p => decide (k = p.1) with
 | none =>
  rw [hi] at hf
  simp only [Option.map_none] at hf
  refine ⟨.map (es.push { key := encK k, val := encV v, born := c }) (c + 1), ?_, ?_⟩
  ·simp [Instr.mapUpdate, run_underlying hT, hg, hc, hf, hs, Result.andThen]
  ·rw [x2l hi]
   refine ⟨es.push { key := encK k, val := encV v, born := c }, c + 1, ?_, ?_⟩
   ·simp [hlt]
   ·simp [h2]
 | some j =>
  obtain ⟨hj, e1, _⟩ := y6V (encV := encV) hi v
  have hkey : (es[j]?).map (·.key) = some (encK k) := by
   have hje : j < es.size := by omega
   have := congrArg (fun q => q[j]?) h2
   simp only [List.getElem?_map, Array.getElem?_toList] at this
   rw [Array.getElem?_eq_getElem hje, List.getElem?_eq_getElem hj] at this
   simp only [Option.map_some, Option.some.injEq, Prod.mk.injEq] at this
   have hp := (List.findIdx?_eq_some_iff_getElem.1 hi).2.1
   have hk : k = l[j].1 := by simpa using hp
   rw [Array.getElem?_eq_getElem hje]
   simp only [Option.map_some, this.1]
   rw [← hk]
  rw [hi] at hf
  simp only [Option.map_some, e1] at hf
  have hst : (Instr.keyThatStays (encK k) (encK k)).run P w = .ok (encK k) w := by simp [Instr.keyThatStays, K.same]
  refine ⟨.map (es.modify j fun e => { e with key := encK k, val := encV v }) c, ?_, ?_⟩
  ·simp [Instr.mapUpdate, run_underlying hT, hg, hc, hf, hs, Result.andThen, hkey, hst]
  ·rw [x2m hi]
   refine ⟨es.modify j fun e => { e with key := encK k, val := encV v }, c, ?_, ?_⟩
   ·simp [hlt]
   ·apply List.ext_getElem?
    intro i
    have hii := congrArg (fun q => q[i]?) h2
    simp only [List.getElem?_map, Array.getElem?_toList] at hii
    simp only [Array.toList_modify, List.getElem?_map, List.getElem?_modify, Array.getElem?_toList]
    by_cases hij : j = i
    ·subst hij
     have hp := (List.findIdx?_eq_some_iff_getElem.1 hi).2.1
     have hk : k = l[j].1 := by simpa using hp
     have hje : j < es.size := by omega
     rw [Array.getElem?_eq_getElem hje, List.getElem?_eq_getElem hj]
     simp [← hk]
    ·simp only [hij, if_false]
     simpa [hij] using hii
theorem z5b (K : x6u P kt encK) (hT : P.underlying T = some (.map kt et)) (z : β) {w : World} (hz : (zeroValue et).run P w = .ok (encV z) w) {B : Nat} {l : List (α × β)} (h : z9c encK encV w B l) (k : α)
  {ops : Array Oper} {rest : List Oper} {o : Oper} {a : Act} {Q : Exit → Act → World → Prop} (hw : Region.wanted o (yielded ops a.tmps) = true)
  (m x : Operand) (ok : Bool) (hop : o.op = Op.lookup T m x ok) (hm : a.eval m = .map (some B)) (hx : a.eval x = encK k)
  (hK : wpList P ops Q rest (a.put o.dst (if ok then .tuple #[encV (mget l k z), .bool (mhas l k)] else encV (mget l k z))) w) :
  wpList P ops Q (o :: rest) a w := by
 have hrun := x6O K hT z hz h k ok
 refine wpList_step fun K' hK' => ?_
 rw [if_pos hw]
 unfold Oper.wp
 simp only [execOp, hop, hm, hx, Sem.run_bind, hrun, Result.andThen]
 exact hK' _ _ hK
theorem y5d (K : x6u P kt encK) (hT : P.underlying T = some (.map kt et)) {w : World} {B : Nat} {l : List (α × β)} (h : z9c encK encV w B l) (k : α) (v : β)
  {ops : Array Oper} {rest : List Oper} {o : Oper} {a : Act} {Q : Exit → Act → World → Prop} (hg : o.guard = none)
  (m x y : Operand) (hop : o.op = Op.mapUpdate T m x y) (hm : a.eval m = .map (some B)) (hx : a.eval x = encK k) (hy : a.eval y = encV v)
  (hK : ∀ w', z9c encK encV w' B (mput l k v) → w.grownBy w' (some B) → w'.heap.size = w.heap.size → wpList P ops Q rest (a.put o.dst undef) w') :
  wpList P ops Q (o :: rest) a w := by
 obtain ⟨ob, hrun, h'⟩ := x8u K hT h k v
 refine wpList_plain hg fun K' hK' => ?_
 unfold Oper.wp
 simp only [execOp, hop, hm, hx, hy, Sem.run_bind, hrun, Result.andThen]
 refine hK' _ _ (hK _ h' ⟨rfl, rfl, rfl, by simp, fun j hj hne => ?_⟩ (by simp))
 simp only [Array.getElem?_setIfInBounds]
 rw [if_neg (fun e => hne (by rw [e]))]
end
def y1a {α : Type} [DecidableEq α] (l : List α) (x : α) : Bool := l.any fun y => decide (x = y)
def setOf {α β : Type} (v : β) (l : List α) : List (α × β) := l.map fun x => (x, v)
theorem y1s {α : Type} [DecidableEq α] (l : List α) (k : α) : mget (setOf true l) k false = y1a l k := by
 unfold mget setOf y1a
 induction l with
 | nil => simp
 | cons x r ih =>
  by_cases e : k = x
  ·subst e; simp
  ·simp only [List.map_cons, List.find?_cons, e, decide_false, List.any_cons, Bool.false_or]
   exact ih
theorem y5e {α β : Type} [DecidableEq α] (v : β) (l : List α) (k : α) : mhas (setOf v l) k = y1a l k := by
 simp only [mhas, setOf, List.any_map, y1a]
 rfl
theorem y1t {α β : Type} [DecidableEq α] (v : β) (l : List α) (k : α) (h : y1a l k = false) : mput (setOf v l) k v = setOf v (l ++ [k]) := by
 unfold mput
 rw [y5e, h]
 simp [setOf]
theorem x7P (a b : ByteArray) : (a == b) = decide (a = b) := by
 have e : (a == b) = (a.data == b.data) := rfl
 rw [e]
 by_cases h : a = b
 ·subst h; simp
 ·have : ¬ a.data = b.data := fun h' => h (ByteArray.ext h')
  simp [h, this]
theorem y4y {P : Program} {kt : TypeId} (h : P.underlying kt = some .string) : x6u P kt Value.string where
 now := ⟨.string, h, fun a b => by
  show some (a == b) = _
  rw [x7P]⟩
 check em a w := by
  rw [show (10000 : Nat) = 9999 + 1 from rfl, Instr.checkKey]
  simp [run_underlying h, Result.andThen]
 same a := by
  show (a == a) = true
  rw [x7P]; simp
theorem x8v {P : Program} {kt : TypeId} (ik : IntKind) (h : P.underlying kt = some (.int ik)) : x6u P kt (Value.int ik) where
 now := ⟨.int ik, h, fun a b => by
  simp only [Instr.sameNow, if_true]
  congr 1⟩
 check em a w := by
  rw [show (10000 : Nat) = 9999 + 1 from rfl, Instr.checkKey]
  simp [run_underlying h, Result.andThen]
 same a := by
  show (ik == ik && a == a) = true
  cases ik <;> simp <;> rfl
end Go.Proofs.YtplkoabikliagaaGreatDoor.L
namespace Go.Proofs.YtplkoabikliagaaGreatDoor.L
open Go.RowKit Go.Proofs.YtplkoabikliagaaGreatDoorW.PrintWords
structure St (W w : World) (L : List (Nat × Obj)) : Prop where
 below : Below W.heap.size W w
 at_ : ∀ p ∈ L, w.heap[p.1]? = some p.2
 base : ∀ p ∈ L, W.heap.size ≤ p.1
 apart : L.Pairwise (fun p q => q.1 < p.1)
theorem St.start (W : World) : St W W [] := ⟨Below.refl _ _, by simp, by simp, .nil⟩
theorem St.down {W w w1 : World} {L : List (Nat × Obj)} (h : St W w L) (hb : Below w.heap.size w w1) : St W w1 L :=
 ⟨h.below.trans (hb.mono h.below.size), fun p hp => (hb.block _ (z4s (h.at_ p hp))).trans (h.at_ p hp), h.base, h.apart⟩
theorem St.drewN {W w : World} {L : List (Nat × Obj)} (h : St W w L) (n : Nat) : St W (w.drewN n) L :=
 ⟨⟨h.below.os, h.below.tape, h.below.output, h.below.size, h.below.block⟩, h.at_, h.base, h.apart⟩
theorem St.push {W w : World} {L : List (Nat × Obj)} (h : St W w L) (o : Obj) : St W (w.alloc o) ((w.heap.size, o) :: L) := by
 refine ⟨h.below.alloc h.below.size o, fun p hp => ?_, fun p hp => ?_, List.pairwise_cons.2 ⟨fun q hq => z4s (h.at_ q hq), h.apart⟩⟩
 ·rcases List.mem_cons.1 hp with rfl | hp
  ·exact z9j w o
  ·exact z0b (h.at_ p hp) o
 ·rcases List.mem_cons.1 hp with rfl | hp
  ·exact h.below.size
  ·exact h.base p hp
theorem St.get {W w : World} {L : List (Nat × Obj)} (h : St W w L) (i : Nat) {g : Nat} {o : Obj} (hi : L[i]? = some (g, o)) : w.heap[g]? = some o := h.at_ (g, o) (List.mem_of_getElem? hi)
theorem St.cell {W w : World} {L : List (Nat × Obj)} (h : St W w L) (i : Nat) {g : Nat} {cs : Array Value} {t : TypeId} (hi : L[i]? = some (g, .cells cs t (0, 0))) : (∀ j, w.cell? ⟨g, j, none⟩ = cs[j]?) ∧ (∀ j, w.frozen? ⟨g, j, none⟩ = false) :=
 ⟨fun j => z0p (h.get i hi) j, fun j => z1Q (h.get i hi) j⟩
theorem St.ge {W w : World} {L : List (Nat × Obj)} (h : St W w L) (i : Nat) {g : Nat} {o : Obj} (hi : L[i]? = some (g, o)) : W.heap.size ≤ g := h.base (g, o) (List.mem_of_getElem? hi)
theorem St.lt {W w : World} {L : List (Nat × Obj)} (h : St W w L) (i : Nat) {g : Nat} {o : Obj} (hi : L[i]? = some (g, o)) : g < w.heap.size := z4s (h.get i hi)
theorem St.ne {W w : World} {L : List (Nat × Obj)} (h : St W w L) {i j : Nat} {p q : Nat × Obj} (hi : L[i]? = some p) (hj : L[j]? = some q) (hij : i ≠ j) : p.1 ≠ q.1 := by
 obtain ⟨li, ei⟩ := List.getElem?_eq_some_iff.1 hi
 obtain ⟨lj, ej⟩ := List.getElem?_eq_some_iff.1 hj
 have hp := List.pairwise_iff_getElem.1 h.apart
 rcases Nat.lt_or_gt_of_ne hij with hl | hl
 ·have := hp i j li lj hl; rw [ei, ej] at this; omega
 ·have := hp j i lj li hl; rw [ei, ej] at this; omega
theorem St.swap {W w w1 : World} {L : List (Nat × Obj)} (h : St W w L) (i : Nat) {g : Nat} {o o' : Obj} (hi : L[i]? = some (g, o)) (hg : w.grownBy w1 (some g)) (ho : w1.heap[g]? = some o') : St W w1 (L.set i (g, o')) := by
 have hl := (List.getElem?_eq_some_iff.1 hi).1
 refine ⟨h.below.grown hg h.below.size (fun k hk => by cases hk; exact h.ge i hi), fun p hp => ?_, fun p hp => ?_, ?_⟩
 ·obtain ⟨j, hj⟩ := List.mem_iff_getElem?.1 hp
  rw [List.getElem?_set] at hj
  by_cases hij : i = j
  ·subst hij
   rw [if_pos rfl, if_pos hl] at hj
   obtain rfl := Option.some.inj hj
   exact ho
  ·rw [if_neg hij] at hj
   have hne := h.ne hj hi (fun e => hij e.symm)
   exact (hg.block _ (z4s (h.at_ p (List.mem_of_getElem? hj))) (fun e => hne (Option.some.inj e))).trans (h.at_ p (List.mem_of_getElem? hj))
 ·obtain ⟨j, hj⟩ := List.mem_iff_getElem?.1 hp
  rw [List.getElem?_set] at hj
  by_cases hij : i = j
  ·subst hij
   rw [if_pos rfl, if_pos hl] at hj
   obtain rfl := Option.some.inj hj
   exact h.ge i hi
  ·rw [if_neg hij] at hj
   exact h.base p (List.mem_of_getElem? hj)
 ·rw [List.pairwise_iff_getElem]
  intro a b ha hb hab
  have hp := List.pairwise_iff_getElem.1 h.apart a b (by simpa using ha) (by simpa using hb) hab
  have fst : ∀ (c : Nat) (hc : c < (L.set i (g, o')).length), ((L.set i (g, o'))[c]).1 = (L[c]'(by simpa using hc)).1 := by
   intro c hc
   rw [List.getElem_set]
   split
   ·rename_i e; subst e
    have := (List.getElem?_eq_some_iff.1 hi).2
    rw [this]
   ·rfl
  rw [fst, fst]
  exact hp
theorem grownBy_setCell (w : World) (g j : Nat) (u : Value) : w.grownBy (w.setCell ⟨g, j, none⟩ u) (some g) :=
 ⟨rfl, rfl, rfl, by simp [World.setCell], fun k _ hne => Below.heap_setCell w ⟨g, j, none⟩ u k (fun e => hne (by rw [e]))⟩
theorem St.put {W w : World} {L : List (Nat × Obj)} (h : St W w L) (i : Nat) {g : Nat} {cs : Array Value} {t : TypeId} (hi : L[i]? = some (g, .cells cs t (0, 0))) (j : Nat) (u : Value) :
  St W (w.setCell ⟨g, j, none⟩ u) (L.set i (g, .cells (cs.setIfInBounds j u) t (0, 0))) :=
 h.swap i hi (grownBy_setCell w g j u) (z5s (h.get i hi) j u)
section
variable {P : Program} {ops : Array Oper} {o : Oper} {rest : List Oper} {a : Act} {Q : Exit → Act → World → Prop}
theorem z2t {W w : World} {L : List (Nat × Obj)} (h : St W w L) (hgd : o.guard = none) {cs : Array Value} {t : TypeId}
  (hrun : (execOp a.eval o).run P w = .ok (.value (.pointer (some ⟨w.heap.size, 0, none⟩))) (w.alloc (.cells cs t (0, 0))))
  (hK : ∀ g w1, St W w1 ((g, .cells cs t (0, 0)) :: L) → Below w.heap.size w w1 → wpList P ops Q rest (a.put o.dst (.pointer (some ⟨g, 0, none⟩))) w1) : wpList P ops Q (o :: rest) a w :=
 Kd.y1B hgd hrun (hK _ _ (h.push _) ((Below.refl _ _).alloc (Nat.le_refl _) _))
end
def MpO {α β : Type} (encK : α → Value) (encV : β → Value) (o : Obj) (l : List (α × β)) : Prop := ∃ es c, o = .map es c ∧ es.toList.map (fun e => (e.key, e.val)) = l.map (fun p => (encK p.1, encV p.2))
theorem MpO.made {α β : Type} (encK : α → Value) (encV : β → Value) : MpO encK encV (.map #[] 0) ([] : List (α × β)) := ⟨#[], 0, rfl, rfl⟩
theorem MpO.at_ {α β : Type} {encK : α → Value} {encV : β → Value} {o : Obj} {l : List (α × β)} (h : MpO encK encV o l) {w : World} {g : Nat} (hg : w.heap[g]? = some o) : z9c encK encV w g l := by
 obtain ⟨es, c, rfl, h2⟩ := h
 exact ⟨es, c, hg, h2⟩
section
variable {α β : Type} [DecidableEq α] {P : Program} {kt et T : TypeId} {encK : α → Value} {encV : β → Value}
end
end Go.Proofs.YtplkoabikliagaaGreatDoor.L
namespace Go.Proofs.YtplkoabikliagaaGreatDoor.K
open Go.RowKit Go.Proofs.YtplkoabikliagaaGreatDoorW.PrintWords Go.Proofs.YtplkoabikliagaaGreatDoorW.PrintLast Go.Proofs.YtplkoabikliagaaGreatDoorW.PrintMore
open Go.Proofs.YtplkoabikliagaaGreatDoor.L
theorem y1u {α : Type} (d : Kd α) (e : Nat) (w : World) (base : Nat) (ok : Nat → Prop) (hb : base ≤ w.heap.size) (hok : ok w.heap.size) : d.R e (w.alloc (.cells #[] e)) base ok (.slice (some ⟨w.heap.size, 0, none⟩) 0 0) [] :=
 ⟨fun k hk => by simp [Value.ownBlock] at hk; subst hk; exact hok, [], ⟨by simp, .inr ⟨w.heap.size, 0, #[], rfl, hb, z9j w _, Nat.le_refl _, Nat.zero_le _, by simp, by simp⟩⟩, Reps.none _ _⟩
theorem x6P : (Tryz.prog.info? 3).map (fun i => (i.zero, i.size, i.bytes)) = some (some (.int .i64 0), 1, 8) := by kernel_rfl
theorem x2n : (Tryz.prog.info? 54).map (fun i => (i.zero, i.size, i.bytes)) = some (some (.agg #[.int .i32 0, .int .u32 0, .int .u32 0]), 3, 12) := by kernel_rfl
theorem x2o : (Tryz.prog.info? 56).map (fun i => (i.zero, i.size, i.bytes)) = some (some (.agg #[.int .i32 0, .int .i64 0, .int .u32 0, .int .u32 0]), 4, 24) := by kernel_rfl
set_option maxHeartbeats 4000000 in
set_option maxRecDepth 100000 in
theorem x2p (A : Option Addr) (c : Nat) (l : List Int) (w : World) (hr : Kd.C (Kd.int .i64) w A l.length l) (hc : l.length ≤ c) (hl : l.length * 8 ≤ 140737488355328) :
  Calls Tryz.prog 94 #[.slice A l.length c] w fun e w' => ∃ v, e = .returned v ∧ Kd.R (Kd.int .i64) 3 w' w.heap.size (fun _ => True) v l ∧ Below w.heap.size w w' := by
 have HR := z0a.mk hr
 have HC := z0a.mk hc
 clear hr hc
 go_enter Tryz.func94, Tryz.ntmps94
 have hb0 : Below w.heap.size w w := Below.refl _ _
 have HN := z0a.mk (Kd.z5O (Kd.int .i64) 3 w w.heap.size (fun _ => True))
 have hsl : ∀ W : World, (binOp .eql 31 (.slice A l.length c) (.slice none 0 0)).run Tryz.prog W = .ok (.bool A.isNone) W := fun W => run_eql_slice_nil W 31 3 A l.length c Tryz.underlying31
 cases A with
 | none =>
  have h0 : l = [] := by
   rcases l with _ | ⟨x, l⟩
   ·rfl
   ·obtain ⟨ad, h, _⟩ := HR.out.2.2 (by simp)
    cases h
  subst h0
  have hsl' := hsl w
  simp only [List.length_nil] at hsl'
  go_wp2
  go_ret
  exact ⟨_, rfl, HN.out, Below.refl _ _⟩
 | some ad =>
  have HO := z0a.mk (y1u (Kd.int .i64) 3 w w.heap.size (fun _ => True) (Nat.le_refl _) trivial)
  have HRA := z0a.mk (Kd.z0t HR.out ((Below.refl w.heap.size w).alloc (Nat.le_refl _) (.cells #[] 3)))
  generalize hn : l.length = n at *
  go_wp2_with ((with_reducible refine z2Z (b := .append) (xs := #[.tmp 5, .tmp 6]) rfl ?_); at_builtin; refine Kd.z5p (Kd.int .i64) (Rr := (Kd.int .i64).K w) (w0 := w) w.heap.size rfl (.tmp 5) (.tmp 6) 31 3 (.int .i64 0) 8 rfl Tryz.underlying31 x6P rfl (by decide) (by omega) _ [] l (some ad) n c (fun _ => True) (fun _ => False) rfl rfl HO.out ?aR ?aK (fun _ hk => hk.elim) (fun _ _ => trivial) ?aB ?aS ?aL ?_)
  case aR => exact HRA.out
  case aK => intro x cs h; exact h
  case aB => exact (Below.refl w.heap.size w).alloc (Nat.le_refl _) _
  case aS => simp
  case aL => simpa using hl
  intro v1 w1 hr1 hb1 hg1 hat1
  go_wp2
  go_ret
  exact ⟨_, rfl, hr1, hb1⟩
set_option maxHeartbeats 4000000 in
set_option maxRecDepth 100000 in
theorem x0Z (A : Option Addr) (c : Nat) (l : List S54) (w : World) (hr : Kd.C k54 w A l.length l) (hc : l.length ≤ c) (hl : l.length * 12 ≤ 140737488355328) :
  Calls Tryz.prog 56 #[.slice A l.length c] w fun e w' => ∃ v, e = .returned v ∧ Kd.R k54 54 w' w.heap.size (fun _ => True) v l ∧ Below w.heap.size w w' := by
 have HR := z0a.mk hr
 have HC := z0a.mk hc
 clear hr hc
 go_enter Tryz.func56, Tryz.ntmps56
 have hb0 : Below w.heap.size w w := Below.refl _ _
 have HN := z0a.mk (Kd.z5O k54 54 w w.heap.size (fun _ => True))
 have hsl : ∀ W : World, (binOp .eql 45 (.slice A l.length c) (.slice none 0 0)).run Tryz.prog W = .ok (.bool A.isNone) W := fun W => run_eql_slice_nil W 45 54 A l.length c Tryz.underlying45
 cases A with
 | none =>
  have h0 : l = [] := by
   rcases l with _ | ⟨x, l⟩
   ·rfl
   ·obtain ⟨ad, h, _⟩ := HR.out.2.2 (by simp)
    cases h
  subst h0
  have hsl' := hsl w
  simp only [List.length_nil] at hsl'
  go_wp2
  go_ret
  exact ⟨_, rfl, HN.out, Below.refl _ _⟩
 | some ad =>
  have HO := z0a.mk (y1u k54 54 w w.heap.size (fun _ => True) (Nat.le_refl _) trivial)
  have HRA := z0a.mk (Kd.z0t HR.out ((Below.refl w.heap.size w).alloc (Nat.le_refl _) (.cells #[] 54)))
  generalize hn : l.length = n at *
  go_wp2_with ((with_reducible refine z2Z (b := .append) (xs := #[.tmp 5, .tmp 6]) rfl ?_); at_builtin; refine Kd.z5p k54 (Rr := k54.K w) (w0 := w) w.heap.size rfl (.tmp 5) (.tmp 6) 45 54 (.agg #[.int .i32 0, .int .u32 0, .int .u32 0]) 12 rfl Tryz.underlying45 x2n rfl (by decide) (by omega) _ [] l (some ad) n c (fun _ => True) (fun _ => False) rfl rfl HO.out ?aR ?aK (fun _ hk => hk.elim) (fun _ _ => trivial) ?aB ?aS ?aL ?_)
  case aR => exact HRA.out
  case aK => intro x cs h; exact h
  case aB => exact (Below.refl w.heap.size w).alloc (Nat.le_refl _) _
  case aS => simp
  case aL => simpa using hl
  intro v1 w1 hr1 hb1 hg1 hat1
  go_wp2
  go_ret
  exact ⟨_, rfl, hr1, hb1⟩
set_option maxHeartbeats 4000000 in
set_option maxRecDepth 100000 in
theorem x1a (A : Option Addr) (c : Nat) (l : List S56) (w : World) (hr : Kd.C k56 w A l.length l) (hc : l.length ≤ c) (hl : l.length * 24 ≤ 140737488355328) :
  Calls Tryz.prog 57 #[.slice A l.length c] w fun e w' => ∃ v, e = .returned v ∧ Kd.R k56 56 w' w.heap.size (fun _ => True) v l ∧ Below w.heap.size w w' := by
 have HR := z0a.mk hr
 have HC := z0a.mk hc
 clear hr hc
 go_enter Tryz.func57, Tryz.ntmps57
 have hb0 : Below w.heap.size w w := Below.refl _ _
 have HN := z0a.mk (Kd.z5O k56 56 w w.heap.size (fun _ => True))
 have hsl : ∀ W : World, (binOp .eql 46 (.slice A l.length c) (.slice none 0 0)).run Tryz.prog W = .ok (.bool A.isNone) W := fun W => run_eql_slice_nil W 46 56 A l.length c Tryz.underlying46
 cases A with
 | none =>
  have h0 : l = [] := by
   rcases l with _ | ⟨x, l⟩
   ·rfl
   ·obtain ⟨ad, h, _⟩ := HR.out.2.2 (by simp)
    cases h
  subst h0
  have hsl' := hsl w
  simp only [List.length_nil] at hsl'
  go_wp2
  go_ret
  exact ⟨_, rfl, HN.out, Below.refl _ _⟩
 | some ad =>
  have HO := z0a.mk (y1u k56 56 w w.heap.size (fun _ => True) (Nat.le_refl _) trivial)
  have HRA := z0a.mk (Kd.z0t HR.out ((Below.refl w.heap.size w).alloc (Nat.le_refl _) (.cells #[] 56)))
  generalize hn : l.length = n at *
  go_wp2_with ((with_reducible refine z2Z (b := .append) (xs := #[.tmp 5, .tmp 6]) rfl ?_); at_builtin; refine Kd.z5p k56 (Rr := k56.K w) (w0 := w) w.heap.size rfl (.tmp 5) (.tmp 6) 46 56 (.agg #[.int .i32 0, .int .i64 0, .int .u32 0, .int .u32 0]) 24 rfl Tryz.underlying46 x2o rfl (by decide) (by omega) _ [] l (some ad) n c (fun _ => True) (fun _ => False) rfl rfl HO.out ?aR ?aK (fun _ hk => hk.elim) (fun _ _ => trivial) ?aB ?aS ?aL ?_)
  case aR => exact HRA.out
  case aK => intro x cs h; exact h
  case aB => exact (Below.refl w.heap.size w).alloc (Nat.le_refl _) _
  case aS => simp
  case aL => simpa using hl
  intro v1 w1 hr1 hb1 hg1 hat1
  go_wp2
  go_ret
  exact ⟨_, rfl, hr1, hb1⟩
theorem x2q : (Tryz.prog.info? 58).map (fun i => (i.zero, i.size, i.bytes)) = some (some (.agg #[.int .u8 0, .int .i32 0, .int .u32 0, .int .u32 0, .slice none 0 0]), 5, 40) := by kernel_rfl
set_option maxHeartbeats 4000000 in
set_option maxRecDepth 100000 in
theorem x1b (A : Option Addr) (c : Nat) (l : List S58) (w : World) (hr : Kd.C k58 w A l.length l) (hc : l.length ≤ c) (hl : l.length * 40 ≤ 140737488355328) :
  Calls Tryz.prog 93 #[.slice A l.length c] w fun e w' => ∃ v, ∃ rows : List (List Value), e = .returned v ∧ rows.length = l.length ∧ (∀ (j : Nat) x cs, l[j]? = some x → rows[j]? = some cs → k58.K w x cs) ∧ Kd.R (Kd.raw 5) 58 w' w.heap.size (fun _ => True) v rows ∧ Below w.heap.size w w' := by
 have hsz : k58.sz = 5 := rfl
 obtain ⟨rows, hn1, hn2, hn3⟩ := Kd.y6R (show z2F (k58.K w) k58.sz w A l.length l from hr) (fun y c hk => ⟨k58.K_len hk, k58.K_one hk⟩)
 rw [hsz] at hn2
 have hnr : Kd.C (Kd.raw 5) w A l.length rows := hn2
 have HR := z0a.mk hnr
 have HC := z0a.mk hc
 have HN3 := z0a.mk hn3
 have HN1 := z0a.mk hn1
 clear hr hc hn2 hnr hn3
 go_enter Tryz.func93, Tryz.ntmps93
 have HN := z0a.mk (Kd.z5O (Kd.raw 5) 58 w w.heap.size (fun _ => True))
 have hsl : ∀ W : World, (binOp .eql 47 (.slice A l.length c) (.slice none 0 0)).run Tryz.prog W = .ok (.bool A.isNone) W := fun W => run_eql_slice_nil W 47 58 A l.length c Tryz.underlying47
 cases A with
 | none =>
  have h0 : l = [] := by
   rcases l with _ | ⟨x, l⟩
   ·rfl
   ·obtain ⟨ad, h, _⟩ := HR.out.2.2 (by simp)
    cases h
  subst h0
  have h1 : rows = [] := List.eq_nil_of_length_eq_zero hn1
  subst h1
  clear hn1
  have hsl' := hsl w
  simp only [List.length_nil] at hsl'
  go_wp2
  go_ret
  exact ⟨_, [], rfl, rfl, HN3.out, HN.out, Below.refl _ _⟩
 | some ad =>
  have HO := z0a.mk (y1u (Kd.raw 5) 58 w w.heap.size (fun _ => True) (Nat.le_refl _) trivial)
  have HRA := z0a.mk (Kd.z0t HR.out ((Below.refl w.heap.size w).alloc (Nat.le_refl _) (.cells #[] 58)))
  generalize hn : l.length = n at *
  go_wp2_with ((with_reducible refine z2Z (b := .append) (xs := #[.tmp 5, .tmp 6]) rfl ?_); at_builtin; refine Kd.z5p (Kd.raw 5) (Rr := (Kd.raw 5).K w) (w0 := w) w.heap.size rfl (.tmp 5) (.tmp 6) 47 58 (.agg #[.int .u8 0, .int .i32 0, .int .u32 0, .int .u32 0, .slice none 0 0]) 40 rfl Tryz.underlying47 x2q rfl (by decide) (by omega) _ [] rows (some ad) n c (fun _ => True) (fun _ => False) rfl rfl HO.out ?aR ?aK (fun _ hk => hk.elim) (fun _ _ => trivial) ?aB ?aS ?aL ?_)
  case aR => exact HRA.out
  case aK => intro x cs h; exact h
  case aB => exact (Below.refl w.heap.size w).alloc (Nat.le_refl _) _
  case aS => simp
  case aL => simpa using hl
  intro v1 w1 hr1 hb1 hg1 hat1
  go_wp2
  go_ret
  exact ⟨_, rows, rfl, HN1.out, HN3.out, hr1, hb1⟩
def z5f (W0 : World) (B g cap : Nat) (l : List S58) (i : Nat) (w : World) : Prop :=
 ∃ cur : Array Value, w.heap[g]? = some (.cells cur 58 (0, 0)) ∧ cur.size = cap * 5 ∧ ∀ (j : Nat) x, l[j]? = some x → ∃ v, cur[j * 5]? = some (.int .u8 x.f0) ∧ cur[j * 5 + 1]? = some (.int .i32 x.f1) ∧ cur[j * 5 + 2]? = some (.int .u32 x.f2) ∧ cur[j * 5 + 3]? = some (.int .u32 x.f3) ∧ cur[j * 5 + 4]? = some v ∧
  (j < i → Kd.R (Kd.int .i64) 3 w B (fun k => k ≠ g) v x.f4) ∧ (i ≤ j → ∃ A c, v = .slice A x.f4.length c ∧ x.f4.length ≤ c ∧ Kd.C (Kd.int .i64) W0 A x.f4.length x.f4)
theorem z5f.below {W0 w w1 : World} {B g cap i : Nat} {l : List S58} (h : z5f W0 B g cap l i w) (hb : Below w.heap.size w w1) : z5f W0 B g cap l i w1 := by
 obtain ⟨cur, h1, h2, h3⟩ := h
 refine ⟨cur, z0O h1 hb, h2, fun j x hj => ?_⟩
 obtain ⟨v, a0, a1, a2, a3, a4, a5, a6⟩ := h3 j x hj
 exact ⟨v, a0, a1, a2, a3, a4, fun hi => Kd.z2f (a5 hi) hb, a6⟩
theorem z5f.step {W0 w : World} {B g cap i : Nat} {l : List S58} (h : z5f W0 B g cap l i w) (x : S58) (hx : l[i]? = some x) (v : Value) (hv : Kd.R (Kd.int .i64) 3 w B (fun k => k ≠ g) v x.f4) :
  z5f W0 B g cap l (i + 1) (w.setCell ⟨g, i * 5 + 4, none⟩ v) := by
 obtain ⟨cur, h1, h2, h3⟩ := h
 have mv : ∀ {u : Value} {xs : List Int}, Kd.R (Kd.int .i64) 3 w B (fun k => k ≠ g) u xs → Kd.R (Kd.int .i64) 3 (w.setCell ⟨g, i * 5 + 4, none⟩ v) B (fun k => k ≠ g) u xs := fun hu => Kd.z8Y hu (fun k hk => Below.heap_setCell w ⟨g, i * 5 + 4, none⟩ v k hk)
 refine ⟨cur.setIfInBounds (i * 5 + 4) v, z5s h1 _ v, by simpa using h2, fun j y hj => ?_⟩
 obtain ⟨u, a0, a1, a2, a3, a4, a5, a6⟩ := h3 j y hj
 have ne : ∀ k, k < 5 → (j ≠ i ∨ k ≠ 4) → (cur.setIfInBounds (i * 5 + 4) v)[j * 5 + k]? = cur[j * 5 + k]? := fun k hk hne => by
  rw [Array.getElem?_setIfInBounds]
  rw [if_neg (by omega)]
 by_cases hji : j = i
 ·subst hji
  rw [hx] at hj
  obtain rfl := Option.some.inj hj
  refine ⟨v, by rw [show j * 5 = j * 5 + 0 from rfl, ne 0 (by omega) (.inr (by omega))]; exact a0, by rw [ne 1 (by omega) (.inr (by omega))]; exact a1, by rw [ne 2 (by omega) (.inr (by omega))]; exact a2, by rw [ne 3 (by omega) (.inr (by omega))]; exact a3, ?_, fun _ => mv hv, fun hh => by omega⟩
  have hlt := (Array.getElem?_eq_some_iff.1 a4).1
  rw [Array.getElem?_setIfInBounds, if_pos rfl, if_pos hlt]
 ·refine ⟨u, by rw [show j * 5 = j * 5 + 0 from rfl, ne 0 (by omega) (.inl hji)]; exact a0, by rw [ne 1 (by omega) (.inl hji)]; exact a1, by rw [ne 2 (by omega) (.inl hji)]; exact a2, by rw [ne 3 (by omega) (.inl hji)]; exact a3, by rw [ne 4 (by omega) (.inl hji)]; exact a4, fun hlt => mv (a5 (by omega)), fun hle => a6 (by omega)⟩
theorem z5f.done {W0 w : World} {B g cap : Nat} {l : List S58} (h : z5f W0 B g cap l l.length w) (hB : B ≤ g) (hc : l.length ≤ cap) (hm : cap ≤ maxLen) : Kd.R k58 58 w B (fun _ => True) (.slice (some ⟨g, 0, none⟩) l.length cap) l := by
 obtain ⟨cur, h1, h2, h3⟩ := h
 have hlen : (cur.toList.take (l.length * 5)).length = l.length * 5 := by
  have : cur.toList.length = cap * 5 := by simpa using h2
  rw [List.length_take]
  omega
 refine ⟨fun _ _ => trivial, cur.toList.take (l.length * 5), ⟨hlen, .inr ⟨g, cap, cur, rfl, hB, h1, hc, hm, h2, rfl⟩⟩, hlen, fun j x hj => ?_⟩
 ·obtain ⟨hjl, _⟩ := List.getElem?_eq_some_iff.1 hj
  obtain ⟨v, a0, a1, a2, a3, a4, a5, _⟩ := h3 j x hj
  have e : ((cur.toList.take (l.length * 5)).drop (j * 5)).take 5 = [.int .u8 x.f0, .int .i32 x.f1, .int .u32 x.f2, .int .u32 x.f3, v] := by
   apply List.ext_getElem?
   intro k
   rw [List.getElem?_take]
   by_cases hk : k < 5
   ·rw [if_pos hk, List.getElem?_drop, List.getElem?_take, if_pos (by omega), Array.getElem?_toList]
    match k, hk with
    | 0, _ => exact a0
    | 1, _ => exact a1
    | 2, _ => exact a2
    | 3, _ => exact a3
    | 4, _ => exact a4
   ·rw [if_neg hk, List.getElem?_eq_none (by simp; omega)]
  show k58.M w B _ x (((cur.toList.take (l.length * 5)).drop (j * 5)).take 5)
  rw [e]
  exact x8s w B _ x (Kd.z3D (a5 hjl) (fun k hk => ⟨trivial, by simpa [Value.ownBlock] using hk⟩))
theorem z5f.init {W0 w : World} {B n cap : Nat} {ad : Addr} {l : List S58} {rows : List (List Value)} (hn : rows.length = l.length) (hk : ∀ (j : Nat) x cs, l[j]? = some x → rows[j]? = some cs → k58.K W0 x cs)
  (hr : Kd.R (Kd.raw 5) 58 w B (fun _ => True) (.slice (some ad) n cap) rows) : ∃ g, ad = ⟨g, 0, none⟩ ∧ B ≤ g ∧ n = l.length ∧ l.length ≤ cap ∧ cap ≤ maxLen ∧ z5f W0 B g cap l 0 w := by
 obtain ⟨_, inner, ⟨hl, ho⟩, hreps⟩ := hr
 rcases ho with ⟨h, _⟩ | ⟨g, cap', cur, hv, hB, hg, hc, hm, hsz, htake⟩
 ·cases h
 ·simp only [Value.slice.injEq, Option.some.injEq] at hv
  obtain ⟨rfl, rfl, rfl⟩ := hv
  refine ⟨g, rfl, hB, hn, by omega, hm, cur, hg, hsz, fun j x hj => ?_⟩
  obtain ⟨hjl, _⟩ := List.getElem?_eq_some_iff.1 hj
  have hjr : j < rows.length := by omega
  have hrow := hreps.2 j _ (List.getElem?_eq_getElem hjr)
  have hK := hk j x _ hj (List.getElem?_eq_getElem hjr)
  obtain ⟨A4, c4, e4, l4, g4⟩ := x0y hK
  have e : ∀ k, k < 5 → cur[j * 5 + k]? = (rows[j])[k]? := fun k hk5 => by
   have hc5 : (inner.drop (j * 5)).take 5 = rows[j] := hrow.1
   rw [← hc5, List.getElem?_take, if_pos hk5, List.getElem?_drop, ← htake, List.getElem?_take, if_pos (by show j * 5 + k < rows.length * 5; omega), Array.getElem?_toList]
  refine ⟨_, by rw [show j * 5 = j * 5 + 0 from rfl, e 0 (by omega), e4]; rfl, by rw [e 1 (by omega), e4]; rfl, by rw [e 2 (by omega), e4]; rfl, by rw [e 3 (by omega), e4]; rfl, by rw [e 4 (by omega), e4]; rfl, fun h => absurd h (Nat.not_lt_zero j), fun _ => ⟨A4, c4, rfl, l4, g4⟩⟩
theorem z9T {α : Type} {d : Kd α} {e : Nat} {w : World} {B : Nat} {ok : Nat → Prop} {v : Value} {xs : List α} (h : d.R e w B ok v xs) : ∃ a n c, v = .slice a n c := by
 obtain ⟨_, inner, ⟨_, ho⟩, _⟩ := h
 rcases ho with ⟨rfl, _⟩ | ⟨g, cap, cur, rfl, _⟩
 ·exact ⟨_, _, _, rfl⟩
 ·exact ⟨_, _, _, rfl⟩
theorem _root_.Go.Proofs.YtplkoabikliagaaGreatDoor.L.St.downB {W w w1 : World} {L : List (Nat × Obj)} {B : Nat} (h : St W w L) (hb : Below B w w1) (hB : W.heap.size ≤ B) (hL : ∀ p ∈ L, p.1 < B) : St W w1 L :=
 ⟨h.below.trans (hb.mono hB), fun p hp => (hb.block _ (hL p hp)).trans (h.at_ p hp), h.base, h.apart⟩
theorem x7I (g n : Nat) (ad : Addr) (h : ad = ⟨g, 0, none⟩) : (ad.add n).block = g ∧ (ad.add n).off = n := by
 subst h
 unfold Addr.add
 split <;> simp_all
def y7P (W0 : World) (B : Nat) (l : List S58) (i : Nat) (ao : Option Addr) (cap : Nat) (w : World) : Prop :=
 (ao = none → l = [] ∧ cap = 0) ∧ ∀ ad, ao = some ad → ∃ g, ad = ⟨g, 0, none⟩ ∧ B ≤ g ∧ l.length ≤ cap ∧ cap ≤ maxLen ∧ z5f W0 B g cap l i w
theorem y7Q (A : Option Addr) (c : Nat) (l : List S58) (w : World) (hr : Kd.C k58 w A l.length l) (hc : l.length ≤ c) (hl : l.length * 40 ≤ 140737488355328) :
  Calls Tryz.prog 93 #[.slice A l.length c] w fun e w' => ∃ ao cap, e = .returned (.slice ao l.length cap) ∧ y7P w w.heap.size l 0 ao cap w' ∧ Below w.heap.size w w' := by
 refine (x1b A c l w hr hc hl).mono ?_
 rintro e w1 ⟨v, rows, rfl, hn, hx, hv, hb⟩
 have hv' := hv
 obtain ⟨_, inner, ⟨_, ho⟩, _⟩ := hv
 rcases ho with ⟨rfl, h0⟩ | ⟨g, cap, cur, rfl, _⟩
 ·have hl0 : l = [] := List.eq_nil_of_length_eq_zero (by omega)
  subst hl0
  exact ⟨none, 0, rfl, ⟨fun _ => ⟨rfl, rfl⟩, fun ad h => by cases h⟩, hb⟩
 ·rw [hn] at hv' ⊢
  obtain ⟨g', e1, h1, h2, h3, h4, h5⟩ := z5f.init hn hx hv'
  exact ⟨_, _, rfl, ⟨(fun h => by cases h), (fun ad h => by cases h; exact ⟨g', e1, h1, h3, h4, h5⟩)⟩, hb⟩
set_option maxHeartbeats 8000000 in
set_option maxRecDepth 100000 in
theorem z5T (A : Option Addr) (c : Nat) (l : List S58) (w : World) (hr : Kd.C k58 w A l.length l) (hc : l.length ≤ c) (hl : l.length ≤ 256) (hk : ∀ x ∈ l, x.f4.length ≤ 256) :
  Calls Tryz.prog 58 #[.agg #[.slice A l.length c]] w fun e w' => ∃ v, e = .returned (.agg #[v]) ∧ Kd.R k58 58 w' w.heap.size (fun _ => True) v l ∧ Below w.heap.size w w' := by
 have HR := z0a.mk hr
 have HC := z0a.mk hc
 have HK := z0a.mk hk
 clear hr hc hk
 have hu49 := Tryz.underlying49
 have hu58 := Tryz.underlying58
 have hu31 := Tryz.underlying31
 have hu47 := Tryz.underlying47
 have HS := z0a.mk (St.start w)
 go_enter Tryz.func58, Tryz.ntmps58
 go_wp2_with (first | ((with_reducible refine z0o (N := 1) rfl ?_); refine z2t HS.out rfl (cs := #[.slice A l.length c]) (t := 49) ?hr ?_; (case hr => first | (go_simp; done) | (go_simp; rfl)); clear HS; intro g1 w_g1 hs hb; have HS := z0a.mk hs; clear hs hb; (try clear hc_g1 hf_g1); obtain ⟨hc_g1, hf_g1⟩ := HS.out.cell 0 rfl) | ((with_reducible refine z0o (N := 2) rfl ?_); refine z2t HS.out rfl (cs := #[.slice none 0 0]) (t := 49) ?hr ?_; (case hr => first | (go_simp; done) | (go_simp; rfl)); clear HS; intro g2 w_g2 hs hb; have HS := z0a.mk hs; clear hs hb; (try clear hc_g2 hf_g2); obtain ⟨hc_g2, hf_g2⟩ := HS.out.cell 0 rfl; (try clear hc_g1 hf_g1); obtain ⟨hc_g1, hf_g1⟩ := HS.out.cell 1 rfl) | (go_at_call 93; refine (y7Q A c l _ (Kd.z0t HR.out HS.out.below) HC.out (by omega)).mono ?_; rintro e w1 ⟨ao, cap, rfl, hna, hb⟩; have HSO := HS; have hs := HS.out.down hb; clear HS; have HS := z0a.mk hs; clear hs; have HNA := z0a.mk hna; have HB := z0a.mk hb; clear hb hna; (try clear hc_g1 hf_g1 hc_g2 hf_g2); obtain ⟨hc_g1, hf_g1⟩ := HS.out.cell 1 rfl; obtain ⟨hc_g2, hf_g2⟩ := HS.out.cell 0 rfl))
 have hg2a := HSO.out.ge 0 rfl
 have hg2b := HSO.out.lt 0 rfl
 have hg1b := HSO.out.lt 1 rfl
 have hwg := HSO.out.below.size
 have HSL := z0a.mk (show ∀ p ∈ [(g2, Obj.cells #[.slice none 0 0] 49 (0, 0)), (g1, Obj.cells #[.slice A l.length c] 49 (0, 0))], p.1 < w_g2.heap.size from fun p hp => by
  simp only [List.mem_cons, List.not_mem_nil, or_false] at hp
  rcases hp with rfl | rfl
  ·exact hg2b
  ·exact hg1b)
 clear hc_g1 hf_g1 hc_g2 hf_g2
 obtain ⟨wo, hwo⟩ : ∃ wo : World, wo = w1 := ⟨_, rfl⟩
 subst hwo
 go_loopw [10] (fun i wr => ∃ k : Nat, k ≤ l.length ∧ i = .int .i64 k ∧ z0a (Below w_g2.heap.size w_g2 wr) ∧ z0a (y7P w_g2 w_g2.heap.size l k ao cap wr)) (fun i _ => l.length - (intOf i).toNat)
 case atStart => exact ⟨0, Nat.zero_le _, rfl, HB, HNA⟩
 case round =>
  obtain ⟨k, hk, rfl, HBW, HNR⟩ := hrel
  have HST := z0a.mk (HSO.out.downB HBW.out hwg HSL.out)
  by_cases hlt : k < l.length
  ·cases ao with
   | none =>
    have := (HNR.out.1 rfl).1
    subst this
    simp at hlt
   | some ad =>
    obtain ⟨g, had, hB, hcap, hm, hrow⟩ := HNR.out.2 ad rfl
    have HAD := z0a.mk had
    obtain ⟨hadb, hado⟩ := x7I g (k * 5) ad had
    have HADD := z0a.mk (show (⟨(ad.add (k * 5)).block, (ad.add (k * 5)).off + 4, none⟩ : Addr) = ⟨g, k * 5 + 4, none⟩ by rw [hadb, hado])
    obtain ⟨x, hx⟩ : ∃ x, l[k]? = some x := ⟨_, List.getElem?_eq_getElem hlt⟩
    have HX := z0a.mk hx
    have hxm : x ∈ l := List.mem_of_getElem? hx
    have hkl := HK.out x hxm
    have hgr : g < wr.heap.size := by
     obtain ⟨cur, h1, _⟩ := hrow
     exact z4s h1
    have HROW := z0a.mk hrow
    have hrow' := hrow
    obtain ⟨cur, hg, hsz, hall⟩ := hrow'
    obtain ⟨v, a0, a1, a2, a3, a4, _, a6⟩ := hall k x hx
    obtain ⟨A5, c5, rfl, l5, g5⟩ := a6 (Nat.le_refl k)
    have hcell : wr.cell? ⟨(ad.add (k * 5)).block, (ad.add (k * 5)).off + 4, none⟩ = some (.slice A5 x.f4.length c5) := by
     rw [HADD.out, z0p hg]; exact a4
    have HG := z0a.mk hg
    have HG5 := z0a.mk g5
    have HL5 := z0a.mk l5
    clear had hadb hado hx hxm hrow hg hsz hall a0 a1 a2 a3 a4 a6 g5 l5
    go_wp2_with (first | (go_at_call 94; refine (x2p A5 c5 x.f4 _ (Kd.z0t HG5.out HBW.out) HL5.out (by omega)).mono ?_; rintro e w2 ⟨v2, rfl, hr2, hb2⟩; obtain ⟨a9, n9, c9, hv9⟩ := z9T hr2; subst hv9; have hg2' := z0O HG.out hb2; have hcell2 : w2.cell? ⟨(ad.add (k * 5)).block, (ad.add (k * 5)).off + 4, none⟩ = some (.slice A5 x.f4.length c5) := (by rw [HADD.out, z0p hg2', ← z0p HG.out, ← HADD.out]; exact hcell); have hfz2 : w2.frozen? ⟨(ad.add (k * 5)).block, (ad.add (k * 5)).off + 4, none⟩ = false := (by rw [HADD.out]; exact z1Q hg2' _); have HR2 := z0a.mk hr2; have HB2 := z0a.mk hb2; clear hr2 hb2 hg2'))
    go_roundw
    case rel =>
     refine ⟨k + 1, by omega, by go_num, ⟨?_⟩, ⟨?_⟩⟩
     ·rw [HADD.out]
      exact (HBW.out.trans (HB2.out.mono HBW.out.size)).setCell (p := ⟨g, k * 5 + 4, none⟩) hB _
     ·unfold y7P
      refine ⟨(fun h => by cases h), fun ad' h => ?_⟩
      cases h
      rw [HADD.out]
      refine ⟨g, HAD.out, hB, hcap, hm, (HROW.out.below HB2.out).step x HX.out _ ?_⟩
      exact Kd.z2n (Kd.z3D (Kd.z4W HR2.out) (fun k hk => Nat.ne_of_gt (Nat.lt_of_lt_of_le hgr hk.2.1))) HBW.out.size
    case measure => simp [intOf]; omega
  ·have hke : k = l.length := by omega
   obtain ⟨hc_g2, hf_g2⟩ := HST.out.cell 0 rfl
   have HRR := z0a.mk (show Kd.R k58 58 wr w_g2.heap.size (fun _ => True) (.slice ao l.length cap) l from by
    cases ao with
    | none =>
     obtain ⟨h1, h2⟩ := HNR.out.1 rfl
     subst h1; subst h2
     exact Kd.z5O _ _ _ _ _
    | some ad =>
     obtain ⟨g, had, hB, hcap, hm, hrow⟩ := HNR.out.2 ad rfl
     subst had
     rw [hke] at hrow
     exact hrow.done hB hcap hm)
   go_wp2
   have hblk : (wr.setCell ⟨g2, 0, none⟩ (.slice ao l.length cap)).heap[g2]? = some (.cells #[.slice ao l.length cap] 49 (0, 0)) := z5s (HST.out.get 0 rfl) 0 _
   refine bodyPost_ret (results_cell_row (t := 49) (cs := #[.slice ao l.length cap]) rfl _ _ g2 (fr := (0, 0)) _ rfl hblk hu49 rfl (by kernel_rfl)) rfl ⟨_, rfl, ?_, ?_⟩
   ·exact Kd.z2n (Kd.z3D (Kd.z8Y (Kd.z4W HRR.out) (fun k hk => Below.heap_setCell _ _ _ _ (Nat.ne_of_gt (Nat.lt_of_lt_of_le hg2b hk.2.1)))) (fun _ _ => trivial)) hwg
   ·exact (HST.out.below).setCell (p := ⟨g2, 0, none⟩) hg2a _
end Go.Proofs.YtplkoabikliagaaGreatDoor.K
namespace Go.Proofs.YtplkoabikliagaaGreatDoorW.PrintMore
open Go.RowKit Go.Proofs.YtplkoabikliagaaGreatDoorW.PrintWords Go.Proofs.YtplkoabikliagaaGreatDoorW.PrintLast
theorem zk {w : World} {g : Nat} {o : Obj} (h : w.heap[g]? = some o := by (with_reducible repeat (first | refine z0c ?_ _ | refine z0e ?_ | refine z0b ?_ _)); exact z0a.out (by assumption)) : w.heap[g]? = some o := h
theorem zb {B : Nat} {w w' : World} (h : Below B w w' := by repeat (first | (with_reducible first | exact z0a.out (by assumption) | apply z1w | apply z1d | apply z1l | refine z1X ?_ (z0a.out (by assumption))) | exact z0a.out (by assumption))) : Below B w w' := h
theorem zg (w : World) {W : World} {g : Nat} (hg : g = W.heap.size) (h : Below w.heap.size w W := by repeat (first | (with_reducible first | exact z0a.out (by assumption) | apply z1w | apply z1d | apply z1l | refine z1X ?_ (z0a.out (by assumption))) | exact z0a.out (by assumption))) : w.heap.size ≤ g := by rw [hg]; exact z1x h
theorem zn {w0 W : World} {g g' : Nat} {o : Obj} (_K : z0a (w0.heap[g]? = some o)) (hg : g' = W.heap.size) (k : W.heap[g]? = some o := by (with_reducible repeat (first | refine z0c ?_ _ | refine z0e ?_ | refine z0b ?_ _)); exact z0a.out (by assumption)) : g ≠ g' := by rw [hg]; exact Nat.ne_of_lt (z4s k)
theorem zm {w0 W : World} {g g' : Nat} {o : Obj} (_K : z0a (w0.heap[g]? = some o)) (hg : g' = W.heap.size) (k : W.heap[g]? = some o := by (with_reducible repeat (first | refine z0c ?_ _ | refine z0e ?_ | refine z0b ?_ _)); exact z0a.out (by assumption)) : g' ≠ g := by rw [hg]; exact Nat.ne_of_gt (z4s k)
theorem zs {α : Type} {d : Kd α} {W : World} {A : Option Addr} {n : Nat} {xs : List α} (h : d.C W A n xs := by repeat (first | exact Kd.z0t (z0a.out (by assumption)) (z0a.out (by assumption)) | (with_reducible refine Kd.z3F ?_ _) | (with_reducible refine Kd.z3G ?_ _) | (with_reducible refine Kd.z3x ?_))) : d.C W A n xs := h
theorem zf {w : World} {g : Nat} {o : Obj} (h : w.heap[g]? = some o := by repeat (first | (with_reducible refine z0c ?_ _) | (with_reducible refine z0e ?_) | (with_reducible refine z0b ?_ _) | refine z0n ?_ (z0a.out (by assumption)) _); exact z0a.out (by assumption)) : w.heap[g]? = some o := h
theorem za {p : Prop} [Decidable p] (h : decide p = true := by first | (with_reducible assumption) | assumption) : p := of_decide_eq_true h
theorem zx {w w' : World} {a : Addr} {v : Value} (HB : z0a (Below w.heap.size w w')) (h : w.cell? a = some v) : w'.cell? a = some v := (HB.out.cell (World.block_lt_of_cell? w _ h)).trans h
theorem zq {α : Type} {a b : α} (h : a = b := by (try simp only [List.map_toArray, List.map_cons, List.map_nil]); first | done | rfl | (simp only [List.length_drop, List.length_take]; rfl)) : a = b := h
theorem ze {α : Type} {a b : α} (h : a = b := by first | rfl | (simp; done) | (simp [*]; done)) : a = b := h
theorem zr {a b : Ending} (h : a = b := by first | rfl | (simp [z3J, z3K] <;> rfl) | (simp [*, z3J, z3K] <;> rfl)) : a = b := h
theorem zl {a b : Nat} (h : a ≤ b := by first | omega | exact Nat.le_refl _) : a ≤ b := h
theorem zd {w w' : World} (h : z1v w w' := by repeat (first | exact z1v.refl _ | apply z1v.step)) : z1v w w' := h
theorem zK {w0 w w1 : World} {g : Nat} {o : Obj} (_K : z0a (w0.heap[g]? = some o)) (hb : Below w.heap.size w w1) (k : w.heap[g]? = some o := by (with_reducible repeat (first | refine z0c ?_ _ | refine z0e ?_ | refine z0b ?_ _)); exact z0a.out (by assumption)) : z0a (w1.heap[g]? = some o) := ⟨z0O k hb⟩
theorem zB {w0 w' w w1 : World} (_H : z0a (Below w0.heap.size w0 w')) (hb : Below w.heap.size w w1) (k : Below w0.heap.size w0 w := by repeat (first | (with_reducible first | exact z0a.out (by assumption) | apply z1w | apply z1d | apply z1l | refine z1X ?_ (z0a.out (by assumption))) | exact z0a.out (by assumption))) : z0a (Below w0.heap.size w0 w1) := ⟨z2X k hb⟩
theorem zG {w W0 W : World} {g : Nat} (_H : z0a (Below w.heap.size w W0)) (hg : g = W.heap.size) (k : Below w.heap.size w W := by repeat (first | (with_reducible first | exact z0a.out (by assumption) | apply z1w | apply z1d | apply z1l | refine z1X ?_ (z0a.out (by assumption))) | exact z0a.out (by assumption))) : z0a (w.heap.size ≤ g) := ⟨zg w hg k⟩
theorem zN {w0 W : World} {g g' : Nat} {o : Obj} (K : z0a (w0.heap[g]? = some o)) (hg : g' = W.heap.size) (k : W.heap[g]? = some o := by (with_reducible repeat (first | refine z0c ?_ _ | refine z0e ?_ | refine z0b ?_ _)); exact z0a.out (by assumption)) : z0a (g ≠ g') := ⟨zn K hg k⟩
theorem zM {w0 W : World} {g g' : Nat} {o : Obj} (K : z0a (w0.heap[g]? = some o)) (hg : g' = W.heap.size) (k : W.heap[g]? = some o := by (with_reducible repeat (first | refine z0c ?_ _ | refine z0e ?_ | refine z0b ?_ _)); exact z0a.out (by assumption)) : z0a (g' ≠ g) := ⟨zm K hg k⟩
section
variable {P : Program} {ops : Array Oper} {rest : List Oper} {o : Oper} {a : Act} {Q : Exit → Act → World → Prop}
theorem zo {W : World} {cs : Array Value} {t : TypeId}
  (h : ∀ g, g = W.heap.size → ∀ w1, w1.heap[g]? = some (.cells cs t (0, 0)) → Below W.heap.size W w1 → wpList P ops Q rest (a.put o.dst (.pointer (some ⟨g, 0, none⟩))) w1) (hgd : o.guard = none := by rfl)
  (hrun : (execOp a.eval o).run P W = .ok (.value (.pointer (some ⟨W.heap.size, 0, none⟩))) (W.alloc (.cells cs t (0, 0))) := by first | (go_simp; done) | (go_simp; rfl)) : wpList P ops Q (o :: rest) a W :=
 Kd.y1B hgd hrun (h _ rfl _ (z9j W _) (z1w (Below.refl _ _) _))
end
theorem zc1 (W : World) {g t : Nat} {a0 : Value} (h : W.heap[g]? = some (.cells #[a0] t (0, 0))) : W.cell? ⟨g, 0, none⟩ = some a0 ∧ W.frozen? ⟨g, 0, none⟩ = false := ⟨(z0p h 0).trans rfl, z1Q h 0⟩
theorem zc2 (W : World) {g t : Nat} {a0 a1 : Value} (h : W.heap[g]? = some (.cells #[a0, a1] t (0, 0))) : W.cell? ⟨g, 0, none⟩ = some a0 ∧ W.cell? ⟨g, 1, none⟩ = some a1 ∧ W.frozen? ⟨g, 0, none⟩ = false ∧ W.frozen? ⟨g, 1, none⟩ = false := ⟨(z0p h 0).trans rfl, (z0p h 1).trans rfl, z1Q h 0, z1Q h 1⟩
theorem zc3 (W : World) {g t : Nat} {a0 a1 a2 : Value} (h : W.heap[g]? = some (.cells #[a0, a1, a2] t (0, 0))) : W.cell? ⟨g, 0, none⟩ = some a0 ∧ W.cell? ⟨g, 1, none⟩ = some a1 ∧ W.cell? ⟨g, 2, none⟩ = some a2 ∧ W.frozen? ⟨g, 0, none⟩ = false ∧ W.frozen? ⟨g, 1, none⟩ = false ∧ W.frozen? ⟨g, 2, none⟩ = false := ⟨(z0p h 0).trans rfl, (z0p h 1).trans rfl, (z0p h 2).trans rfl, z1Q h 0, z1Q h 1, z1Q h 2⟩
theorem zc4 (W : World) {g t : Nat} {a0 a1 a2 a3 : Value} (h : W.heap[g]? = some (.cells #[a0, a1, a2, a3] t (0, 0))) : W.cell? ⟨g, 0, none⟩ = some a0 ∧ W.cell? ⟨g, 1, none⟩ = some a1 ∧ W.cell? ⟨g, 2, none⟩ = some a2 ∧ W.cell? ⟨g, 3, none⟩ = some a3 ∧ W.frozen? ⟨g, 0, none⟩ = false ∧ W.frozen? ⟨g, 1, none⟩ = false ∧ W.frozen? ⟨g, 2, none⟩ = false ∧ W.frozen? ⟨g, 3, none⟩ = false := ⟨(z0p h 0).trans rfl, (z0p h 1).trans rfl, (z0p h 2).trans rfl, (z0p h 3).trans rfl, z1Q h 0, z1Q h 1, z1Q h 2, z1Q h 3⟩
theorem zc5 (W : World) {g t : Nat} {a0 a1 a2 a3 a4 : Value} (h : W.heap[g]? = some (.cells #[a0, a1, a2, a3, a4] t (0, 0))) : W.cell? ⟨g, 0, none⟩ = some a0 ∧ W.cell? ⟨g, 1, none⟩ = some a1 ∧ W.cell? ⟨g, 2, none⟩ = some a2 ∧ W.cell? ⟨g, 3, none⟩ = some a3 ∧ W.cell? ⟨g, 4, none⟩ = some a4 ∧ W.frozen? ⟨g, 0, none⟩ = false ∧ W.frozen? ⟨g, 1, none⟩ = false ∧ W.frozen? ⟨g, 2, none⟩ = false ∧ W.frozen? ⟨g, 3, none⟩ = false ∧ W.frozen? ⟨g, 4, none⟩ = false := ⟨(z0p h 0).trans rfl, (z0p h 1).trans rfl, (z0p h 2).trans rfl, (z0p h 3).trans rfl, (z0p h 4).trans rfl, z1Q h 0, z1Q h 1, z1Q h 2, z1Q h 3, z1Q h 4⟩
theorem zc7 (W : World) {g t : Nat} {a0 a1 a2 a3 a4 a5 a6 : Value} (h : W.heap[g]? = some (.cells #[a0, a1, a2, a3, a4, a5, a6] t (0, 0))) : W.cell? ⟨g, 0, none⟩ = some a0 ∧ W.cell? ⟨g, 1, none⟩ = some a1 ∧ W.cell? ⟨g, 2, none⟩ = some a2 ∧ W.cell? ⟨g, 3, none⟩ = some a3 ∧ W.cell? ⟨g, 4, none⟩ = some a4 ∧ W.cell? ⟨g, 5, none⟩ = some a5 ∧ W.cell? ⟨g, 6, none⟩ = some a6 ∧ W.frozen? ⟨g, 0, none⟩ = false ∧ W.frozen? ⟨g, 1, none⟩ = false ∧ W.frozen? ⟨g, 2, none⟩ = false ∧ W.frozen? ⟨g, 3, none⟩ = false ∧ W.frozen? ⟨g, 4, none⟩ = false ∧ W.frozen? ⟨g, 5, none⟩ = false ∧ W.frozen? ⟨g, 6, none⟩ = false := ⟨(z0p h 0).trans rfl, (z0p h 1).trans rfl, (z0p h 2).trans rfl, (z0p h 3).trans rfl, (z0p h 4).trans rfl, (z0p h 5).trans rfl, (z0p h 6).trans rfl, z1Q h 0, z1Q h 1, z1Q h 2, z1Q h 3, z1Q h 4, z1Q h 5, z1Q h 6⟩
end Go.Proofs.YtplkoabikliagaaGreatDoorW.PrintMore
namespace Go.Proofs
open Go.Shelf
def Tryz.y1L : Go.Shelf.Ren := ⟨fun | 169 => 64 | n => n, fun | 70 => 105 | 9 => 9 | 0 => 0 | 72 => 108 | 37 => 106 | 127 => 156 | 3 => 3 | 5 => 5 | n => n, fun | n => n⟩
theorem Tryz.x2r : Go.Proofs.Lays.n169 Tryz.prog Tryz.y1L := {
 mixed := by kernel_rfl
 f169 := Tryz.func64.trans (congrArg some (by kernel_rfl))
 t0 := Tryz.underlying0
 a0 := Tryz.isAgg0
 z0 := Tryz.sizeOf0
 v0 := Tryz.zeroValue0
 t3 := Tryz.underlying3
 a3 := Tryz.isAgg3
 z3 := Tryz.sizeOf3
 v3 := Tryz.zeroValue3
 t9 := Tryz.underlying9
 a9 := Tryz.isAgg9
 z9 := Tryz.sizeOf9
 v9 := Tryz.zeroValue9
 t37 := Tryz.underlying106
 a37 := Tryz.isAgg106
 z37 := Tryz.sizeOf106
 v37 := Tryz.zeroValue106
 t70 := Tryz.underlying105
 a70 := Tryz.isAgg105
 z70 := Tryz.sizeOf105
 v70 := Tryz.zeroValue105
 t72 := Tryz.underlying108
 a72 := Tryz.isAgg108
 z72 := Tryz.sizeOf108
 v72 := Tryz.zeroValue108
 t127 := Tryz.underlying156
 a127 := Tryz.isAgg156
 z127 := Tryz.sizeOf156
 v127 := Tryz.zeroValue156 }
theorem Tryz.z6n : Builder.Extra Tryz.prog Tryz.y1L := {
 sizeBuilder := by kernel_rfl
 liesBuilder := by kernel_rfl
 t5 := Tryz.underlying5
 a5 := Tryz.isAgg5
 z5 := Tryz.sizeOf5
 v5 := Tryz.zeroValue5
 infoByte := by kernel_rfl
 cellsByte := by kernel_rfl
 sizeByte := by kernel_rfl
 neB5 := by decide }
open Go.RowKit in
theorem Tryz.Builder_String_any (B b : Nat) (l : List UInt8) (w : World) (h : Lib.IsBuilder 108 5 B b (Lib.byteCells l) w) (hBw : B ≤ w.heap.size) :
  Calls Tryz.prog 64 #[.pointer (some ⟨b, 0, none⟩)] w fun e w' => e = .returned (.string ⟨l.toArray⟩) ∧ Below B w w' := Any.Builder_String_any Tryz.x2r Tryz.z6n B b l w h hBw
def Tryz.y7R : Go.Shelf.Ren := ⟨fun | 160 => 138 | 232 => 164 | 231 => 163 | 227 => 165 | 234 => 167 | 233 => 166 | 236 => 169 | 235 => 168 | 228 => 205 | 271 => 207 | 151 => 206 | 197 => 152 | 120 => 240 | 152 => 239 | 260 => 189 | 137 => 257 | 119 => 258 | 224 => 259 | 225 => 260 | 217 => 266 | 266 => 271 | n => n, fun | 9 => 9 | 4 => 4 | 3 => 3 | 5 => 5 | 117 => 237 | 116 => 236 | 0 => 0 | 124 => 240 | 21 => 21 | 105 => 225 | 46 => 150 | 119 => 298 | 139 => 301 | 138 => 300 | n => n, fun | 3 => 1 | 4 => 2 | n => n⟩
theorem Tryz.x8w : Go.Proofs.Lays.n160 Tryz.prog Tryz.y7R := {
 mixed := by kernel_rfl
 f119 := Tryz.func258.trans (congrArg some (by kernel_rfl))
 f120 := Tryz.func240.trans (congrArg some (by kernel_rfl))
 f137 := Tryz.func257.trans (congrArg some (by kernel_rfl))
 f151 := Tryz.func206.trans (congrArg some (by kernel_rfl))
 f152 := Tryz.func239.trans (congrArg some (by kernel_rfl))
 f160 := Tryz.func138.trans (congrArg some (by kernel_rfl))
 f197 := Tryz.func152.trans (congrArg some (by kernel_rfl))
 f217 := Tryz.func266.trans (congrArg some (by kernel_rfl))
 f224 := Tryz.func259.trans (congrArg some (by kernel_rfl))
 f225 := Tryz.func260.trans (congrArg some (by kernel_rfl))
 f227 := Tryz.func165.trans (congrArg some (by kernel_rfl))
 f228 := Tryz.func205.trans (congrArg some (by kernel_rfl))
 f231 := Tryz.func163.trans (congrArg some (by kernel_rfl))
 f232 := Tryz.func164.trans (congrArg some (by kernel_rfl))
 f233 := Tryz.func166.trans (congrArg some (by kernel_rfl))
 f234 := Tryz.func167.trans (congrArg some (by kernel_rfl))
 f235 := Tryz.func168.trans (congrArg some (by kernel_rfl))
 f236 := Tryz.func169.trans (congrArg some (by kernel_rfl))
 f260 := Tryz.func189.trans (congrArg some (by kernel_rfl))
 f266 := Tryz.func271.trans (congrArg some (by kernel_rfl))
 f271 := Tryz.func207.trans (congrArg some (by kernel_rfl))
 t0 := Tryz.underlying0
 a0 := Tryz.isAgg0
 z0 := Tryz.sizeOf0
 v0 := Tryz.zeroValue0
 t3 := Tryz.underlying3
 a3 := Tryz.isAgg3
 z3 := Tryz.sizeOf3
 v3 := Tryz.zeroValue3
 t4 := Tryz.underlying4
 a4 := Tryz.isAgg4
 z4 := Tryz.sizeOf4
 v4 := Tryz.zeroValue4
 t5 := Tryz.underlying5
 a5 := Tryz.isAgg5
 z5 := Tryz.sizeOf5
 v5 := Tryz.zeroValue5
 t9 := Tryz.underlying9
 a9 := Tryz.isAgg9
 z9 := Tryz.sizeOf9
 v9 := Tryz.zeroValue9
 t21 := Tryz.underlying21
 a21 := Tryz.isAgg21
 z21 := Tryz.sizeOf21
 v21 := Tryz.zeroValue21
 t46 := Tryz.underlying150
 a46 := Tryz.isAgg150
 z46 := Tryz.sizeOf150
 v46 := Tryz.zeroValue150
 t105 := Tryz.underlying225
 a105 := Tryz.isAgg225
 z105 := Tryz.sizeOf225
 v105 := Tryz.zeroValue225
 t116 := Tryz.underlying236
 a116 := Tryz.isAgg236
 z116 := Tryz.sizeOf236
 t117 := Tryz.underlying237
 a117 := Tryz.isAgg237
 z117 := Tryz.sizeOf237
 v117 := Tryz.zeroValue237
 t119 := Tryz.underlying298
 a119 := Tryz.isAgg298
 z119 := Tryz.sizeOf298
 t124 := Tryz.underlying240
 a124 := Tryz.isAgg240
 z124 := Tryz.sizeOf240
 v124 := Tryz.zeroValue240
 t138 := Tryz.underlying300
 a138 := Tryz.isAgg300
 z138 := Tryz.sizeOf300
 v138 := Tryz.zeroValue300
 t139 := Tryz.underlying301
 a139 := Tryz.isAgg301
 z139 := Tryz.sizeOf301
 v139 := Tryz.zeroValue301
 g3 := by kernel_rfl
 g4 := by kernel_rfl }
open Go.RowKit in
theorem Tryz.Builder_String_any_f (B b : Nat) (l : List UInt8) (w : World) (h : Lib.IsBuilderF 108 5 B b (Lib.byteCells l) w) (hBw : B ≤ w.heap.size) :
  Calls Tryz.prog 64 #[.pointer (some ⟨b, 0, none⟩)] w fun e w' => e = .returned (.string ⟨l.toArray⟩) ∧ (Lib.IsBuilderF 108 5 B b (Lib.byteCells l) w' ∧ Below B w w') := Any.Builder_String_any_f Tryz.x2r Tryz.z6n B b l w h hBw
def Tryz.y6X : Go.Shelf.Ren := ⟨fun | 17 => 139 | 15 => 170 | 20 => 208 | n => n, fun | 9 => 9 | 23 => 169 | 4 => 4 | 3 => 3 | 0 => 0 | 21 => 21 | n => n, fun | n => n⟩
theorem Tryz.x6Q : Go.Proofs.LaysGw.n17 Tryz.prog Tryz.y6X := {
 mixed := by kernel_rfl
 f15 := Tryz.func170.trans (congrArg some (by kernel_rfl))
 f17 := Tryz.func139.trans (congrArg some (by kernel_rfl))
 f20 := Tryz.func208.trans (congrArg some (by kernel_rfl))
 t0 := Tryz.underlying0
 a0 := Tryz.isAgg0
 z0 := Tryz.sizeOf0
 v0 := Tryz.zeroValue0
 i0 := by kernel_rfl
 t3 := Tryz.underlying3
 a3 := Tryz.isAgg3
 z3 := Tryz.sizeOf3
 v3 := Tryz.zeroValue3
 i3 := by kernel_rfl
 t4 := Tryz.underlying4
 a4 := Tryz.isAgg4
 z4 := Tryz.sizeOf4
 v4 := Tryz.zeroValue4
 i4 := by kernel_rfl
 t9 := Tryz.underlying9
 a9 := Tryz.isAgg9
 z9 := Tryz.sizeOf9
 v9 := Tryz.zeroValue9
 i9 := by kernel_rfl
 t21 := Tryz.underlying21
 a21 := Tryz.isAgg21
 z21 := Tryz.sizeOf21
 v21 := Tryz.zeroValue21
 i21 := by kernel_rfl
 t23 := Tryz.underlying169
 a23 := Tryz.isAgg169
 z23 := Tryz.sizeOf169
 v23 := Tryz.zeroValue169
 i23 := by kernel_rfl }
open Go.RowKit Go.Lib in
theorem Tryz.strings_ContainsFunc (g : Nat) (lb : Array Value) (eg : ∀ args w, (callFunc g args).run Tryz.prog w = .ok (.enter g args) w) (p : Nat → Bool) (s : ByteArray) (w : World) (hp : PredAt Tryz.prog g lb encR p w) :
  Calls Tryz.prog 139 #[.string s, .func (.func g) #[] lb] w fun e w' => e = .returned (.bool (decide (0 ≤ Lib.idxFunc p true s))) ∧ Below w.heap.size w w' := Any.strings_ContainsFunc Tryz.x6Q g lb eg p s w hp
def Tryz.y1M : Go.Shelf.Ren := ⟨fun | 105 => 63 | 212 => 97 | 99 => 98 | 165 => 99 | 166 => 62 | 170 => 100 | 169 => 64 | 263 => 129 | 264 => 130 | 206 => 131 | 240 => 96 | 241 => 132 | 276 => 128 | 277 => 158 | n => n, fun | 9 => 9 | 3 => 3 | 4 => 4 | 20 => 20 | 0 => 0 | 46 => 150 | 109 => 151 | 5 => 5 | 72 => 108 | 76 => 112 | 51 => 52 | 146 => 201 | 53 => 203 | 148 => 204 | 70 => 105 | 37 => 106 | 75 => 111 | 127 => 156 | 164 => 199 | 80 => 115 | n => n, fun | n => n⟩
theorem Tryz.x8x : Go.Proofs.Lays.n105 Tryz.prog Tryz.y1M := {
 mixed := by kernel_rfl
 f99 := Tryz.func98.trans (congrArg some (by kernel_rfl))
 f105 := Tryz.func63.trans (congrArg some (by kernel_rfl))
 f165 := Tryz.func99.trans (congrArg some (by kernel_rfl))
 f166 := Tryz.func62.trans (congrArg some (by kernel_rfl))
 f169 := Tryz.func64.trans (congrArg some (by kernel_rfl))
 f170 := Tryz.func100.trans (congrArg some (by kernel_rfl))
 f206 := Tryz.func131.trans (congrArg some (by kernel_rfl))
 f212 := Tryz.func97.trans (congrArg some (by kernel_rfl))
 f240 := Tryz.func96.trans (congrArg some (by kernel_rfl))
 f241 := Tryz.func132.trans (congrArg some (by kernel_rfl))
 f263 := Tryz.func129.trans (congrArg some (by kernel_rfl))
 f264 := Tryz.func130.trans (congrArg some (by kernel_rfl))
 f276 := Tryz.func128.trans (congrArg some (by kernel_rfl))
 f277 := Tryz.func158.trans (congrArg some (by kernel_rfl))
 t0 := Tryz.underlying0
 a0 := Tryz.isAgg0
 z0 := Tryz.sizeOf0
 v0 := Tryz.zeroValue0
 t3 := Tryz.underlying3
 a3 := Tryz.isAgg3
 z3 := Tryz.sizeOf3
 v3 := Tryz.zeroValue3
 t4 := Tryz.underlying4
 a4 := Tryz.isAgg4
 z4 := Tryz.sizeOf4
 v4 := Tryz.zeroValue4
 t5 := Tryz.underlying5
 a5 := Tryz.isAgg5
 z5 := Tryz.sizeOf5
 v5 := Tryz.zeroValue5
 t9 := Tryz.underlying9
 a9 := Tryz.isAgg9
 z9 := Tryz.sizeOf9
 v9 := Tryz.zeroValue9
 t20 := Tryz.underlying20
 a20 := Tryz.isAgg20
 z20 := Tryz.sizeOf20
 v20 := Tryz.zeroValue20
 t37 := Tryz.underlying106
 a37 := Tryz.isAgg106
 z37 := Tryz.sizeOf106
 v37 := Tryz.zeroValue106
 t46 := Tryz.underlying150
 a46 := Tryz.isAgg150
 z46 := Tryz.sizeOf150
 v46 := Tryz.zeroValue150
 t51 := Tryz.underlying52
 a51 := Tryz.isAgg52
 z51 := Tryz.sizeOf52
 v51 := Tryz.zeroValue52
 t53 := Tryz.underlying203
 a53 := Tryz.isAgg203
 z53 := Tryz.sizeOf203
 v53 := Tryz.zeroValue203
 t70 := Tryz.underlying105
 a70 := Tryz.isAgg105
 z70 := Tryz.sizeOf105
 v70 := Tryz.zeroValue105
 t72 := Tryz.underlying108
 a72 := Tryz.isAgg108
 z72 := Tryz.sizeOf108
 v72 := Tryz.zeroValue108
 t75 := Tryz.underlying111
 a75 := Tryz.isAgg111
 z75 := Tryz.sizeOf111
 v75 := Tryz.zeroValue111
 t76 := Tryz.underlying112
 a76 := Tryz.isAgg112
 z76 := Tryz.sizeOf112
 v76 := Tryz.zeroValue112
 t109 := Tryz.underlying151
 a109 := Tryz.isAgg151
 z109 := Tryz.sizeOf151
 v109 := Tryz.zeroValue151
 t127 := Tryz.underlying156
 a127 := Tryz.isAgg156
 z127 := Tryz.sizeOf156
 v127 := Tryz.zeroValue156
 t146 := Tryz.underlying201
 a146 := Tryz.isAgg201
 z146 := Tryz.sizeOf201
 v146 := Tryz.zeroValue201
 t148 := Tryz.underlying204
 a148 := Tryz.isAgg204
 z148 := Tryz.sizeOf204
 v148 := Tryz.zeroValue204
 t164 := Tryz.underlying199
 a164 := Tryz.isAgg199
 z164 := Tryz.sizeOf199
 v164 := Tryz.zeroValue199 }
theorem Tryz.y0s : Builder.Extra Tryz.prog Tryz.y1M := {
 sizeBuilder := by kernel_rfl
 liesBuilder := by kernel_rfl
 t5 := Tryz.underlying5
 a5 := Tryz.isAgg5
 z5 := Tryz.sizeOf5
 v5 := Tryz.zeroValue5
 infoByte := by kernel_rfl
 cellsByte := by kernel_rfl
 sizeByte := by kernel_rfl
 neB5 := by decide }
open Go.RowKit Go.Lib in
theorem Tryz.strings_Repeat (s : ByteArray) (c : Nat) (w : World) (hc : c ≤ 9223372036854775807) (hlen : s.size * c ≤ 140737488355328) :
  Calls Tryz.prog 63 #[.string s, .int .i64 c] w fun e w' => e = .returned (.string ⟨(Lib.repeatL s.data.toList c).toArray⟩) ∧ Below w.heap.size w w' := Any.strings_Repeat Tryz.x8x Tryz.y0s s c w hc hlen
end Go.Proofs
namespace Go.Proofs.YtplkoabikliagaaGreatDoor.K
open Go.RowKit Go.Proofs.YtplkoabikliagaaGreatDoorW.PrintWords Go.Proofs.YtplkoabikliagaaGreatDoorW.PrintLast Go.Proofs.YtplkoabikliagaaGreatDoorW.PrintMore
def z2I.f (a0 : ByteArray) (a1 : ByteArray) : Option (ByteArray) :=
 if a0.size ≤ 4096 ∧ a1.size ≤ 4096 ∧ a1.data.toList.all (fun b => decide (b.toNat < 128)) = true then
  some ⟨(Lib.trimS a0.data.toList a1.data.toList).toArray⟩
 else none
theorem z2I.calls (a0 : ByteArray) (a1 : ByteArray) (r : ByteArray) (w : World) (h : z2I.f a0 a1 = some r) :
  Calls Tryz.prog 138 #[.string a0, .string a1] w fun e w' => e = .returned (.string r) ∧ Below w.heap.size w w' := by
 unfold z2I.f at h
 by_cases hc : a0.size ≤ 4096 ∧ a1.size ≤ 4096 ∧ a1.data.toList.all (fun b => decide (b.toNat < 128)) = true
 ·rw [if_pos hc] at h
  obtain rfl := Option.some.inj h
  exact Any.strings_Trim_laid Tryz.x8w (by kernel_rfl) a0 a1 w (by omega) (by omega) (ascii_of_all hc.2.2)
 ·rw [if_neg hc] at h
  cases h
end Go.Proofs.YtplkoabikliagaaGreatDoor.K
namespace Go.Proofs.YtplkoabikliagaaGreatDoor.K
open Go.RowKit Go.Proofs.YtplkoabikliagaaGreatDoorW.PrintWords Go.Proofs.YtplkoabikliagaaGreatDoorW.PrintLast Go.Proofs.YtplkoabikliagaaGreatDoorW.PrintMore
attribute [local go_sem] z1o z1p z1B z1C z1b z1c z1q z1r
set_option linter.unusedVariables false
set_option linter.unusedSimpArgs false
def z2S.f (a0 : ByteArray) : Option (Bool) := if (a0.size : Int) ≤ 32 then ((z2I.f a0 (⟨#[97, 98, 99, 100, 101, 102, 103, 104, 105, 106, 107, 108, 109, 110, 111, 112, 113, 114, 115, 116, 117, 118, 119, 120, 121, 122, 48, 49, 50, 51, 52, 53, 54, 55, 56, 57, 45]⟩ : ByteArray)).bind fun t104 => (some (t104.toList == ([] : List UInt8)))) else (some false)
set_option maxHeartbeats 8000000 in
set_option maxRecDepth 100000 in
theorem z2S.calls (a0 : ByteArray) (r : Bool) (w : World) (h : z2S.f a0 = some r) :
  Calls Tryz.prog 141 #[.string a0] w fun e w' => e = .returned (.bool r) ∧ Below w.heap.size w w' := by
 have HB := z0a.mk (Below.refl w.heap.size w)
 have H : (if (a0.size : Int) ≤ 32 then ((z2I.f a0 (⟨#[97, 98, 99, 100, 101, 102, 103, 104, 105, 106, 107, 108, 109, 110, 111, 112, 113, 114, 115, 116, 117, 118, 119, 120, 121, 122, 48, 49, 50, 51, 52, 53, 54, 55, 56, 57, 45]⟩ : ByteArray)).bind fun t104 => (some (t104.toList == ([] : List UInt8)))) else (some false)) = some r := h
 clear h
 by_cases c2 : (a0.size : Int) ≤ 32
 rotate_left
 ·rw [if_neg c2] at H
  have c2b0 : decide ((a0.size : Int) ≤ 32) = false := decide_eq_false c2
  have c2b1 : decide (a0.size ≤ 32) = false := decide_eq_false (by omega)
  clear c2
  obtain rfl := Option.some.inj H
  go_enter Tryz.func141, Tryz.ntmps141
  go_wp2
  go_ret
  exact ⟨zr, zb⟩
 rw [if_pos c2] at H
 have c2b0 : decide ((a0.size : Int) ≤ 32) = true := decide_eq_true c2
 have c2b1 : decide (a0.size ≤ 32) = true := decide_eq_true (by omega)
 clear c2
 replace H := Option.bind_eq_some_iff.mp H
 obtain ⟨t104, A30, H⟩ := H
 replace H : (some (t104.toList == ([] : List UInt8))) = some r := H
 have A3 := z0a.mk A30
 clear A30
 obtain rfl := Option.some.inj H
 go_enter Tryz.func141, Tryz.ntmps141
 go_wp2_with (first | (go_at_call 138; (with_reducible refine (z2I.calls a0 (⟨#[97, 98, 99, 100, 101, 102, 103, 104, 105, 106, 107, 108, 109, 110, 111, 112, 113, 114, 115, 116, 117, 118, 119, 120, 121, 122, 48, 49, 50, 51, 52, 53, 54, 55, 56, 57, 45]⟩ : ByteArray) t104 _ A3.out).mono ?_); rintro e w4 ⟨rfl, hb⟩; replace HB := zB HB hb; (try clear hb)))
 go_ret
 exact ⟨zr, zb⟩
def z2u.f (a0 : ByteArray) : Option (Bool) := if a0.toList = ([] : List UInt8) then (some false) else (if (a0.size : Int) ≤ 32 then ((z2I.f a0 (⟨#[97, 98, 99, 100, 101, 102, 103, 104, 105, 106, 107, 108, 109, 110, 111, 112, 113, 114, 115, 116, 117, 118, 119, 120, 121, 122]⟩ : ByteArray)).bind fun t102 => (some (t102.toList == ([] : List UInt8)))) else (some false))
set_option maxHeartbeats 8000000 in
set_option maxRecDepth 100000 in
theorem z2u.calls (a0 : ByteArray) (r : Bool) (w : World) (h : z2u.f a0 = some r) :
  Calls Tryz.prog 110 #[.string a0] w fun e w' => e = .returned (.bool r) ∧ Below w.heap.size w w' := by
 have HB := z0a.mk (Below.refl w.heap.size w)
 have H : (if a0.toList = ([] : List UInt8) then (some false) else (if (a0.size : Int) ≤ 32 then ((z2I.f a0 (⟨#[97, 98, 99, 100, 101, 102, 103, 104, 105, 106, 107, 108, 109, 110, 111, 112, 113, 114, 115, 116, 117, 118, 119, 120, 121, 122]⟩ : ByteArray)).bind fun t102 => (some (t102.toList == ([] : List UInt8)))) else (some false))) = some r := h
 clear h
 by_cases c2 : a0.toList = ([] : List UInt8)
 ·rw [if_pos c2] at H
  have c2b0 : (a0.toList == ([] : List UInt8)) = true := beq_iff_eq.mpr c2
  have c2b1 : (a0.toList != ([] : List UInt8)) = false := bne_eq_false_iff_eq.mpr c2
  clear c2
  obtain rfl := Option.some.inj H
  go_enter Tryz.func110, Tryz.ntmps110
  go_wp2
  go_ret
  exact ⟨zr, zb⟩
 rw [if_neg c2] at H
 have c2b0 : (a0.toList == ([] : List UInt8)) = false := beq_eq_false_iff_ne.mpr c2
 have c2b1 : (a0.toList != ([] : List UInt8)) = true := bne_iff_ne.mpr c2
 by_cases c3 : (a0.size : Int) ≤ 32
 rotate_left
 ·rw [if_neg c3] at H
  have c3b0 : decide ((a0.size : Int) ≤ 32) = false := decide_eq_false c3
  have c3b1 : decide (a0.size ≤ 32) = false := decide_eq_false (by omega)
  clear c3
  obtain rfl := Option.some.inj H
  go_enter Tryz.func110, Tryz.ntmps110
  go_wp2
  go_ret
  exact ⟨zr, zb⟩
 rw [if_pos c3] at H
 have c3b0 : decide ((a0.size : Int) ≤ 32) = true := decide_eq_true c3
 have c3b1 : decide (a0.size ≤ 32) = true := decide_eq_true (by omega)
 clear c3
 replace H := Option.bind_eq_some_iff.mp H
 obtain ⟨t102, A40, H⟩ := H
 replace H : (some (t102.toList == ([] : List UInt8))) = some r := H
 have A4 := z0a.mk A40
 clear A40
 obtain rfl := Option.some.inj H
 go_enter Tryz.func110, Tryz.ntmps110
 go_wp2_with (first | (go_at_call 138; (with_reducible refine (z2I.calls a0 (⟨#[97, 98, 99, 100, 101, 102, 103, 104, 105, 106, 107, 108, 109, 110, 111, 112, 113, 114, 115, 116, 117, 118, 119, 120, 121, 122]⟩ : ByteArray) t102 _ A4.out).mono ?_); rintro e w5 ⟨rfl, hb⟩; replace HB := zB HB hb; (try clear hb)))
 go_ret
 exact ⟨zr, zb⟩
mutual
def z0B.j0 : Nat → Int → Bool → Option (Bool)
 | 0, _, _ => none
 | k + 1, x0, x3 => if x3 = true then (z0B.j1 k x0 x3) else (if 65 ≤ x0 then (z0B.j1 k x0 (decide (x0 ≤ 90))) else (z0B.j1 k x0 false))
def z0B.j1 : Nat → Int → Bool → Option (Bool)
 | 0, _, _ => none
 | k + 1, x0, x3 => if x3 = true then (some true) else (if x0 < 161 then (some false) else (if x0 > 1114111 then (some false) else (if x0 = 65533 then (some false) else (if (x0 / 2048) = 27 then (some false) else (some true)))))
end
def z0B.f (k : Nat) (a0 : Int) : Option (Bool) := if 97 ≤ a0 then (z0B.j0 k a0 (decide (a0 ≤ 122))) else (z0B.j0 k a0 false)
theorem z0B.z1t : ∀ k, (∀ y0 y1, LeO (z0B.j0 k y0 y1) (z0B.j0 (k + 1) y0 y1)) ∧ (∀ y0 y1, LeO (z0B.j1 k y0 y1) (z0B.j1 (k + 1) y0 y1))
 | 0 => ⟨fun _ _ r h => by simp [z0B.j0] at h, fun _ _ r h => by simp [z0B.j1] at h⟩
 | k + 1 => by
  obtain ⟨ih0, ih1⟩ := z0B.z1t k
  refine ⟨?_, ?_⟩
  ·intro y0 y1
   unfold z0B.j0
   repeat' first
   | (with_reducible exact ih0 _ _)
   | (with_reducible exact ih1 _ _)
   | (with_reducible exact LeO.refl _)
   | (with_reducible exact LeO.none _)
   | (with_reducible refine LeO.ite ?_ ?_)
   | (with_reducible refine LeO.bind ?_ (fun _ => ?_))
  ·intro y0 y1
   unfold z0B.j1
   repeat' first
   | (with_reducible exact ih0 _ _)
   | (with_reducible exact ih1 _ _)
   | (with_reducible exact LeO.refl _)
   | (with_reducible exact LeO.none _)
   | (with_reducible refine LeO.ite ?_ ?_)
   | (with_reducible refine LeO.bind ?_ (fun _ => ?_))
theorem z0B.mono : ∀ a0 k, LeO (z0B.f k a0) (z0B.f (k + 1) a0) := by
 intro a0 k
 obtain ⟨ih0, ih1⟩ := z0B.z1t k
 unfold z0B.f
 repeat' first
   | (with_reducible exact ih0 _ _)
   | (with_reducible exact ih1 _ _)
   | (with_reducible exact LeO.refl _)
   | (with_reducible exact LeO.none _)
   | (with_reducible refine LeO.ite ?_ ?_)
   | (with_reducible refine LeO.bind ?_ (fun _ => ?_))
set_option maxHeartbeats 8000000 in
set_option maxRecDepth 100000 in
theorem z0B.calls (k : Nat) (a0 : Int) (r : Bool) (w : World) (h : z0B.f k a0 = some r) :
  Calls Tryz.prog 111 #[.int .i32 a0] w fun e w' => e = .returned (.bool r) ∧ z1v w w' := by
 have H : (if 97 ≤ a0 then (z0B.j0 k a0 (decide (a0 ≤ 122))) else (z0B.j0 k a0 false)) = some r := h
 clear h
 have HC2 := z0a.mk H
 clear H
 go_enter Tryz.func111, Tryz.ntmps111
 go_upto_region 1 with (fail)
 go_cut [3] (fun v3 wc => ∃ (kq : Nat) (x3_1 : Bool), v3 = .bool x3_1 ∧ z0a (z0B.j0 kq a0 x3_1 = some r) ∧ z0a (kq ≤ k) ∧ z1v w wc)
 case first =>
  have H := HC2.out
  clear HC2
  by_cases c3 : 97 ≤ a0
  rotate_left
  ·rw [if_neg c3] at H
   have c3b0 : decide (97 ≤ a0) = false := decide_eq_false c3
   clear c3
   (first | rw [c3b0] | (simp only [z0V, z0W]; rw [c3b0]) | skip)
   have H' := z0a.mk H
   clear H
   go_wp2
   go_meet
   case rel => exact ⟨_, (false), ze, H', ⟨zl⟩, by repeat (first | exact z1v.refl _ | apply z1v.step)⟩
  rw [if_pos c3] at H
  have c3b0 : decide (97 ≤ a0) = true := decide_eq_true c3
  clear c3
  (first | rw [c3b0] | (simp only [z0V, z0W]; rw [c3b0]) | skip)
  have H' := z0a.mk H
  clear H
  go_wp2
  go_meet
  case rel => exact ⟨_, (decide (a0 ≤ 122)), ze, H', ⟨zl⟩, by repeat (first | exact z1v.refl _ | apply z1v.step)⟩
 case rest =>
  clear HC2
  obtain ⟨kq, x3_1, rfl, HA, HJ1, ⟨mc1, rfl⟩⟩ := hcut
  cases kq with
  | zero => exact absurd HA.out (by simp [z0B.j0])
  | succ kj1 =>
   have H := HA.out
   clear HA
   simp only [z0B.j0] at H
   have HC4 := z0a.mk H
   clear H
   go_upto_if 3 with (fail)
   go_cut [3] (fun v3 wc => ∃ (kq : Nat) (x3_3 : Bool), v3 = .bool x3_3 ∧ z0a (z0B.j1 kq a0 x3_3 = some r) ∧ z0a (kq ≤ kj1) ∧ z1v w wc)
   case first =>
    have H := HC4.out
    clear HC4
    by_cases c5 : x3_1 = true
    ·subst c5
     have H1 : (z0B.j1 kj1 a0 true) = some r := by rw [if_pos rfl] at H; exact H
     clear H
     have H := H1
     clear H1
     have H' := z0a.mk H
     clear H
     go_wp2
     go_meet
     case rel => exact ⟨_, (true), ze, H', ⟨by have := HJ1.out; first | omega | exact Nat.le_refl _⟩, by repeat (first | exact z1v.refl _ | apply z1v.step)⟩
    replace c5 := Bool.eq_false_iff.mpr c5
    subst c5
    have H1 : (if 65 ≤ a0 then (z0B.j1 kj1 a0 (decide (a0 ≤ 90))) else (z0B.j1 kj1 a0 false)) = some r := by rw [if_neg (show ¬ (false = true) by decide)] at H; exact H
    clear H
    have H := H1
    clear H1
    by_cases c6 : 65 ≤ a0
    rotate_left
    ·rw [if_neg c6] at H
     have c6b0 : decide (65 ≤ a0) = false := decide_eq_false c6
     clear c6
     (first | rw [c6b0] | (simp only [z0V, z0W]; rw [c6b0]) | skip)
     have H' := z0a.mk H
     clear H
     go_wp2
     go_meet
     case rel => exact ⟨_, (false), ze, H', ⟨by have := HJ1.out; first | omega | exact Nat.le_refl _⟩, by repeat (first | exact z1v.refl _ | apply z1v.step)⟩
    rw [if_pos c6] at H
    have c6b0 : decide (65 ≤ a0) = true := decide_eq_true c6
    clear c6
    (first | rw [c6b0] | (simp only [z0V, z0W]; rw [c6b0]) | skip)
    have H' := z0a.mk H
    clear H
    go_wp2
    go_meet
    case rel => exact ⟨_, (decide (a0 ≤ 90)), ze, H', ⟨by have := HJ1.out; first | omega | exact Nat.le_refl _⟩, by repeat (first | exact z1v.refl _ | apply z1v.step)⟩
   case rest =>
    clear HC4
    obtain ⟨kq, x3_3, rfl, HA, HJ3, ⟨mc3, rfl⟩⟩ := hcut
    cases kq with
    | zero => exact absurd HA.out (by simp [z0B.j1])
    | succ kj3 =>
     have H := HA.out
     clear HA
     simp only [z0B.j1] at H
     by_cases c7 : x3_3 = true
     ·subst c7
      have H1 : (some true) = some r := by rw [if_pos rfl] at H; exact H
      clear H
      have H := H1
      clear H1
      obtain rfl := Option.some.inj H
      go_wp2
      go_ret
      exact ⟨ze, zd⟩
     replace c7 := Bool.eq_false_iff.mpr c7
     subst c7
     have H1 : (if a0 < 161 then (some false) else (if a0 > 1114111 then (some false) else (if a0 = 65533 then (some false) else (if (a0 / 2048) = 27 then (some false) else (some true))))) = some r := by rw [if_neg (show ¬ (false = true) by decide)] at H; exact H
     clear H
     have H := H1
     clear H1
     by_cases c8 : a0 < 161
     ·rw [if_pos c8] at H
      have c8b0 : decide (a0 < 161) = true := decide_eq_true c8
      clear c8
      obtain rfl := Option.some.inj H
      go_wp2
      go_ret
      exact ⟨ze, zd⟩
     rw [if_neg c8] at H
     have c8b0 : decide (a0 < 161) = false := decide_eq_false c8
     clear c8
     by_cases c9 : a0 > 1114111
     ·rw [if_pos c9] at H
      have c9b0 : decide (1114111 < a0) = true := decide_eq_true c9
      clear c9
      obtain rfl := Option.some.inj H
      go_wp2
      go_ret
      exact ⟨ze, zd⟩
     rw [if_neg c9] at H
     have c9b0 : decide (1114111 < a0) = false := decide_eq_false c9
     clear c9
     by_cases c10 : a0 = 65533
     ·rw [if_pos c10] at H
      have c10b0 : (a0 == 65533) = true := beq_iff_eq.mpr c10
      have c10b1 : (a0 != 65533) = false := bne_eq_false_iff_eq.mpr c10
      clear c10
      obtain rfl := Option.some.inj H
      go_wp2
      go_ret
      exact ⟨ze, zd⟩
     rw [if_neg c10] at H
     have c10b0 : (a0 == 65533) = false := beq_eq_false_iff_ne.mpr c10
     have c10b1 : (a0 != 65533) = true := bne_iff_ne.mpr c10
     by_cases c11 : (a0 / 2048) = 27
     rotate_left
     ·rw [if_neg c11] at H
      have c11b0 : ((a0 / 2048) == 27) = false := beq_eq_false_iff_ne.mpr c11
      have c11b1 : ((a0 / 2048) != 27) = true := bne_iff_ne.mpr c11
      obtain rfl := Option.some.inj H
      go_wp2
      go_ret
      exact ⟨ze, zd⟩
     rw [if_pos c11] at H
     have c11b0 : ((a0 / 2048) == 27) = true := beq_iff_eq.mpr c11
     have c11b1 : ((a0 / 2048) != 27) = false := bne_eq_false_iff_eq.mpr c11
     clear c11
     obtain rfl := Option.some.inj H
     go_wp2
     go_ret
     exact ⟨ze, zd⟩
def z2d.f (l0_0 : List ByteArray) (l0_1 : List (z1J)) (a1 : Int) (a2 : Int) : Option (Bool) := if (shr .u32 (Go.bits .or .u32 a1 a2) (l0_0.length : Int)) = 0 then (some ((Go.bits .and .u32 a1 a2) == 0)) else (some false)
set_option maxHeartbeats 8000000 in
set_option maxRecDepth 100000 in
theorem z2d.calls (z0U : Option Addr) (c0_0 : Nat) (l0_0 : List ByteArray) (z0X : Option Addr) (c0_1 : Nat) (l0_1 : List (z1J)) (a1 : Int) (a2 : Int) (r : Bool) (w : World) (hr0_0 : Kd.C Kd.string w z0U l0_0.length l0_0) (hc0_0 : l0_0.length ≤ c0_0) (hr0_1 : Kd.C z5a w z0X l0_1.length l0_1) (hc0_1 : l0_1.length ≤ c0_1) (h : z2d.f l0_0 l0_1 a1 a2 = some r) :
  Calls Tryz.prog 112 #[.agg #[.slice z0U l0_0.length c0_0, .slice z0X l0_1.length c0_1], .int .u32 a1, .int .u32 a2] w fun e w' => e = .returned (.bool r) ∧ Below w.heap.size w w' := by
 have hu25 := Tryz.underlying25
 have z2g := z0a.mk hr0_0
 have z1g := z0a.mk hc0_0
 clear hr0_0 hc0_0
 have z2x := z0a.mk hr0_1
 have z1j := z0a.mk hc0_1
 clear hr0_1 hc0_1
 have HB := z0a.mk (Below.refl w.heap.size w)
 have H : (if (shr .u32 (Go.bits .or .u32 a1 a2) (l0_0.length : Int)) = 0 then (some ((Go.bits .and .u32 a1 a2) == 0)) else (some false)) = some r := h
 clear h
 obtain ⟨ji4, hji4⟩ : ∃ j_ : Int, (shr .u32 (Go.bits .or .u32 a1 a2) (l0_0.length : Int)) = j_ := ⟨_, rfl⟩
 replace H : (if (ji4) = 0 then (some ((Go.bits .and .u32 a1 a2) == 0)) else (some false)) = some r := by first | (rw [hji4] at H; exact H) | (simp only [hji4] at H ⊢; exact H)
 have hji4_ : ((Go.bits .or .u32 a1 a2) / 2 ^ min (l0_0.length : Int).toNat 32) = ji4 := hji4
 have hji4z : (l0_0.length : Int) ≤ 32 → ((Go.bits .or .u32 a1 a2) / 2 ^ (l0_0.length : Int).toNat) = ji4 := x2c hji4
 have hji4p : ((Go.bits .or .u32 a1 a2) / 2 ^ min l0_0.length 32) = ji4 := hji4_
 have hji4q : (l0_0.length : Int) ≤ 32 → ((Go.bits .or .u32 a1 a2) / 2 ^ l0_0.length) = ji4 := hji4z
 by_cases c5 : (ji4) = 0
 rotate_left
 ·rw [if_neg c5] at H
  have c5b0 : ((ji4) == 0) = false := beq_eq_false_iff_ne.mpr c5
  have c5b1 : ((ji4) != 0) = true := bne_iff_ne.mpr c5
  obtain rfl := Option.some.inj H
  go_enter Tryz.func112, Tryz.ntmps112
  go_wp2_with (first | ((with_reducible refine z0o (N := 3) rfl ?_); refine zo (cs := #[.slice z0U l0_0.length c0_0, .slice z0X l0_1.length c0_1]) (t := 25) ?_; intro gb103 hg w8 hbox hb; have x8y := z0a.mk hbox; have GW103 := zG HB hg; have x8z := zG HB hg; replace HB := zB HB hb; clear hb hbox hg; obtain ⟨z5l, z5m, z5n, z5o⟩ := zc2 w8 x8y.out))
  go_ret
  exact ⟨by first | rfl | (simp [z3J, z3K] <;> rfl) | (simp only [← hji4]; first | rfl | (simp [z3J, z3K] <;> rfl)) | (simp [*, z3J, z3K] <;> rfl), by repeat (first | (with_reducible first | exact HB.out | apply z1w | apply z1d | apply z1l | refine z1X ?_ x8z.out) | exact HB.out)⟩
 rw [if_pos c5] at H
 have c5b0 : ((ji4) == 0) = true := beq_iff_eq.mpr c5
 have c5b1 : ((ji4) != 0) = false := bne_eq_false_iff_eq.mpr c5
 clear c5
 obtain rfl := Option.some.inj H
 go_enter Tryz.func112, Tryz.ntmps112
 go_wp2_with (first | ((with_reducible refine z0o (N := 3) rfl ?_); refine zo (cs := #[.slice z0U l0_0.length c0_0, .slice z0X l0_1.length c0_1]) (t := 25) ?_; intro gb103 hg w6 hbox hb; have x8y := z0a.mk hbox; have GW103 := zG HB hg; have x8z := zG HB hg; replace HB := zB HB hb; clear hb hbox hg; obtain ⟨z4b, z4c, z4d, z4e⟩ := zc2 w6 x8y.out))
 go_ret
 exact ⟨by first | rfl | (simp [z3J, z3K] <;> rfl) | (simp only [← hji4]; first | rfl | (simp [z3J, z3K] <;> rfl)) | (simp [*, z3J, z3K] <;> rfl), by repeat (first | (with_reducible first | exact HB.out | apply z1w | apply z1d | apply z1l | refine z1X ?_ x8z.out) | exact HB.out)⟩
end Go.Proofs.YtplkoabikliagaaGreatDoor.K
namespace Go.Proofs.YtplkoabikliagaaGreatDoor.K
open Go.RowKit Go.Proofs.YtplkoabikliagaaGreatDoorW.PrintWords Go.Proofs.YtplkoabikliagaaGreatDoorW.PrintLast Go.Proofs.YtplkoabikliagaaGreatDoorW.PrintMore
open Go.Proofs.YtplkoabikliagaaGreatDoor.L
def z3i : List ByteArray → List ByteArray → Option Bool
 | _, [] => some true
 | seen, f :: r => (z2u.f f).bind fun b => if b = true then (if y1a seen f = true then some false else z3i (seen ++ [f]) r) else some false
def z2N (fs : List ByteArray) (all : List z1J) : List Int → List z1J → Option Bool
 | _, [] => some true
 | seen, x :: r => (z0B.f 3 x.f0).bind fun b => if b = true then (if y1a seen x.f0 = true then some false else (z2d.f fs all x.f1 x.f2).bind fun c => if c = true then z2N fs all (seen ++ [x.f0]) r else some false) else some false
def z0T.f (l0_0 : List ByteArray) (l0_1 : List z1J) : Option (Int) :=
 if l0_0.length > 24 then some 7 else if l0_1.length < 1 then some 7 else if l0_1.length > 128 then some 7 else
  (z3i [] l0_0).bind fun b => if b = true then (z2N l0_0 l0_1 [] l0_1).bind fun c => if c = true then some 0 else some 7 else some 7
theorem y0a (w : World) : (zeroValue 4).run Tryz.prog w = .ok (.bool false) w := by kernel_rfl
theorem kstr : x6u Tryz.prog 9 Value.string := y4y Tryz.underlying9
theorem krune : x6u Tryz.prog 21 (Value.int .i32) := x8v .i32 Tryz.underlying21
set_option maxHeartbeats 8000000 in
set_option maxRecDepth 100000 in
theorem z0T.calls (z0U : Option Addr) (c0_0 : Nat) (l0_0 : List ByteArray) (z0X : Option Addr) (c0_1 : Nat) (l0_1 : List z1J) (r : Int) (w : World) (hr0_0 : Kd.C Kd.string w z0U l0_0.length l0_0) (hc0_0 : l0_0.length ≤ c0_0) (hr0_1 : Kd.C z5a w z0X l0_1.length l0_1) (hc0_1 : l0_1.length ≤ c0_1) (h : z0T.f l0_0 l0_1 = some r) :
  Calls Tryz.prog 78 #[.agg #[.slice z0U l0_0.length c0_0, .slice z0X l0_1.length c0_1]] w fun e w' => e = .returned (.int .i64 r) ∧ Below w.heap.size w w' := by
 have HR0 := z0a.mk hr0_0
 have HR1 := z0a.mk hr0_1
 clear hr0_0 hr0_1
 have hu25 := Tryz.underlying25
 unfold z0T.f at h
 by_cases h1 : l0_0.length > 24
 ·rw [if_pos h1] at h
  obtain rfl := Option.some.inj h
  have hd : decide (24 < l0_0.length) = true := decide_eq_true h1
  go_enter Tryz.func78, Tryz.ntmps78
  go_wp2
  go_ret
  exact ⟨rfl, (Below.refl _ _).alloc (Nat.le_refl _) _⟩
 rw [if_neg h1] at h
 have hd1 : decide (24 < l0_0.length) = false := decide_eq_false h1
 by_cases h2 : l0_1.length < 1
 ·rw [if_pos h2] at h
  obtain rfl := Option.some.inj h
  have hd : decide (l0_1.length < 1) = true := decide_eq_true h2
  go_enter Tryz.func78, Tryz.ntmps78
  go_wp2
  go_ret
  exact ⟨rfl, (Below.refl _ _).alloc (Nat.le_refl _) _⟩
 rw [if_neg h2] at h
 have hd2 : decide (l0_1.length < 1) = false := decide_eq_false h2
 by_cases h3 : l0_1.length > 128
 ·rw [if_pos h3] at h
  obtain rfl := Option.some.inj h
  have hd : decide (128 < l0_1.length) = true := decide_eq_true h3
  go_enter Tryz.func78, Tryz.ntmps78
  go_wp2
  go_ret
  exact ⟨rfl, (Below.refl _ _).alloc (Nat.le_refl _) _⟩
 rw [if_neg h3] at h
 have hd3 : decide (128 < l0_1.length) = false := decide_eq_false h3
 have H := z0a.mk h
 clear h
 have hmm := @run_makeMap Tryz.prog
 have hn1 : l0_0.length ≤ 24 := by omega
 have hn2 : l0_1.length ≤ 128 := by omega
 have hn3 : 1 ≤ l0_1.length := by omega
 clear hd1 hd2 hd3 h1 h2 h3
 obtain ⟨b, hb⟩ : ∃ b, z3i [] l0_0 = some b := by
  have h' := H.out
  cases hb : z3i [] l0_0 with
  | none => rw [hb] at h'; simp at h'
  | some b => exact ⟨b, rfl⟩
 have HN := z0a.mk hb
 clear hb
 have HR7 := z0a.mk (show b = false → r = 7 from by
  intro hb'
  have h' := H.out
  rw [HN.out, hb'] at h'
  simp at h'
  exact h'.symm)
 go_enter Tryz.func78, Tryz.ntmps78
 go_wp2
 go_loopw [29] (fun i wr => ∃ k : Nat, ∃ seen : List ByteArray, k ≤ l0_0.length ∧ i = .int .i64 k ∧ z0a (z9c Value.string Value.bool wr (w.heap.size + 1) (setOf true seen)) ∧ z0a (Below (w.heap.size + 1) (w.alloc (.cells #[.slice z0U l0_0.length c0_0, .slice z0X l0_1.length c0_1] 25)) wr) ∧ z0a (z3i seen (l0_0.drop k) = some b)) (fun i _ => l0_0.length - (intOf i).toNat)
 case atStart =>
  refine ⟨0, [], Nat.zero_le _, rfl, ⟨?_⟩, ⟨?_⟩, ⟨by simpa using HN.out⟩⟩
  ·have := z9c.made Value.string Value.bool (w.alloc (.cells #[.slice z0U l0_0.length c0_0, .slice z0X l0_1.length c0_1] 25))
   simpa [setOf] using this
  ·exact (Below.refl _ _).alloc (by simp) _
 case round =>
  obtain ⟨k, seen, hk, rfl, HM, HBW, HF⟩ := hrel
  have hbw := HBW.out
  have hbox : wr.cell? ⟨w.heap.size, 0, none⟩ = some (.slice z0U l0_0.length c0_0) := by
   rw [hbw.cell (by simp)]; simp
  have hbox1 : wr.cell? ⟨w.heap.size, 1, none⟩ = some (.slice z0X l0_1.length c0_1) := by
   rw [hbw.cell (by simp)]; simp
  have hb0 : Below w.heap.size w wr := (Below.refl w.heap.size w).alloc (Nat.le_refl _) _ |>.trans (hbw.mono (by omega))
  have hsz : w.heap.size + 1 ≤ wr.heap.size := by have := hbw.size; simpa using this
  by_cases hlt : k < l0_0.length
  ·obtain ⟨ad, hA, hcell⟩ := Kd.z7V (Kd.z0t HR0.out hb0) (k : Int) (by omega) (by omega)
   subst hA
   rw [Int.toNat_natCast] at hcell
   obtain ⟨s, hs⟩ : ∃ s, s = z7Q ByteArray.empty l0_0 (k : Int) := ⟨_, rfl⟩
   rw [← hs] at hcell
   have hcons : l0_0.drop k = s :: l0_0.drop (k + 1) := by
    rw [hs, List.drop_eq_getElem_cons hlt]
    simp [z7Q, List.getD_eq_getElem?_getD, hlt]
   have hF := HF.out
   rw [hcons] at hF
   unfold z3i at hF
   clear HF hs hcons
   have HB := z0a.mk hbw
   have HB0 := z0a.mk hb0
   clear hbw HBW hb0
   cases hfn : z2u.f s with
   | none => rw [hfn] at hF; simp at hF
   | some q =>
    rw [hfn] at hF
    have HFN := z0a.mk hfn
    clear hfn
    have HF2 := z0a.mk hF
    clear hF
    cases q with
    | false =>
     go_wp2_with (go_at_call 110; refine (z2u.calls s false _ HFN.out).mono ?_; rintro e w1 ⟨rfl, hb1⟩; have HB1 := z0a.mk hb1; clear hb1)
     go_ret
     have hq : b = false := by have := HF2.out; simp at this; exact this
     refine ⟨by rw [HR7.out hq]; rfl, HB0.out.trans (HB1.out.mono (by omega))⟩
    | true =>
     go_wp2_with (first | (go_at_call 110; refine (z2u.calls s true _ HFN.out).mono ?_; rintro e w1 ⟨rfl, hb1⟩; have HB1 := z0a.mk hb1; clear hb1) | (at_lookup; refine z5b kstr Tryz.underlying167 false (y0a _) (HM.out.below HB1.out) s rfl _ _ false rfl rfl rfl ?_) | (at_mapUpdate; refine y5d kstr Tryz.underlying167 (HM.out.below HB1.out) s true rfl _ _ _ rfl rfl rfl rfl ?_; intro w2 hm2 hg2 hz2; have HM2 := z0a.mk hm2; have HG2 := z0a.mk hg2; clear hm2 hg2))
     ·go_ret
      have hm : mget (setOf true seen) s false = true := by assumption
      rw [y1s] at hm
      have hq : b = false := by have := HF2.out; simp [hm] at this; exact this
      refine ⟨by rw [HR7.out hq]; rfl, HB0.out.trans (HB1.out.mono (by omega))⟩
     ·have hm : mget (setOf true seen) s false = false := by assumption
      rw [y1s] at hm
      have h1s := HB1.out.size
      go_roundw
      case rel =>
       refine ⟨k + 1, seen ++ [s], by omega, by go_num, ⟨?_⟩, ⟨?_⟩, ⟨?_⟩⟩
       ·have := HM2.out
        rwa [y1t _ _ _ hm] at this
       ·exact (HB.out.trans (HB1.out.mono (by omega))).grown HG2.out (by omega) (fun j hj => by cases hj; exact Nat.le_refl _)
       ·have := HF2.out
        simpa [hm] using this
      case measure => simp [intOf]; omega
  ·have hke : k = l0_0.length := by omega
   have hFb := HF.out
   rw [hke] at hFb
   simp [z3i] at hFb
   subst hFb
   obtain ⟨c, hc⟩ : ∃ c, z2N l0_0 l0_1 [] l0_1 = some c := by
    have h' := H.out
    rw [HN.out] at h'
    cases hb : z2N l0_0 l0_1 [] l0_1 with
    | none => rw [hb] at h'; simp at h'
    | some c => exact ⟨c, rfl⟩
   have hrc : r = if c = true then 0 else 7 := by
    have h' := H.out
    rw [HN.out] at h'
    simp only [Option.bind_some, if_true] at h'
    rw [hc] at h'
    cases c <;> simp at h' <;> simp [h']
   have HC := z0a.mk hc
   have HRC := z0a.mk hrc
   have HB0 := z0a.mk hb0
   clear hc hrc hb0 hbw HBW HF HM HN HR7 H hke
   obtain ⟨wo, rfl⟩ : ∃ wo : World, wo = wr := ⟨_, rfl⟩
   have hbox1' : ∀ o, (wo.alloc o).cell? ⟨w.heap.size, 1, none⟩ = some (.slice z0X l0_1.length c0_1) := fun o => by
    rw [World.cell?_of_block (w := wo) (Below.heap_alloc _ _ _ (by simp; omega))]; exact hbox1
   go_wp2
   go_loopw [48] (fun i wr => ∃ k : Nat, ∃ seen : List Int, k ≤ l0_1.length ∧ i = .int .i64 k ∧ z0a (z9c (Value.int .i32) Value.bool wr wo.heap.size (setOf true seen)) ∧ z0a (Below wo.heap.size wo wr) ∧ z0a (z2N l0_0 l0_1 seen (l0_1.drop k) = some c)) (fun i _ => l0_1.length - (intOf i).toNat)
   case atStart =>
    refine ⟨0, [], Nat.zero_le _, rfl, ⟨?_⟩, ⟨?_⟩, ⟨by simpa using HC.out⟩⟩
    ·exact z9c.made (Value.int .i32) Value.bool wo
    ·exact (Below.refl _ _).alloc (by simp) _
   case round =>
    obtain ⟨k2, seen2, hk2, rfl, HM, HBW, HF⟩ := hrel
    have hbw := HBW.out
    have hs2 : wo.heap.size ≤ wr.heap.size := hbw.size
    have hs3 : wo.heap.size < wr.heap.size := HM.out.lt
    by_cases hlt : k2 < l0_1.length
    ·obtain ⟨ad, hA, hc0, hc1, hc2⟩ := z9k (Kd.z0t HR1.out (HB0.out.trans (hbw.mono (by omega)))) (k2 : Int) (by omega) (by omega)
     subst hA
     rw [Int.toNat_natCast] at hc0 hc1 hc2
     obtain ⟨x, hx⟩ : ∃ x, x = z0R l0_1 (k2 : Int) := ⟨_, rfl⟩
     rw [← hx] at hc0 hc1 hc2
     have hcons : l0_1.drop k2 = x :: l0_1.drop (k2 + 1) := by
      rw [hx, List.drop_eq_getElem_cons hlt]
      simp [z0R, List.getD_eq_getElem?_getD, hlt]
     have hF := HF.out
     rw [hcons] at hF
     unfold z2N at hF
     clear HF hx hcons
     have HB := z0a.mk hbw
     clear HBW
     cases hfn : z0B.f 3 x.f0 with
     | none => rw [hfn] at hF; simp at hF
     | some q =>
      rw [hfn] at hF
      have HFN := z0a.mk hfn
      clear hfn
      have HF2 := z0a.mk hF
      clear hF
      have hboxA : ∀ o, (wr.alloc o).cell? ⟨w.heap.size, 0, none⟩ = some (.slice z0U l0_0.length c0_0) := fun o => by
       rw [World.cell?_of_block (w := wr) (Below.heap_alloc _ _ _ (by simp; omega)), hbw.cell (by simp; omega)]; exact hbox
      have hboxB : ∀ o, (wr.alloc o).cell? ⟨w.heap.size, 1, none⟩ = some (.slice (some ad) l0_1.length c0_1) := fun o => by
       rw [World.cell?_of_block (w := wr) (Below.heap_alloc _ _ _ (by simp; omega)), hbw.cell (by simp; omega)]; exact hbox1
      have HBE := z0a.mk (fun (o : Obj) => show Below w.heap.size w (wr.alloc o) from (HB0.out.trans (hbw.mono (by omega))).alloc (by omega) o)
      have HRA := z0a.mk (fun (o : Obj) (m : Nat) => show Kd.C Kd.string ((wr.alloc o).drewN m) z0U l0_0.length l0_0 from Kd.z0t HR0.out ⟨(HBE.out o).os, (HBE.out o).tape, (HBE.out o).output, (HBE.out o).size, (HBE.out o).block⟩)
      have HRB := z0a.mk (fun (o : Obj) (m : Nat) => show Kd.C z5a ((wr.alloc o).drewN m) (some ad) l0_1.length l0_1 from Kd.z0t HR1.out ⟨(HBE.out o).os, (HBE.out o).tape, (HBE.out o).output, (HBE.out o).size, (HBE.out o).block⟩)
      clear hbw
      cases q with
      | false =>
       go_wp2_with (go_at_call 111; refine (z0B.calls 3 x.f0 false _ HFN.out).mono ?_; rintro e w3 ⟨rfl, ⟨m, rfl⟩⟩)
       go_ret
       have hq : c = false := by have := HF2.out; simp at this; exact this
       refine ⟨by rw [HRC.out, hq]; rfl, ?_⟩
       have hE := HBE.out (.cells #[.int .i32 x.f0, .int .u32 x.f1, .int .u32 x.f2] 145)
       exact ⟨hE.os, hE.tape, hE.output, hE.size, hE.block⟩
      | true =>
       by_cases hmem : y1a seen2 x.f0 = true
       ·have hg : mget (setOf true seen2) x.f0 false = true := by rw [y1s]; exact hmem
        have HME := z0a.mk hmem
        clear hmem
        go_wp2_with (first | (go_at_call 111; refine (z0B.calls 3 x.f0 true _ HFN.out).mono ?_; rintro e w3 ⟨rfl, ⟨m, rfl⟩⟩) | (at_lookup; refine z5b krune Tryz.underlying168 false (y0a _) ((HM.out.alloc _).drewN m) x.f0 rfl _ _ false rfl rfl rfl ?_))
        go_ret
        have hq : c = false := by have := HF2.out; simp [HME.out] at this; exact this
        refine ⟨by rw [HRC.out, hq]; rfl, ?_⟩
        have hE := HBE.out (.cells #[.int .i32 x.f0, .int .u32 x.f1, .int .u32 x.f2] 145)
        exact ⟨hE.os, hE.tape, hE.output, hE.size, hE.block⟩
       ·have hm : y1a seen2 x.f0 = false := by simpa using hmem
        have hg : mget (setOf true seen2) x.f0 false = false := by rw [y1s]; exact hm
        have HME := z0a.mk hm
        clear hmem hm
        cases hw : z2d.f l0_0 l0_1 x.f1 x.f2 with
        | none => have := HF2.out; simp [HME.out, hw] at this
        | some q2 =>
         have HF3 := z0a.mk (show (if q2 = true then z2N l0_0 l0_1 (seen2 ++ [x.f0]) (l0_1.drop (k2 + 1)) else some false) = some c by
          have := HF2.out
          simpa [HME.out, hw] using this)
         have HW := z0a.mk hw
         clear hw HF2
         cases q2 with
         | false =>
          go_wp2_with (first | (go_at_call 111; refine (z0B.calls 3 x.f0 true _ HFN.out).mono ?_; rintro e w3 ⟨rfl, ⟨m, rfl⟩⟩) | (at_lookup; refine z5b krune Tryz.underlying168 false (y0a _) ((HM.out.alloc _).drewN m) x.f0 rfl _ _ false rfl rfl rfl ?_) | (go_at_call 112; refine (z2d.calls _ _ _ _ _ _ _ _ false _ (HRA.out _ _) hc0_0 (HRB.out _ _) hc0_1 HW.out).mono ?_; rintro e w4 ⟨rfl, hb4⟩; have HB4 := z0a.mk hb4; have hl4 : w4.cell? ⟨wr.heap.size, 0, none⟩ = some (.int .i32 x.f0) := (hb4.cell (by simp [World.drewN])).trans (by simp); clear hb4))
          go_ret
          have hq : c = false := by have := HF3.out; simp at this; exact this
          refine ⟨by rw [HRC.out, hq]; rfl, ?_⟩
          have hE := HBE.out (.cells #[.int .i32 x.f0, .int .u32 x.f1, .int .u32 x.f2] 145)
          have hE2 : Below w.heap.size w ((wr.alloc (.cells #[.int .i32 x.f0, .int .u32 x.f1, .int .u32 x.f2] 145)).drewN m) := ⟨hE.os, hE.tape, hE.output, hE.size, hE.block⟩
          exact hE2.trans (HB4.out.mono (by have := hE2.size; simpa using this))
         | true =>
          go_wp2_with (first | (go_at_call 111; refine (z0B.calls 3 x.f0 true _ HFN.out).mono ?_; rintro e w3 ⟨rfl, ⟨m, rfl⟩⟩) | (at_lookup; refine z5b krune Tryz.underlying168 false (y0a _) ((HM.out.alloc _).drewN m) x.f0 rfl _ _ false rfl rfl rfl ?_) | (go_at_call 112; refine (z2d.calls _ _ _ _ _ _ _ _ true _ (HRA.out _ _) hc0_0 (HRB.out _ _) hc0_1 HW.out).mono ?_; rintro e w4 ⟨rfl, hb4⟩; have HB4 := z0a.mk hb4; have hl4 : w4.cell? ⟨wr.heap.size, 0, none⟩ = some (.int .i32 x.f0) := (hb4.cell (by simp [World.drewN])).trans (by simp); clear hb4) | (at_mapUpdate; refine y5d krune Tryz.underlying168 (((HM.out.alloc _).drewN m).below HB4.out) x.f0 true rfl _ _ _ rfl rfl rfl rfl ?_; intro w5 hm5 hg5 hz5; have HM5 := z0a.mk hm5; have HG5 := z0a.mk hg5; clear hm5 hg5))
          have h4s := HB4.out.size
          have h4t : wr.heap.size + 1 ≤ w4.heap.size := by simpa [World.drewN] using h4s
          go_roundw
          case rel =>
           refine ⟨k2 + 1, seen2 ++ [x.f0], by omega, by go_num, ⟨?_⟩, ⟨?_⟩, ⟨?_⟩⟩
           ·have := HM5.out
            rwa [y1t _ _ _ HME.out] at this
           ·have hE : Below wo.heap.size wo (wr.alloc (.cells #[.int .i32 x.f0, .int .u32 x.f1, .int .u32 x.f2] 145)) := HB.out.alloc hs2 _
            have hE2 : Below wo.heap.size wo ((wr.alloc (.cells #[.int .i32 x.f0, .int .u32 x.f1, .int .u32 x.f2] 145)).drewN m) := ⟨hE.os, hE.tape, hE.output, hE.size, hE.block⟩
            exact (hE2.trans (HB4.out.mono (by simp [World.drewN]; omega))).grown HG5.out (by omega) (fun j hj => by cases hj; exact Nat.le_refl _)
           ·have := HF3.out
            simpa using this
          case measure => simp [intOf]; omega
    ·have hke : k2 = l0_1.length := by omega
     have hFb := HF.out
     rw [hke] at hFb
     simp [z2N] at hFb
     subst hFb
     go_wp2
     go_ret
     refine ⟨by rw [HRC.out]; rfl, HB0.out.trans (HBW.out.mono (by omega))⟩
end Go.Proofs.YtplkoabikliagaaGreatDoor.K
