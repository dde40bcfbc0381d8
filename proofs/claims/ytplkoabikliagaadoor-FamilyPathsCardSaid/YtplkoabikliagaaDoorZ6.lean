/- cognatelaw27.FamilyPaths: for every family and every two numbers that can be read as data the law answers true, and the arguments read as before; no condition; the tables that its row lists are tied to the program's text. -/
import Derived.Test.YtplkoabikliagaaDoorZ1
import Derived.Deep.Slices
import Derived.Lib.SmallJoins
import Derived.Test.YtplkoabikliagaaDoorZ4
import Derived.Laws.RangeAny
import Derived.Test.YtplkoabikliagaaDoorRows
import Derived.Test.YtplkoabikliagaaDoorZ5
import Derived.WalkKit
import Derived.ProofKit
import Derived.OpenShut
import Derived.ShutString
import Derived.ChangeOld
import Derived.Below
import Derived.SizedLaws
import Derived.LaidHandle
import Derived.Lay
import Derived.Test.YtplkoabikliagaaDoorTie
import Derived.Test.YtplkoabikliagaaDoorCards
import Derived.SevenTiedAt
namespace Go.Proofs.YtplkoabikliagaaDoor.L
open Go.RowKit Go.Proofs.YtplkoabikliagaaDoorW.PrintWords
def Reads {α : Type} (P : Program) (t : TypeId) (k : Kd α) (V : α → Prop) : Prop :=
 k.sz = P.cellsOf t ∧ ∀ {H : Type} (enc : TypeId × Value → H) (w : World) (base : Nat) (sp : Nat → Bool) (held : Bool) (fuel : Nat) (cs : List Value) (x : DataW H × List MemPlace),
  DataW.trod enc P w base sp held fuel t cs = some x → ∃ a, k.K w a cs ∧ V a
section
variable {α β γ : Type} {P : Program} {t e : TypeId}
theorem Reads.int {kd : IntKind} (ht : P.underlying t = some (.int kd)) (hc : P.cellsOf t = 1) : Reads P t (Kd.int kd) (fun n => (Lit.int kd n).wf = true) :=
 ⟨hc.symm, fun enc w base sp held fuel cs x h => by
  obtain ⟨n, rfl, _, hw⟩ := DataW.trod_int ht h
  exact ⟨n, rfl, hw⟩⟩
theorem Reads.bool (ht : P.underlying t = some .bool) (hc : P.cellsOf t = 1) : Reads P t Kd.bool (fun _ => True) :=
 ⟨hc.symm, fun enc w base sp held fuel cs x h => by
  obtain ⟨b, rfl, _⟩ := DataW.trod_bool ht h
  exact ⟨b, rfl, trivial⟩⟩
theorem Reads.string (ht : P.underlying t = some .string) (hc : P.cellsOf t = 1) : Reads P t Kd.string (fun s => s.size ≤ maxLen) :=
 ⟨hc.symm, fun enc w base sp held fuel cs x h => by
  obtain ⟨s, rfl, _, hs⟩ := DataW.trod_string ht h
  exact ⟨s, rfl, hs⟩⟩
theorem Reads.iso {d : Kd α} {V : α → Prop} (h : Reads P t d V) (f : β → α) (g : α → β) (hfg : ∀ a, f (g a) = a) : Reads P t (Kd.iso d f) (fun b => V (f b)) :=
 ⟨h.1, fun enc w base sp held fuel cs x hx => by
  obtain ⟨a, h1, h2⟩ := h.2 enc w base sp held fuel cs x hx
  exact ⟨g a, (show d.K w (f (g a)) cs by rw [hfg]; exact h1), (show V (f (g a)) by rw [hfg]; exact h2)⟩⟩
theorem Reads.weaken {k : Kd α} {V V' : α → Prop} (h : Reads P t k V) (hV : ∀ a, V a → V' a) : Reads P t k V' :=
 ⟨h.1, fun enc w base sp held fuel cs x hx => by
  obtain ⟨a, h1, h2⟩ := h.2 enc w base sp held fuel cs x hx
  exact ⟨a, h1, hV a h2⟩⟩
theorem Reads.slice {q : Nat} {k : Kd α} {V : α → Prop} (ht : P.underlying t = some (.slice e)) (hc : P.cellsOf t = 1) (h : Reads P e k V) : Reads P t (Kd.slice q k) (fun l => l.length ≤ maxLen ∧ ∀ x ∈ l, V x) :=
 ⟨hc.symm, fun enc w base sp held fuel cs x hx => by
  rcases Go.Deep.open_slice ht hx with ⟨rfl, _⟩ | ⟨a, len, cap, m, n, D, Pl, rfl, hb, hl, hm, hmm, _, hel⟩
  ·exact ⟨[], ⟨none, 0, rfl, Nat.le_refl _, rfl, Nat.zero_le _, fun h0 => absurd h0 (Nat.lt_irrefl 0)⟩, Nat.zero_le _, fun x hx => by cases hx⟩
  ·have hle : len ≤ m := by rw [hmm]; split <;> omega
   have hi : ∀ i, i < len → ∃ v : α, V v ∧ ∃ cs', cs'.length = k.sz ∧ k.K w v cs' ∧ ∀ j u, cs'[j]? = some u → w.cell? (a.add (i * k.sz + j)) = some u := fun i hi => by
    obtain ⟨cs', h1, h2⟩ := hel i (by omega)
    obtain ⟨v, hv1, hv2⟩ := h.2 enc w base sp held n cs' _ h2
    obtain ⟨_, hlen, hcell⟩ := World.cells?_some h1
    refine ⟨v, hv2, cs', by rw [hlen, h.1], hv1, fun j u hj => ?_⟩
    have hjl : j < P.cellsOf e := by rw [← hlen]; exact (List.getElem?_eq_some_iff.1 hj).1
    have := hcell j hjl
    rw [hj] at this
    rw [h.1, ← this, Addr.add_add]
   obtain ⟨f, hf⟩ : ∃ f : Nat → Option α, ∀ i, i < len → ∃ v, f i = some v ∧ V v ∧ ∃ cs', cs'.length = k.sz ∧ k.K w v cs' ∧ ∀ j u, cs'[j]? = some u → w.cell? (a.add (i * k.sz + j)) = some u :=
    ⟨fun i => if h : i < len then some (hi i h).choose else none, fun i h => ⟨(hi i h).choose, by simp [h], (hi i h).choose_spec⟩⟩
   have hl2 : ((List.range len).filterMap f).length = len ∧ ∀ i, i < len → ((List.range len).filterMap f)[i]? = f i := by
    have key : ∀ m, m ≤ len → ((List.range m).filterMap f).length = m ∧ ∀ i, i < m → ((List.range m).filterMap f)[i]? = f i := by
     intro m
     induction m with
     | zero => intro _; exact ⟨rfl, fun i hi => absurd hi (Nat.not_lt_zero i)⟩
     | succ m ih =>
      intro hm
      obtain ⟨ih1, ih2⟩ := ih (by omega)
      obtain ⟨v, hv, _⟩ := hf m (by omega)
      rw [List.range_succ, List.filterMap_append]
      have e1 : List.filterMap f [m] = [v] := by simp [hv]
      rw [e1]
      refine ⟨by simp [ih1], fun i hi => ?_⟩
      by_cases him : i < m
      ·rw [List.getElem?_append_left (by omega)]; exact ih2 i him
      ·obtain rfl : i = m := by omega
       rw [List.getElem?_append_right (by omega), ih1]
       simp [hv]
    exact key len (Nat.le_refl _)
   obtain ⟨e1, e2⟩ := hl2
   generalize (List.range len).filterMap f = l at e1 e2
   subst e1
   refine ⟨l, ⟨some a, cap, rfl, hl, rfl, ?_, fun _ => ⟨a, rfl, fun j p hj => ?_⟩⟩, by omega, fun x hx => ?_⟩
   ·unfold maxLen at hm; omega
   ·obtain ⟨hjl, _⟩ := List.getElem?_eq_some_iff.1 hj
    obtain ⟨v, h1, _, cs', h3, h4, h5⟩ := hf j hjl
    rw [e2 j hjl, h1] at hj
    obtain rfl := Option.some.inj hj
    exact ⟨cs', h3, h4, h5⟩
   ·obtain ⟨j, hj⟩ := List.mem_iff_getElem?.1 hx
    obtain ⟨hjl, _⟩ := List.getElem?_eq_some_iff.1 hj
    obtain ⟨v, h1, h2, _⟩ := hf j hjl
    rw [e2 j hjl, h1] at hj
    obtain rfl := Option.some.inj hj
    exact h2⟩
structure FieldsRead (P : Program) (fs : List Field) (o : Nat) (k : Kd α) (V : α → Prop) : Prop where
 out : ∀ {H : Type} (enc : TypeId × Value → H) (w : World) (base : Nat) (sp : Nat → Bool) (held : Bool) (n : Nat) (cs : List Value), cs.length = o + k.sz →
  (∀ f ∈ fs, ∃ y, DataW.trod enc P w base sp held n f.type ((cs.drop f.offset).take (P.cellsOf f.type)) = some y) → ∃ a, k.K w a (cs.drop o) ∧ V a
theorem FieldsRead.last {f : Field} {o : Nat} {k : Kd α} {V : α → Prop} (h : Reads P f.type k V) (ho : f.offset = o) : FieldsRead P [f] o k V := by
 refine ⟨?_⟩
 intro H enc w base sp held n cs hl hf
 obtain ⟨y, hy⟩ := hf f (by simp)
 rw [ho, ← h.1, List.take_of_length_le (by simp; omega)] at hy
 exact h.2 enc w base sp held n _ y hy
def VAnd {α β : Type} (V : α → Prop) (V' : β → Prop) : α × β → Prop := fun x => V x.1 ∧ V' x.2
theorem FieldsRead.cons {f : Field} {fs : List Field} {o o' : Nat} {k : Kd α} {k' : Kd β} {V : α → Prop} {V' : β → Prop} (h : Reads P f.type k V) (ho : f.offset = o) (ho' : o + k.sz = o') (hs : FieldsRead P fs o' k' V') :
  FieldsRead P (f :: fs) o (Kd.pair k k') (VAnd V V') := by
 refine ⟨?_⟩
 intro H enc w base sp held n cs hl hf
 have hl' : cs.length = o + (k.sz + k'.sz) := hl
 obtain ⟨y, hy⟩ := hf f (by simp)
 rw [ho, ← h.1] at hy
 obtain ⟨a, ha, hVa⟩ := h.2 enc w base sp held n _ y hy
 obtain ⟨b, hb, hVb⟩ := hs.out enc w base sp held n cs (by omega) (fun g hg => hf g (by simp [hg]))
 refine ⟨(a, b), ⟨(cs.drop o).take k.sz, cs.drop o', ?_, ha, hb⟩, hVa, hVb⟩
 rw [← ho', ← List.drop_drop, List.take_append_drop]
theorem Reads.struct {fs : List Field} {k : Kd α} {V : α → Prop} (ht : P.underlying t = some (.struct fs.toArray)) (hc : k.sz = P.cellsOf t) (h : FieldsRead P fs 0 k V) : Reads P t k V :=
 ⟨hc, fun enc w base sp held fuel cs x hx => by
  obtain ⟨xs, n, _, _, hlen, hxs, hf⟩ := DataW.trod_struct ht hx
  have := h.out enc w base sp held n cs (by omega) (fun f hf' => by
   obtain ⟨i, hi⟩ := List.mem_iff_getElem?.1 hf'
   have hi' : fs.toArray[i]? = some f := by simpa using hi
   obtain ⟨hil, _⟩ := List.getElem?_eq_some_iff.1 hi
   have hxs' : xs.length = fs.length := by simpa using hxs
   rw [hf i f hi']
   exact ⟨xs[i]'(by omega), List.getElem?_eq_getElem (by omega)⟩)
  simpa using this⟩
end
end Go.Proofs.YtplkoabikliagaaDoor.L
namespace Go.Proofs.YtplkoabikliagaaDoor.K
open Go.RowKit Go.Proofs.YtplkoabikliagaaDoorW.PrintWords
open Go.Proofs.YtplkoabikliagaaDoor.L
theorem reads_int64 : Reads Tryd.prog 3 (Kd.int .i64) (fun n => (Lit.int .i64 n).wf = true) := Reads.int Tryd.underlying3 (by kernel_rfl)
theorem reads_string : Reads Tryd.prog 9 Kd.string (fun s => s.size ≤ maxLen) := Reads.string Tryd.underlying9 (by kernel_rfl)
def I32 (n : Int) : Prop := (Lit.int .i32 n).wf = true
def U32 (n : Int) : Prop := (Lit.int .u32 n).wf = true
def I64 (n : Int) : Prop := (Lit.int .i64 n).wf = true
def U8 (n : Int) : Prop := (Lit.int .u8 n).wf = true
def StrOk (s : ByteArray) : Prop := s.size ≤ maxLen
def Rows {α : Type} (V : α → Prop) (l : List α) : Prop := l.length ≤ maxLen ∧ ∀ x ∈ l, V x
def Any {α : Type} (_ : α) : Prop := True
theorem r_i32 : Reads Tryd.prog 21 (Kd.int .i32) I32 := Reads.int Tryd.underlying21 (by kernel_rfl)
theorem r_u32 : Reads Tryd.prog 97 (Kd.int .u32) U32 := Reads.int Tryd.underlying97 (by kernel_rfl)
theorem r_i64 : Reads Tryd.prog 3 (Kd.int .i64) I64 := Reads.int Tryd.underlying3 (by kernel_rfl)
theorem r_u8 : Reads Tryd.prog 5 (Kd.int .u8) U8 := Reads.int Tryd.underlying5 (by kernel_rfl)
theorem r_bool : Reads Tryd.prog 4 Kd.bool Any := Reads.bool Tryd.underlying4 (by kernel_rfl)
theorem r_str : Reads Tryd.prog 9 Kd.string StrOk := Reads.string Tryd.underlying9 (by kernel_rfl)
theorem r_rows {α : Type} {t e q : TypeId} {k : Kd α} {V : α → Prop} (ht : Tryd.prog.underlying t = some (.slice e)) (hc : Tryd.prog.cellsOf t = 1) (h : Reads Tryd.prog e k V) : Reads Tryd.prog t (Kd.slice q k) (Rows V) := Reads.slice ht hc h
set_option maxRecDepth 100000
def VLetter (x : S99) : Prop := (VAnd I32 (VAnd U32 U32)) (x.f0, x.f1, x.f2)
theorem r_letter : Reads Tryd.prog 99 k99 VLetter :=
 Reads.iso (Reads.struct Tryd.underlying99 (by kernel_rfl) (FieldsRead.cons r_i32 rfl rfl (FieldsRead.cons r_u32 rfl rfl (FieldsRead.last r_u32 rfl)))) (fun x : S99 => (x.f0, x.f1, x.f2)) (fun x => ⟨x.1, x.2.1, x.2.2⟩) (fun _ => rfl)
def VSlot (x : S169) : Prop := (VAnd I32 (VAnd U32 U32)) (x.f0, x.f1, x.f2)
theorem r_slot : Reads Tryd.prog 169 k169 VSlot :=
 Reads.iso (Reads.struct Tryd.underlying169 (by kernel_rfl) (FieldsRead.cons r_i32 rfl rfl (FieldsRead.cons r_u32 rfl rfl (FieldsRead.last r_u32 rfl)))) (fun x : S169 => (x.f0, x.f1, x.f2)) (fun x => ⟨x.1, x.2.1, x.2.2⟩) (fun _ => rfl)
def VSwap (x : S172) : Prop := (VAnd I32 (VAnd I64 (VAnd U32 U32))) (x.f0, x.f1, x.f2, x.f3)
theorem r_swap : Reads Tryd.prog 172 k172 VSwap :=
 Reads.iso (Reads.struct Tryd.underlying172 (by kernel_rfl) (FieldsRead.cons r_i32 rfl rfl (FieldsRead.cons r_i64 rfl rfl (FieldsRead.cons r_u32 rfl rfl (FieldsRead.last r_u32 rfl))))) (fun x : S172 => (x.f0, x.f1, x.f2, x.f3)) (fun x => ⟨x.1, x.2.1, x.2.2.1, x.2.2.2⟩) (fun _ => rfl)
def VNode (x : S200) : Prop := (VAnd U8 (VAnd I32 (VAnd U32 (VAnd U32 ((Rows I64)))))) (x.f0, x.f1, x.f2, x.f3, x.f4)
theorem r_node : Reads Tryd.prog 200 k200 VNode :=
 Reads.iso (Reads.struct Tryd.underlying200 (by kernel_rfl) (FieldsRead.cons r_u8 rfl rfl (FieldsRead.cons r_i32 rfl rfl (FieldsRead.cons r_u32 rfl rfl (FieldsRead.cons r_u32 rfl rfl (FieldsRead.last (r_rows Tryd.underlying31 (by kernel_rfl) r_i64) rfl)))))) (fun x : S200 => (x.f0, x.f1, x.f2, x.f3, x.f4)) (fun x => ⟨x.1, x.2.1, x.2.2.1, x.2.2.2.1, x.2.2.2.2⟩) (fun _ => rfl)
def VPattern (x : S150) : Prop := ((Rows VNode)) x.f0
theorem r_pattern : Reads Tryd.prog 150 k150 VPattern :=
 Reads.iso (Reads.struct Tryd.underlying150 (by kernel_rfl) (FieldsRead.last (r_rows Tryd.underlying148 (by kernel_rfl) r_node) rfl)) (fun x : S150 => x.f0) (fun x => ⟨x⟩) (fun _ => rfl)
def VRule (x : S152) : Prop := (VAnd StrOk (VAnd (Rows VSlot) (VAnd (Rows VSwap) (VAnd VPattern (VAnd VPattern (VAnd U8 Any)))))) (x.f0, x.f1, x.f2, x.f3, x.f4, x.f5, x.f6)
theorem r_rule : Reads Tryd.prog 152 k152 VRule :=
 Reads.iso (Reads.struct Tryd.underlying152 (by kernel_rfl) (FieldsRead.cons r_str rfl rfl (FieldsRead.cons (r_rows Tryd.underlying146 (by kernel_rfl) r_slot) rfl rfl (FieldsRead.cons (r_rows Tryd.underlying147 (by kernel_rfl) r_swap) rfl rfl (FieldsRead.cons r_pattern rfl rfl (FieldsRead.cons r_pattern rfl rfl (FieldsRead.cons r_u8 rfl rfl (FieldsRead.last r_bool rfl)))))))) (fun x : S152 => (x.f0, x.f1, x.f2, x.f3, x.f4, x.f5, x.f6)) (fun x => ⟨x.1, x.2.1, x.2.2.1, x.2.2.2.1, x.2.2.2.2.1, x.2.2.2.2.2.1, x.2.2.2.2.2.2⟩) (fun _ => rfl)
def VBranch (x : S39) : Prop := (VAnd StrOk (VAnd I64 ((Rows VRule)))) (x.f0, x.f1, x.f2)
theorem r_branch : Reads Tryd.prog 39 k39 VBranch :=
 Reads.iso (Reads.struct Tryd.underlying39 (by kernel_rfl) (FieldsRead.cons r_str rfl rfl (FieldsRead.cons r_i64 rfl rfl (FieldsRead.last (r_rows Tryd.underlying37 (by kernel_rfl) r_rule) rfl)))) (fun x : S39 => (x.f0, x.f1, x.f2)) (fun x => ⟨x.1, x.2.1, x.2.2⟩) (fun _ => rfl)
def VAlphabet (x : S25) : Prop := (VAnd (Rows StrOk) ((Rows VLetter))) (x.f0, x.f1)
theorem r_alphabet : Reads Tryd.prog 25 k25 VAlphabet :=
 Reads.iso (Reads.struct Tryd.underlying25 (by kernel_rfl) (FieldsRead.cons (r_rows Tryd.underlying22 (by kernel_rfl) r_str) rfl rfl (FieldsRead.last (r_rows Tryd.underlying23 (by kernel_rfl) r_letter) rfl))) (fun x : S25 => (x.f0, x.f1)) (fun x => ⟨x.1, x.2⟩) (fun _ => rfl)
def VFamily (x : S28) : Prop := (VAnd VAlphabet ((Rows VBranch))) (x.f0, x.f1)
theorem r_family : Reads Tryd.prog 28 k28 VFamily :=
 Reads.iso (Reads.struct Tryd.underlying28 (by kernel_rfl) (FieldsRead.cons r_alphabet rfl rfl (FieldsRead.last (r_rows Tryd.underlying26 (by kernel_rfl) r_branch) rfl))) (fun x : S28 => (x.f0, x.f1)) (fun x => ⟨x.1, x.2⟩) (fun _ => rfl)
end Go.Proofs.YtplkoabikliagaaDoor.K
namespace Go.Proofs.YtplkoabikliagaaDoor.L
open Go.RowKit Go.Proofs.YtplkoabikliagaaDoorW.PrintWords
def Evt {α : Type} (g : Nat → Option α) (v : α) : Prop := ∃ K, ∀ k, K ≤ k → g k = some v
section
variable {α β : Type} {g h : Nat → Option α} {v : α}
theorem Evt.const (v : α) : Evt (fun _ => some v) v := ⟨0, fun _ _ => rfl⟩
theorem Evt.of_eq {o : Option α} (h : o = some v) : Evt (fun _ => o) v := ⟨0, fun _ _ => h⟩
theorem Evt.at_ (h : Evt g v) : ∃ k, g k = some v := h.elim fun K hK => ⟨K, hK K (Nat.le_refl K)⟩
theorem Evt.succ (e : ∀ k, g (k + 1) = h k) (t : Evt h v) : Evt g v := by
 obtain ⟨K, hK⟩ := t
 refine ⟨K + 1, fun k hk => ?_⟩
 obtain ⟨j, rfl⟩ : ∃ j, k = j + 1 := ⟨k - 1, by omega⟩
 rw [e]; exact hK j (by omega)
theorem Evt.congr (e : ∀ k, g k = h k) (t : Evt h v) : Evt g v := by
 obtain ⟨K, hK⟩ := t
 exact ⟨K, fun k hk => (e k).trans (hK k hk)⟩
theorem Evt.bind {f : Nat → α → Option β} {u : β} (t : Evt g v) (s : Evt (fun k => f k v) u) : Evt (fun k => (g k).bind (f k)) u := by
 obtain ⟨K, hK⟩ := t
 obtain ⟨J, hJ⟩ := s
 refine ⟨max K J, fun k hk => ?_⟩
 show (g k).bind (f k) = some u
 rw [hK k (by omega)]
 exact hJ k (by omega)
theorem Evt.bind1 {o : Option α} {f : Nat → α → Option β} {u : β} (t : o = some v) (s : Evt (fun k => f k v) u) : Evt (fun k => o.bind (f k)) u := Evt.bind (Evt.of_eq t) s
theorem Evt.yes {c : Prop} [Decidable c] (hc : c) (t : Evt g v) : Evt (fun k => if c then g k else h k) v := by
 obtain ⟨K, hK⟩ := t
 exact ⟨K, fun k hk => by show (if c then g k else h k) = _; rw [if_pos hc]; exact hK k hk⟩
theorem Evt.no {c : Prop} [Decidable c] (hc : ¬ c) (t : Evt h v) : Evt (fun k => if c then g k else h k) v := by
 obtain ⟨K, hK⟩ := t
 exact ⟨K, fun k hk => by show (if c then g k else h k) = _; rw [if_neg hc]; exact hK k hk⟩
theorem Evt.of_mono (m : ∀ k, LeO (g k) (g (k + 1))) (k : Nat) (h : g k = some v) : Evt g v := by
 refine ⟨k, fun j hj => ?_⟩
 obtain ⟨d, rfl⟩ : ∃ d, j = k + d := ⟨j - k, by omega⟩
 clear hj
 induction d with
 | zero => exact h
 | succ d ih => exact m (k + d) v ih
theorem Evt.uniq {u : α} (h1 : Evt g v) (h2 : Evt g u) : v = u := by
 obtain ⟨K, hK⟩ := h1
 obtain ⟨J, hJ⟩ := h2
 have a := hK (max K J) (by omega)
 have b := hJ (max K J) (by omega)
 rw [a] at b
 exact Option.some.inj b
def Tells (g : Nat → Option α) : Prop := ∃ v, Evt g v
theorem Tells.const (v : α) : Tells (fun _ => some v) := ⟨v, Evt.const v⟩
theorem Tells.of_eq {o : Option α} (h : ∃ v, o = some v) : Tells (fun _ => o) := h.elim fun v h => ⟨v, Evt.of_eq h⟩
theorem Tells.succ (e : ∀ k, g (k + 1) = h k) (t : Tells h) : Tells g := t.elim fun v t => ⟨v, t.succ e⟩
theorem Tells.congr (e : ∀ k, g k = h k) (t : Tells h) : Tells g := t.elim fun v t => ⟨v, t.congr e⟩
theorem Tells.bind {f : Nat → α → Option β} (t : Tells g) (s : ∀ v, Evt g v → Tells (fun k => f k v)) : Tells (fun k => (g k).bind (f k)) := by
 obtain ⟨v, hv⟩ := t
 obtain ⟨u, hu⟩ := s v hv
 exact ⟨u, hv.bind hu⟩
theorem Tells.bind1 {o : Option α} {f : Nat → α → Option β} (t : ∃ v, o = some v) (s : ∀ v, o = some v → Tells (fun k => f k v)) : Tells (fun k => o.bind (f k)) := by
 obtain ⟨v, hv⟩ := t
 obtain ⟨u, hu⟩ := s v hv
 exact ⟨u, hu.bind1 hv⟩
theorem Tells.ite {c : Prop} [Decidable c] (t : c → Tells g) (s : ¬ c → Tells h) : Tells (fun k => if c then g k else h k) := by
 by_cases hc : c
 ·obtain ⟨v, hv⟩ := t hc
  exact ⟨v, Evt.yes hc hv⟩
 ·obtain ⟨v, hv⟩ := s hc
  exact ⟨v, Evt.no hc hv⟩
theorem Tells.absurd {p : Prop} (h : p) (hn : ¬ p) : Tells g := (hn h).elim
end
theorem some_bind {α β : Type} {o : Option α} {f : α → Option β} (t : ∃ v, o = some v) (s : ∀ v, o = some v → ∃ u, f v = some u) : ∃ u, o.bind f = some u := by
 obtain ⟨v, rfl⟩ := t
 exact s v rfl
theorem some_ite {α : Type} {c : Prop} [Decidable c] {a b : Option α} (t : c → ∃ v, a = some v) (s : ¬ c → ∃ v, b = some v) : ∃ v, (if c then a else b) = some v := by
 by_cases hc : c
 ·rw [if_pos hc]; exact t hc
 ·rw [if_neg hc]; exact s hc
theorem wrap_in {n : Int} (h0 : -9223372036854775808 ≤ n) (h1 : n ≤ 9223372036854775807) : wrap64 n = n := by unfold wrap64; omega
end Go.Proofs.YtplkoabikliagaaDoor.L
namespace Go.Proofs.YtplkoabikliagaaDoor.K
open Go.RowKit Go.Proofs.YtplkoabikliagaaDoorW.PrintWords Go.Proofs.YtplkoabikliagaaDoorW.PrintLast Go.Proofs.YtplkoabikliagaaDoorW.PrintMore
open Go.Proofs.YtplkoabikliagaaDoor.L
theorem trim_some (s t : ByteArray) (h : s.size ≤ 4096) (ht : t.size ≤ 4096) (hc : t.data.toList.all (fun b => decide (b.toNat < 128)) = true) : ∃ r, strings_Trim.f s t = some r := by
 unfold strings_Trim.f
 rw [if_pos ⟨h, ht, hc⟩]
 exact ⟨_, rfl⟩
theorem fnamed_some (s : ByteArray) : ∃ b, feature_named.f s = some b := by
 unfold feature_named.f
 refine some_ite (fun _ => ⟨_, rfl⟩) fun _ => some_ite (fun h => ?_) fun _ => ⟨_, rfl⟩
 exact some_bind (trim_some s _ (by omega) (by decide) (by decide)) fun v _ => ⟨_, rfl⟩
theorem rnamed_some (s : ByteArray) : ∃ b, rule_named.f s = some b := by
 unfold rule_named.f
 refine some_ite (fun h => ?_) fun _ => ⟨_, rfl⟩
 exact some_bind (trim_some s _ (by omega) (by decide) (by decide)) fun v _ => ⟨_, rfl⟩
theorem within_some (l0 : List ByteArray) (l1 : List S99) (p m : Int) : ∃ b, feature_within.f l0 l1 p m = some b := by
 unfold feature_within.f
 exact some_ite (fun _ => ⟨_, rfl⟩) fun _ => ⟨_, rfl⟩
theorem lettered_some (r : Int) : ∃ b, feature_lettered.f 3 r = some b := by
 unfold feature_lettered.f feature_lettered.j0 feature_lettered.j1
 repeat' first
  | exact ⟨_, rfl⟩
  | refine some_ite (fun _ => ?_) (fun _ => ?_)
theorem featNames_some : ∀ (l seen : List ByteArray), ∃ b, featNames seen l = some b
 | [], _ => ⟨_, rfl⟩
 | f :: r, seen => by
  unfold featNames
  refine some_bind (fnamed_some f) fun v _ => some_ite (fun _ => some_ite (fun _ => ⟨_, rfl⟩) fun _ => featNames_some r _) fun _ => ⟨_, rfl⟩
theorem featLetters_some (fs : List ByteArray) (all : List S99) : ∀ (l : List S99) (seen : List Int), ∃ b, featLetters fs all seen l = some b
 | [], _ => ⟨_, rfl⟩
 | x :: r, seen => by
  unfold featLetters
  refine some_bind (lettered_some _) fun v _ => some_ite (fun _ => some_ite (fun _ => ⟨_, rfl⟩) fun _ => ?_) fun _ => ⟨_, rfl⟩
  exact some_bind (within_some _ _ _ _) fun v _ => some_ite (fun _ => featLetters_some fs all r _) fun _ => ⟨_, rfl⟩
theorem fcheck_some (l0 : List ByteArray) (l1 : List S99) : ∃ e, feature_Check.f l0 l1 = some e := by
 unfold feature_Check.f
 refine some_ite (fun _ => ⟨_, rfl⟩) fun _ => some_ite (fun _ => ⟨_, rfl⟩) fun _ => some_ite (fun _ => ⟨_, rfl⟩) fun _ => ?_
 refine some_bind (featNames_some _ _) fun v _ => some_ite (fun _ => ?_) fun _ => ⟨_, rfl⟩
 exact some_bind (featLetters_some _ _ _ _) fun v _ => some_ite (fun _ => ⟨_, rfl⟩) fun _ => ⟨_, rfl⟩
theorem fof_some (l0 : List ByteArray) (l1 : List S99) (r : Int) : ∃ e, feature_Of.f l0 l1 r = some e := by
 unfold feature_Of.f
 refine some_bind (fcheck_some _ _) fun v _ => some_ite (fun _ => ?_) fun _ => ⟨_, rfl⟩
 split <;> exact ⟨_, rfl⟩
theorem ftext_some (l0 : List ByteArray) (l1 : List S99) (p m : Int) : ∃ e, feature_Text.f l0 l1 p m = some e := by
 unfold feature_Text.f
 refine some_bind (fcheck_some _ _) fun v _ => some_ite (fun _ => ?_) fun _ => ⟨_, rfl⟩
 exact some_bind (within_some _ _ _ _) fun v _ => some_ite (fun _ => ⟨_, rfl⟩) fun _ => ⟨_, rfl⟩
theorem letter_some (l0 : List ByteArray) (l1 : List S99) (r : Int) : ∃ b, rule_letter.f l0 l1 r = some b := by
 unfold rule_letter.f
 exact some_bind (fof_some _ _ _) fun v _ => ⟨_, rfl⟩
theorem class_some (l0 : List ByteArray) (l1 : List S99) (p m : Int) : ∃ b, rule_class.f l0 l1 p m = some b := by
 unfold rule_class.f
 exact some_bind (ftext_some _ _ _ _) fun v _ => ⟨_, rfl⟩
theorem either_some (l0 : List ByteArray) (l1 : List S99) (r p m : Int) : ∃ b, rule_either.f l0 l1 r p m = some b := by
 unfold rule_either.f
 refine some_ite (fun _ => some_bind (class_some _ _ _ _) fun v _ => ⟨_, rfl⟩) fun _ => some_bind (letter_some _ _ _) fun v _ => some_ite (fun _ => ⟨_, rfl⟩) fun _ => ⟨_, rfl⟩
theorem swap_some (l0 : List ByteArray) (l1 : List S99) (r i p m n : Int) : ∃ b, rule_swap.f l0 l1 r i p m n = some b := by
 unfold rule_swap.f
 refine some_ite (fun _ => some_ite (fun _ => ⟨_, rfl⟩) fun _ => some_ite (fun _ => ⟨_, rfl⟩) fun _ => ?_) fun _ => some_ite (fun _ => ?_) fun _ => ⟨_, rfl⟩
 ·exact some_bind (either_some _ _ _ _ _) fun v _ => ⟨_, rfl⟩
 ·exact some_bind (either_some _ _ _ _ _) fun v _ => ⟨_, rfl⟩
theorem fnamed2_some (s : ByteArray) : ∃ b, family_named.f s = some b := by
 unfold family_named.f
 exact some_ite (fun _ => ⟨_, rfl⟩) fun _ => some_ite (fun _ => ⟨_, rfl⟩) fun _ => ⟨_, rfl⟩
theorem shapedFrom_some : ∀ (l : List S39) (j : Nat) (seen : List ByteArray), ∃ b, shapedFrom j seen l = some b
 | [], _, _ => ⟨_, rfl⟩
 | b :: r, j, seen => by
  unfold shapedFrom
  refine some_ite (fun _ => ⟨_, rfl⟩) fun _ => some_bind (fnamed2_some _) fun v _ => some_ite (fun _ => some_ite (fun _ => ⟨_, rfl⟩) fun _ => shapedFrom_some r _ _) fun _ => ⟨_, rfl⟩
theorem shaped_some (l : List S39) : ∃ b, family_shaped.f l = some b := by
 unfold family_shaped.f
 split
 ·exact ⟨_, rfl⟩
 ·exact some_ite (fun _ => ⟨_, rfl⟩) fun _ => some_ite (fun _ => ⟨_, rfl⟩) fun _ => some_ite (fun _ => ⟨_, rfl⟩) fun _ => shapedFrom_some _ _ _
theorem index_tells (l : List Bool) (x : Bool) (hl : l.length ≤ 9223372036854775807) : ∀ (d : Nat) (i : Int), 0 ≤ i → (l.length : Int) ≤ i + d → Tells (fun k => slices_Index_bool_bool.l0 k l x (l.length : Int) i)
 | d, i, h0, h1 => by
  refine Tells.succ (fun k => by rw [slices_Index_bool_bool.l0]) (Tells.ite (fun hlt => Tells.ite (fun _ => Tells.ite (fun _ => Tells.ite (fun _ => Tells.const _) fun _ => ?_) fun h => Tells.absurd hlt h) fun h => Tells.absurd h0 h) fun _ => Tells.const _)
  match d, h1 with
  | 0, h1 => omega
  | d + 1, h1 =>
   rw [wrap_in (by omega) (by omega)]
   exact index_tells l x hl d (i + 1) (by omega) (by omega)
theorem contains_tells (l : List Bool) (x : Bool) (hl : l.length ≤ 9223372036854775807) : Tells (fun k => slices_Contains_bool_bool.f k l x) := by
 unfold slices_Contains_bool_bool.f slices_Index_bool_bool.f
 exact Tells.bind (index_tells l x hl l.length 0 (Int.le_refl 0) (by omega)) fun v _ => Tells.const _
theorem tree_tells (l : List S200) (hl : l.length ≤ 256) (hk : ∀ x ∈ l, x.f4.length ≤ maxLen) : ∀ (d : Nat) (i : Int) (seen : List Bool), 0 ≤ i → 1 ≤ l.length → (l.length : Int) ≤ i + d → seen.length = l.length → Tells (fun k => pattern_tree.l0 k (l.length : Int) seen l (l.length : Int) i)
 | d, i, seen, h0, hne, h1, hs => by
  refine Tells.succ (fun k => by rw [pattern_tree.l0]) (Tells.ite (fun hlt => Tells.ite (fun _ => Tells.ite (fun _ => ?_) fun h => Tells.absurd hlt h) fun h => Tells.absurd h0 h) fun _ => Tells.ite (fun _ => ?_) fun h => Tells.absurd (by omega) h)
  ·have hkl : (rd_T200 l i).f4.length ≤ maxLen := by
    by_cases hi : i.toNat < l.length
    ·have hm : rd_T200 l i ∈ l := by simp [rd_T200, List.getD_eq_getElem?_getD, hi]
     exact hk _ hm
    ·omega
   generalize (rd_T200 l i) = x at hkl
   unfold maxLen at hkl
   have next : ∀ s : List Bool, s.length = l.length → Tells (fun k => pattern_tree.l0 k (l.length : Int) s l (l.length : Int) (wrap64 (i + 1))) := fun s hs => by
    match d, h1 with
    | 0, h1 => omega
    | d + 1, h1 =>
     rw [wrap_in (by omega) (by omega)]
     exact tree_tells l hl hk d (i + 1) s (by omega) hne (by omega) hs
   have kids : ∀ (e : Nat) (j : Int) (s : List Bool), 0 ≤ j → (x.f4.length : Int) ≤ j + e → s.length = l.length → Tells (fun k => pattern_tree.l1 k (l.length : Int) s i l (l.length : Int) i x.f4 (x.f4.length : Int) j) := by
    intro e
    induction e with
    | zero =>
     intro j s hj he hs
     refine Tells.succ (fun k => by rw [pattern_tree.l1]) (Tells.ite (fun h => by omega) fun _ => next s hs)
    | succ e ih =>
     intro j s hj he hs
     refine Tells.succ (fun k => by rw [pattern_tree.l1]) (Tells.ite (fun hlt => Tells.ite (fun _ => Tells.ite (fun _ => Tells.ite (fun _ => Tells.const _) fun _ => Tells.ite (fun _ => Tells.const _) fun _ => Tells.ite (fun _ => Tells.ite (fun _ => Tells.ite (fun _ => Tells.const _) fun _ => ?_) fun h => Tells.absurd (by omega) h) fun h => Tells.absurd (by omega) h) fun h => Tells.absurd hlt h) fun h => Tells.absurd hj h) fun _ => next s hs)
     rw [wrap_in (by omega) (by omega)]
     exact ih (j + 1) _ (by omega) (by omega) (by simpa using hs)
   have j6 : ∀ b : Bool, Tells (fun k => pattern_tree.j6 k (l.length : Int) seen i l (l.length : Int) i b x.f0 x.f1 x.f2 x.f3 x.f4) := fun b =>
    Tells.succ (fun k => by rw [pattern_tree.j6]) (Tells.ite (fun _ => Tells.const _) fun _ => kids x.f4.length 0 seen (Int.le_refl 0) (by omega) hs)
   have j5 : Tells (fun k => pattern_tree.j5 k (l.length : Int) seen i l (l.length : Int) i x.f0 x.f1 x.f2 x.f3 x.f4) :=
    Tells.succ (fun k => by rw [pattern_tree.j5]) (Tells.ite (fun _ => Tells.ite (fun _ => j6 _) fun _ => j6 _) fun _ => Tells.ite (fun _ => Tells.ite (fun _ => j6 _) fun _ => j6 _) fun _ => j6 _)
   have j4 : ∀ b : Bool, Tells (fun k => pattern_tree.j4 k (l.length : Int) seen i l (l.length : Int) i b x.f0 x.f1 x.f2 x.f3 x.f4) := fun b =>
    Tells.succ (fun k => by rw [pattern_tree.j4]) (Tells.ite (fun _ => Tells.ite (fun _ => j5) fun _ => Tells.const _) fun _ => Tells.const _)
   have j3 : ∀ (n : Int) (b : Bool), Tells (fun k => pattern_tree.j3 k (l.length : Int) seen i l (l.length : Int) i n b x.f0 x.f1 x.f2 x.f3 x.f4) := fun n b =>
    Tells.succ (fun k => by rw [pattern_tree.j3]) (Tells.ite (fun _ => Tells.ite (fun _ => j5) fun _ => Tells.const _) fun _ => Tells.ite (fun _ => j4 _) fun _ => Tells.ite (fun _ => j4 _) fun _ => Tells.ite (fun _ => j4 _) fun _ => Tells.ite (fun _ => j4 _) fun _ => j4 _)
   have j2 : ∀ (n : Int) (b : Bool), Tells (fun k => pattern_tree.j2 k (l.length : Int) seen i l (l.length : Int) i n b x.f0 x.f1 x.f2 x.f3 x.f4) := fun n b =>
    Tells.succ (fun k => by rw [pattern_tree.j2]) (Tells.ite (fun _ => j5) fun _ => Tells.ite (fun _ => j3 _ _) fun _ => j3 _ _)
   exact Tells.ite (fun _ => j2 _ _) fun _ => j2 _ _
  ·exact Tells.bind (contains_tells _ _ (by simp; omega)) fun v _ => Tells.const _
theorem ptree_tells (l : List S200) (hk : Rows VNode l) : Tells (fun k => pattern_tree.f k l) := by
 unfold pattern_tree.f
 have hk' : ∀ x ∈ l, x.f4.length ≤ maxLen := fun x hx => (hk.2 x hx).2.2.2.2.1
 have j0 : ∀ b : Bool, (b = false → 1 ≤ l.length ∧ l.length ≤ 256) → Tells (fun k => pattern_tree.j0 k (l.length : Int) b l) := fun b hb => by
  refine Tells.succ (fun k => by rw [pattern_tree.j0]) (Tells.ite (fun _ => Tells.const _) fun h => ?_)
  obtain ⟨h1, h2⟩ := hb (by simpa using h)
  refine Tells.ite (fun _ => Tells.ite (fun _ => ?_) fun h => Tells.absurd (by omega) h) fun h => Tells.absurd (by omega) h
  exact tree_tells l h2 hk' l.length 0 _ (Int.le_refl 0) h1 (by omega) (by simp)
 exact Tells.ite (fun _ => j0 true (by simp)) fun _ => j0 _ (by simp; omega)
theorem pcheck_tells (l0 : List ByteArray) (l1 : List S99) (l : List S200) (hk : Rows VNode l) : Tells (fun k => pattern_Check.f k l0 l1 l) := by
 unfold pattern_Check.f
 have hl := hk.1
 unfold maxLen at hl
 refine Tells.bind1 (fcheck_some _ _) fun v _ => Tells.ite (fun _ => Tells.bind (ptree_tells l hk) fun v _ => Tells.ite (fun _ => ?_) fun _ => Tells.const _) fun _ => Tells.const _
 have loop : ∀ (e : Nat) (j : Int), 0 ≤ j → (l.length : Int) ≤ j + e → Tells (fun k => pattern_Check.l0 k l (l.length : Int) j l0 l1) := by
  intro e
  induction e with
  | zero =>
   intro j hj he
   refine Tells.succ (fun k => by rw [pattern_Check.l0]) (Tells.ite (fun h => by omega) fun _ => Tells.const _)
  | succ e ih =>
   intro j hj he
   refine Tells.succ (fun k => by rw [pattern_Check.l0]) (Tells.ite (fun hlt => Tells.ite (fun _ => Tells.ite (fun _ => ?_) fun h => Tells.absurd hlt h) fun h => Tells.absurd hj h) fun _ => Tells.const _)
   rw [wrap_in (by omega) (by omega)]
   have := ih (j + 1) (by omega) (by omega)
   exact Tells.ite (fun _ => Tells.bind1 (fof_some _ _ _) fun v _ => Tells.ite (fun _ => this) fun _ => Tells.const _) fun _ => Tells.ite (fun _ => Tells.bind1 (ftext_some _ _ _ _) fun v _ => Tells.ite (fun _ => this) fun _ => Tells.const _) fun _ => this
 exact loop l.length 0 (Int.le_refl 0) (by omega)
theorem rcheck_tells (l0 : List ByteArray) (l1 : List S99) (x : S152) (hx : VRule x) : Tells (fun k => rule_Check.f k l0 l1 x.f0 x.f1 x.f2 x.f3.f0 x.f4.f0 x.f5 x.f6) := by
 obtain ⟨h0, h1, h2, h3, h4, h5, h6⟩ := hx
 have hl1 : x.f1.length ≤ maxLen := h1.1
 have hl2 : x.f2.length ≤ maxLen := h2.1
 unfold maxLen at hl1 hl2
 unfold rule_Check.f
 refine Tells.bind1 (fcheck_some _ _) fun v _ => Tells.ite (fun _ => Tells.bind1 (rnamed_some _) fun v _ => ?_) fun _ => Tells.const _
 have swaps : ∀ (e : Nat) (j : Int), 0 ≤ j → (x.f2.length : Int) ≤ j + e → Tells (fun k => rule_Check.l1 k x.f2 (x.f2.length : Int) j l0 l1 x.f0 x.f1 x.f2 x.f3.f0 x.f4.f0 x.f5 x.f6) := by
  intro e
  induction e with
  | zero =>
   intro j hj he
   refine Tells.succ (fun k => by rw [rule_Check.l1]) (Tells.ite (fun h => by omega) fun _ => Tells.bind (pcheck_tells _ _ _ h3) fun v _ => Tells.ite (fun _ => Tells.bind (pcheck_tells _ _ _ h4) fun v _ => Tells.ite (fun _ => Tells.const _) fun _ => Tells.const _) fun _ => Tells.const _)
  | succ e ih =>
   intro j hj he
   refine Tells.succ (fun k => by rw [rule_Check.l1]) (Tells.ite (fun hlt => Tells.ite (fun _ => Tells.ite (fun _ => Tells.bind1 (swap_some _ _ _ _ _ _ _) fun v _ => Tells.ite (fun _ => ?_) fun _ => Tells.const _) fun h => Tells.absurd hlt h) fun h => Tells.absurd hj h) fun _ => Tells.bind (pcheck_tells _ _ _ h3) fun v _ => Tells.ite (fun _ => Tells.bind (pcheck_tells _ _ _ h4) fun v _ => Tells.ite (fun _ => Tells.const _) fun _ => Tells.const _) fun _ => Tells.const _)
   rw [wrap_in (by omega) (by omega)]
   exact ih (j + 1) (by omega) (by omega)
 have slots : ∀ (e : Nat) (j : Int), 0 ≤ j → (x.f1.length : Int) ≤ j + e → Tells (fun k => rule_Check.l0 k x.f1 (x.f1.length : Int) j l0 l1 x.f0 x.f1 x.f2 x.f3.f0 x.f4.f0 x.f5 x.f6) := by
  intro e
  induction e with
  | zero =>
   intro j hj he
   refine Tells.succ (fun k => by rw [rule_Check.l0]) (Tells.ite (fun h => by omega) fun _ => swaps x.f2.length 0 (Int.le_refl 0) (by omega))
  | succ e ih =>
   intro j hj he
   refine Tells.succ (fun k => by rw [rule_Check.l0]) (Tells.ite (fun hlt => Tells.ite (fun _ => Tells.ite (fun _ => Tells.bind1 (either_some _ _ _ _ _) fun v _ => Tells.ite (fun _ => ?_) fun _ => Tells.const _) fun h => Tells.absurd hlt h) fun h => Tells.absurd hj h) fun _ => swaps x.f2.length 0 (Int.le_refl 0) (by omega))
   rw [wrap_in (by omega) (by omega)]
   exact ih (j + 1) (by omega) (by omega)
 have j0 : ∀ b : Bool, Tells (fun k => rule_Check.j0 k b l0 l1 x.f0 x.f1 x.f2 x.f3.f0 x.f4.f0 x.f5 x.f6) := fun b =>
  Tells.succ (fun k => by rw [rule_Check.j0]) (Tells.ite (fun _ => Tells.const _) fun _ => slots x.f1.length 0 (Int.le_refl 0) (by omega))
 exact Tells.ite (fun _ => Tells.ite (fun _ => j0 _) fun _ => Tells.ite (fun _ => j0 _) fun _ => Tells.ite (fun _ => j0 _) fun _ => Tells.ite (fun _ => j0 _) fun _ => j0 _) fun _ => j0 _
theorem lcheck_tells (l0 : List ByteArray) (l1 : List S99) (l : List S152) (hl : Rows VRule l) : Tells (fun k => law_Check.f k l0 l1 l) := by
 unfold law_Check.f
 refine Tells.bind1 (fcheck_some _ _) fun v _ => Tells.ite (fun _ => Tells.ite (fun _ => Tells.const _) fun hle => ?_) fun _ => Tells.const _
 have loop : ∀ (e : Nat) (j : Int), 0 ≤ j → (l.length : Int) ≤ j + e → Tells (fun k => law_Check.l0 k l (l.length : Int) j l0 l1) := by
  intro e
  induction e with
  | zero =>
   intro j hj he
   refine Tells.succ (fun k => by rw [law_Check.l0]) (Tells.ite (fun h => by omega) fun _ => Tells.const _)
  | succ e ih =>
   intro j hj he
   refine Tells.succ (fun k => by rw [law_Check.l0]) (Tells.ite (fun hlt => Tells.ite (fun _ => Tells.ite (fun _ => Tells.bind (rcheck_tells _ _ _ ?_) fun v _ => Tells.ite (fun _ => ?_) fun _ => Tells.const _) fun h => Tells.absurd hlt h) fun h => Tells.absurd hj h) fun _ => Tells.const _)
   ·have hi : j.toNat < l.length := by omega
    exact hl.2 _ (by simp [rd_T152, List.getD_eq_getElem?_getD, hi])
   ·rw [wrap_in (by omega) (by omega)]
    exact ih (j + 1) (by omega) (by omega)
 exact loop l.length 0 (Int.le_refl 0) (by omega)
theorem famCheck_tells (l0 : List ByteArray) (l1 : List S99) (l : List S39) (hl : Rows VBranch l) : Tells (fun k => family_Check.f k l0 l1 l) := by
 unfold family_Check.f
 refine Tells.bind1 (fcheck_some _ _) fun v _ => Tells.ite (fun _ => Tells.bind1 (shaped_some _) fun v hv => Tells.ite (fun hb => ?_) fun _ => Tells.const _) fun _ => Tells.const _
 subst hb
 have hlen := (tree_of_shaped hv).len
 have loop : ∀ (e : Nat) (j : Int), 0 ≤ j → (l.length : Int) ≤ j + e → Tells (fun k => family_Check.l0 k l (l.length : Int) j l0 l1 l) := by
  intro e
  induction e with
  | zero =>
   intro j hj he
   refine Tells.succ (fun k => by rw [family_Check.l0]) (Tells.ite (fun h => by omega) fun _ => Tells.const _)
  | succ e ih =>
   intro j hj he
   refine Tells.succ (fun k => by rw [family_Check.l0]) (Tells.ite (fun hlt => Tells.ite (fun _ => Tells.ite (fun _ => Tells.bind (lcheck_tells _ _ _ ?_) fun v _ => Tells.ite (fun _ => ?_) fun _ => Tells.const _) fun h => Tells.absurd hlt h) fun h => Tells.absurd hj h) fun _ => Tells.const _)
   ·have hi : j.toNat < l.length := by omega
    exact (hl.2 _ (by simp [rd_T39, List.getD_eq_getElem?_getD, hi])).2.2
   ·rw [wrap_in (by omega) (by omega)]
    exact ih (j + 1) (by omega) (by omega)
 exact loop l.length 0 (Int.le_refl 0) (by omega)
end Go.Proofs.YtplkoabikliagaaDoor.K
namespace Go.Proofs.YtplkoabikliagaaDoor.K
open Go.RowKit Go.Proofs.YtplkoabikliagaaDoorW.PrintWords Go.Proofs.YtplkoabikliagaaDoorW.PrintLast Go.Proofs.YtplkoabikliagaaDoorW.PrintMore
open Go.Proofs.YtplkoabikliagaaDoor.L
abbrev parI (l : List S39) (t : Int) : Int := (rd_T39 l t).f1
theorem parI_par (l : List S39) {t : Int} (h : 0 ≤ t) : parI l t = par l t.toNat := by
 unfold parI par
 rw [Int.toNat_of_nonneg h]
section
variable {l : List S39}
theorem Tree.down (h : Tree l) {t : Int} (h0 : 0 ≤ t) (h1 : t < l.length) : parI l t < t := by
 rw [parI_par l h0]
 have := h.lt t.toNat (by omega)
 omega
theorem Tree.nn (h : Tree l) {t : Int} (h0 : 0 < t) (h1 : t < l.length) : 0 ≤ parI l t := by
 rw [parI_par l (by omega)]
 exact (h.up t.toNat (by omega) (by omega)).1
theorem Tree.rootI (h : Tree l) : parI l 0 = -1 := h.root
def upL (l : List S39) : Nat → Int → List Int
 | 0, _ => []
 | n + 1, t => if 0 ≤ t then t :: upL l n (parI l t) else []
theorem upL_neg {t : Int} (h : t < 0) : ∀ n, upL l n t = []
 | 0 => rfl
 | n + 1 => by rw [upL, if_neg (by omega)]
theorem upL_fuel (h : Tree l) : ∀ (n m : Nat) (t : Int), t < l.length → t < n → t < m → upL l n t = upL l m t
 | 0, m, t, _, hn, _ => by rw [upL_neg (by omega), upL_neg (by omega)]
 | n + 1, 0, t, _, _, hm => by rw [upL_neg (by omega), upL_neg (by omega)]
 | n + 1, m + 1, t, hl, hn, hm => by
  rw [upL, upL]
  by_cases h0 : 0 ≤ t
  ·have := h.down h0 hl
   rw [if_pos h0, if_pos h0, upL_fuel h n m _ (by omega) (by omega) (by omega)]
  ·rw [if_neg h0, if_neg h0]
def U (l : List S39) (t : Int) : List Int := upL l (t + 1).toNat t
theorem U_neg {t : Int} (h : t < 0) : U l t = [] := upL_neg h _
theorem U_cons (h : Tree l) {t : Int} (h0 : 0 ≤ t) (h1 : t < l.length) : U l t = t :: U l (parI l t) := by
 have hd := h.down h0 h1
 unfold U
 rw [show (t + 1).toNat = t.toNat + 1 from by omega, upL, if_pos h0, upL_fuel h t.toNat (parI l t + 1).toNat _ (by omega) (by omega) (by omega)]
theorem up_ind (h : Tree l) {C : Int → Prop} (hneg : C (-1)) (hs : ∀ t : Int, 0 ≤ t → t < l.length → C (parI l t) → C t) : ∀ t : Int, -1 ≤ t → t < l.length → C t := by
 have key : ∀ (n : Nat) (t : Int), t < n → -1 ≤ t → t < l.length → C t := by
  intro n
  induction n with
  | zero => intro t hn h0 h1; rw [show t = -1 from by omega]; exact hneg
  | succ n ih =>
   intro t hn h0 h1
   by_cases ht : 0 ≤ t
   ·have hd := h.down ht h1
    refine hs t ht h1 (ih _ (by omega) ?_ (by omega))
    rcases Int.lt_or_eq_of_le ht with h2 | h2
    ·have := h.nn h2 h1; omega
    ·rw [← h2, h.rootI]; decide
   ·rw [show t = -1 from by omega]; exact hneg
 exact fun t h0 h1 => key (t + 1).toNat t (by omega) h0 h1
theorem par_ge (h : Tree l) {t : Int} (h0 : 0 ≤ t) (h1 : t < l.length) : -1 ≤ parI l t := by
 rcases Int.lt_or_eq_of_le h0 with h2 | h2
 ·have := h.nn h2 h1; omega
 ·rw [← h2, h.rootI]; decide
theorem U_le (h : Tree l) : ∀ t : Int, -1 ≤ t → t < l.length → ∀ z ∈ U l t, 0 ≤ z ∧ z ≤ t :=
 up_ind h (by rw [U_neg (by decide)]; simp) fun t h0 h1 ih z hz => by
  have hd := h.down h0 h1
  rw [U_cons h h0 h1] at hz
  rcases List.mem_cons.1 hz with rfl | hz
  ·exact ⟨h0, Int.le_refl _⟩
  ·have := ih z hz; omega
theorem U_self (h : Tree l) {t : Int} (h0 : 0 ≤ t) (h1 : t < l.length) : t ∈ U l t := by rw [U_cons h h0 h1]; simp
theorem U_sorted (h : Tree l) : ∀ t : Int, -1 ≤ t → t < l.length → (U l t).Pairwise (fun a b => b < a) :=
 up_ind h (by rw [U_neg (by decide)]; simp) fun t h0 h1 ih => by
  have hd := h.down h0 h1
  rw [U_cons h h0 h1, List.pairwise_cons]
  exact ⟨fun z hz => by have := U_le h _ (par_ge h h0 h1) (by omega) z hz; omega, ih⟩
theorem U_step (h : Tree l) : ∀ t : Int, -1 ≤ t → t < l.length → ∀ (j : Nat) (a b : Int), (U l t)[j]? = some a → (U l t)[j + 1]? = some b → parI l a = b :=
 up_ind h (by rw [U_neg (by decide)]; simp) fun t h0 h1 ih j a b ha hb => by
  have hd := h.down h0 h1
  rw [U_cons h h0 h1] at ha hb
  cases j with
  | zero =>
   have hp := par_ge h h0 h1
   simp only [List.getElem?_cons_zero, Option.some.injEq] at ha
   subst ha
   simp only [Nat.zero_add, List.getElem?_cons_succ] at hb
   by_cases hn : 0 ≤ parI l t
   ·rw [U_cons h hn (by omega)] at hb
    simpa using hb
   ·rw [U_neg (by omega)] at hb
    simp at hb
  | succ j =>
   simp only [List.getElem?_cons_succ] at ha hb
   exact ih j a b ha hb
theorem U_last (h : Tree l) : ∀ t : Int, -1 ≤ t → t < l.length → 0 ≤ t → (U l t).getLast? = some 0 :=
 up_ind h (fun h => absurd h (by decide)) fun t h0 h1 ih _ => by
  have hd := h.down h0 h1
  rw [U_cons h h0 h1]
  rcases Int.lt_or_eq_of_le h0 with h2 | h2
  ·have hn := h.nn h2 h1
   have := ih hn
   rw [List.getLast?_cons, this]
   rfl
  ·subst h2
   rw [h.rootI, U_neg (by decide)]
   rfl
theorem U_length (h : Tree l) : ∀ t : Int, -1 ≤ t → t < l.length → ((U l t).length : Int) ≤ t + 1 :=
 up_ind h (by rw [U_neg (by decide)]; simp) fun t h0 h1 ih => by
  have hd := h.down h0 h1
  rw [U_cons h h0 h1]
  simp only [List.length_cons]
  omega
def askd (n : Nat) (ts : List Int) : Int := if ts.all (fun z => decide (0 ≤ z) && decide (z < n)) = true then 0 else 8
theorem asked_l0 (ts : List Int) (hts : ts.length ≤ 1000) (l0 : List ByteArray) (l1 : List S99) (l : List S39) : ∀ (e : Nat) (j : Nat), ts.length ≤ j + e → Evt (fun k => family_asked.l0 k ts (ts.length : Int) (j : Int) l0 l1 l) (askd l.length (ts.drop j))
 | e, j, he => by
  refine Evt.succ (fun k => by rw [family_asked.l0]) ?_
  by_cases hlt : j < ts.length
  ·refine Evt.yes (by omega) (Evt.yes (by omega) (Evt.yes (by omega) ?_))
   have hr : rd ts (j : Int) = ts[j] := by simp [rd, List.getD_eq_getElem?_getD, hlt]
   rw [hr, List.drop_eq_getElem_cons hlt]
   by_cases h1 : ts[j] < 0
   ·have e8 : askd l.length (ts[j] :: ts.drop (j + 1)) = 8 := by
     unfold askd
     rw [List.all_cons, decide_eq_false (p := 0 ≤ ts[j]) (by omega)]
     rfl
    rw [e8]
    exact Evt.yes h1 (Evt.const _)
   ·refine Evt.no h1 ?_
    by_cases h2 : ts[j] ≥ (l.length : Int)
    ·have e8 : askd l.length (ts[j] :: ts.drop (j + 1)) = 8 := by
      unfold askd
      rw [List.all_cons, decide_eq_false (p := ts[j] < (l.length : Int)) (by omega), Bool.and_false, Bool.false_and]
      rfl
     rw [e8]
     exact Evt.yes h2 (Evt.const _)
    ·refine Evt.no h2 ?_
     have e1 : askd l.length (ts[j] :: ts.drop (j + 1)) = askd l.length (ts.drop (j + 1)) := by
      unfold askd
      rw [List.all_cons, decide_eq_true (by omega), decide_eq_true (by omega)]
      rfl
     rw [e1, wrap_in (by omega) (by omega)]
     match e, he with
     | 0, he => omega
     | e + 1, he => exact asked_l0 ts hts l0 l1 l e (j + 1) (by omega)
  ·refine Evt.no (by omega) ?_
   rw [List.drop_of_length_le (by omega)]
   exact Evt.const _
theorem asked_tells {l0 : List ByteArray} {l1 : List S99} {q : Int} (hq : Evt (fun k => family_Check.f k l0 l1 l) q) (ts : List Int) (hts : ts.length ≤ 1000) :
  Evt (fun k => family_asked.f k l0 l1 l ts) (if q = 0 then askd l.length ts else q) := by
 unfold family_asked.f
 refine Evt.bind hq ?_
 by_cases h0 : q = 0
 ·rw [if_pos h0]
  exact Evt.yes h0 (asked_l0 ts hts l0 l1 l ts.length 0 (by omega))
 ·rw [if_neg h0]
  exact Evt.no h0 (Evt.const _)
theorem rev_l0 (l : List Int) (hl : l.length ≤ 1000) : ∀ (e i : Nat) (x : List Int), l.length ≤ 2 * (i + e) → i ≤ l.length → x.length = l.length → (∀ j, j < l.length → x[j]? = if j < i ∨ l.length - i ≤ j then l[l.length - 1 - j]? else l[j]?) →
  Evt (fun k => slices_Reverse_int_int.l0 k x (i : Int) ((l.length : Int) - 1 - i)) l.reverse
 | e, i, x, he, hi, hx, hc => by
  refine Evt.succ (fun k => by rw [slices_Reverse_int_int.l0]) ?_
  by_cases hlt : 2 * i + 1 < l.length
  ·refine Evt.yes (by omega) (Evt.yes (by omega) (Evt.yes (by omega) (Evt.yes (by omega) (Evt.yes (by omega) ?_))))
   rw [wrap_in (by omega) (by omega), wrap_in (by omega) (by omega)]
   match e, he with
   | 0, he => omega
   | e + 1, he =>
    have e1 : ((l.length : Int) - 1 - i).toNat = l.length - 1 - i := by omega
    have e2 : (i : Int).toNat = i := by omega
    have e3 : (l.length : Int) - 1 - i - 1 = (l.length : Int) - 1 - ((i + 1 : Nat) : Int) := by omega
    rw [e3]
    refine rev_l0 l hl e (i + 1) _ (by omega) (by omega) (by simp [hx]) fun j hj => ?_
    have hxi := hc i (by omega)
    rw [if_neg (by omega)] at hxi
    have hxk := hc (l.length - 1 - i) (by omega)
    rw [if_neg (by omega)] at hxk
    simp only [rd, e1, e2, List.getD_eq_getElem?_getD, hxi, hxk, List.getElem?_set, List.length_set, hx]
    by_cases h1 : l.length - 1 - i = j
    ·rw [if_pos h1, if_pos (by omega), if_pos (by omega), List.getElem?_eq_getElem (by omega), List.getElem?_eq_getElem (by omega)]
     simp only [Option.getD_some, Option.some.injEq]
     congr 1
     omega
    ·rw [if_neg h1]
     by_cases h2 : i = j
     ·subst h2
      rw [if_pos rfl, if_pos (by omega), if_pos (by omega), List.getElem?_eq_getElem (by omega)]
      rfl
     ·rw [if_neg h2, hc j hj]
      by_cases h3 : j < i ∨ l.length - i ≤ j
      ·rw [if_pos h3, if_pos (by omega)]
      ·rw [if_neg h3, if_neg (by omega)]
  ·refine Evt.no (by omega) ?_
   have : x = l.reverse := by
    apply List.ext_getElem?
    intro j
    by_cases hj : j < l.length
    ·rw [hc j hj, List.getElem?_reverse hj]
     by_cases h3 : j < i ∨ l.length - i ≤ j
     ·rw [if_pos h3]
     ·rw [if_neg h3]
      congr 1
      omega
    ·rw [List.getElem?_eq_none (by omega), List.getElem?_eq_none (by simp; omega)]
   rw [this]
   exact Evt.const _
theorem rev_tells (l : List Int) (hl : l.length ≤ 1000) : Evt (fun k => slices_Reverse_int_int.f k l) l.reverse := by
 unfold slices_Reverse_int_int.f
 rw [wrap_in (by omega) (by omega)]
 have := rev_l0 l hl l.length 0 l (by omega) (by omega) rfl fun j hj => by rw [if_neg (by omega)]
 simpa using this
theorem path_l0 (h : Tree l) (l0 : List ByteArray) (l1 : List S99) : ∀ t : Int, -1 ≤ t → t < l.length → ∀ acc : List Int, (acc.length : Int) + t ≤ 900 → Evt (fun k => family_path.l0 k t acc l0 l1 l) ((acc ++ U l t).reverse) :=
 up_ind h (fun acc ha => by
  refine Evt.succ (fun k => by rw [family_path.l0]) (Evt.no (by decide) ?_)
  rw [U_neg (by decide), List.append_nil]
  exact Evt.bind (rev_tells acc (by omega)) (Evt.const _)) fun t h0 h1 ih acc ha => by
  have hd := h.down h0 h1
  refine Evt.succ (fun k => by rw [family_path.l0]) (Evt.yes h0 (Evt.yes (by omega) (Evt.yes h0 (Evt.yes h1 ?_))))
  have := ih (acc ++ [t]) (by simp; omega)
  rw [U_cons h h0 h1]
  simpa using this
theorem Path_tells {l0 : List ByteArray} {l1 : List S99} {q : Int} (hq : Evt (fun k => family_Check.f k l0 l1 l) q) (ht : q = 0 → Tree l) (a : Int) :
  Evt (fun k => family_Path.f k l0 l1 l a) (if q = 0 then (if 0 ≤ a ∧ a < l.length then ((U l a).reverse, 0) else ([], 8)) else ([], q)) := by
 unfold family_Path.f
 refine Evt.bind (asked_tells hq [a] (by simp)) ?_
 by_cases h0 : q = 0
 ·have h := ht h0
  have hl := h.len
  rw [if_pos h0, if_pos h0]
  by_cases ha : 0 ≤ a ∧ a < l.length
  ·rw [if_pos ha]
   refine Evt.yes (by simp [askd, ha.1, ha.2]) (Evt.bind (?_ : Evt _ (U l a).reverse) (Evt.const _))
   unfold family_path.f
   exact path_l0 h l0 l1 a (by omega) ha.2 [] (by simp; omega)
  ·rw [if_neg ha]
   have : askd l.length [a] = 8 := by
    unfold askd
    rw [if_neg (by simpa using ha)]
   rw [this]
   exact Evt.no (by decide) (Evt.const _)
 ·rw [if_neg h0, if_neg h0]
  exact Evt.no h0 (Evt.const _)
def Meet (l : List S39) (x y m : Int) : Prop := m ∈ U l x ∧ m ∈ U l y ∧ ∀ z ∈ U l x, z ∈ U l y → z ≤ m
theorem Meet.uniq {x y m m' : Int} (h : Meet l x y m) (h' : Meet l x y m') : m = m' := by
 have := h.2.2 m' h'.1 h'.2.1
 have := h'.2.2 m h.1 h.2.1
 omega
theorem Meet.symm {x y m : Int} (h : Meet l x y m) : Meet l y x m := ⟨h.2.1, h.1, fun z h1 h2 => h.2.2 z h2 h1⟩
theorem near_l0 (h : Tree l) (l0 : List ByteArray) (l1 : List S99) : ∀ (s : Nat) (x y : Int), 0 ≤ x → x < l.length → 0 ≤ y → y < l.length → x + y < s → ∃ m, Evt (fun k => family_Near.l0 k x y l0 l1 l) (m, 0) ∧ Meet l x y m
 | 0, x, y, hx0, hx1, hy0, hy1, hs => by omega
 | s + 1, x, y, hx0, hx1, hy0, hy1, hs => by
  by_cases he : x = y
  ·subst he
   exact ⟨x, Evt.succ (fun k => by rw [family_Near.l0]) (Evt.yes rfl (Evt.const _)), U_self h hx0 hx1, U_self h hx0 hx1, fun z hz _ => (U_le h x (by omega) hx1 z hz).2⟩
  ·by_cases hgt : x > y
   ·have hd := h.down hx0 hx1
    have hn := h.nn (by omega) hx1
    obtain ⟨m, h1, h2, h3, h4⟩ := near_l0 h l0 l1 s (parI l x) y hn (by omega) hy0 hy1 (by omega)
    refine ⟨m, Evt.succ (fun k => by rw [family_Near.l0]) (Evt.no he (Evt.yes hgt (Evt.yes hx0 (Evt.yes hx1 h1)))), ?_, h3, fun z hz hz2 => ?_⟩
    ·rw [U_cons h hx0 hx1]; exact List.mem_cons_of_mem _ h2
    ·rw [U_cons h hx0 hx1] at hz
     rcases List.mem_cons.1 hz with rfl | hz
     ·have := U_le h y (by omega) hy1 z hz2; omega
     ·exact h4 z hz hz2
   ·have hd := h.down hy0 hy1
    have hn := h.nn (by omega) hy1
    obtain ⟨m, h1, h2, h3, h4⟩ := near_l0 h l0 l1 s x (parI l y) hx0 hx1 hn (by omega) (by omega)
    refine ⟨m, Evt.succ (fun k => by rw [family_Near.l0]) (Evt.no he (Evt.no hgt (Evt.yes hy0 (Evt.yes hy1 h1)))), h2, ?_, fun z hz hz2 => ?_⟩
    ·rw [U_cons h hy0 hy1]; exact List.mem_cons_of_mem _ h3
    ·rw [U_cons h hy0 hy1] at hz2
     rcases List.mem_cons.1 hz2 with rfl | hz2
     ·have := U_le h x (by omega) hx1 z hz; omega
     ·exact h4 z hz hz2
theorem Near_tells {l0 : List ByteArray} {l1 : List S99} {q : Int} (hq : Evt (fun k => family_Check.f k l0 l1 l) q) (ht : q = 0 → Tree l) (x y : Int) :
  ∃ m e, Evt (fun k => family_Near.f k l0 l1 l x y) (m, e) ∧ ((q = 0 ∧ (0 ≤ x ∧ x < l.length) ∧ (0 ≤ y ∧ y < l.length)) → e = 0 ∧ Meet l x y m) ∧ (¬ (q = 0 ∧ (0 ≤ x ∧ x < l.length) ∧ (0 ≤ y ∧ y < l.length)) → e ≠ 0 ∧ m = 0) := by
 unfold family_Near.f
 by_cases h0 : q = 0
 ·have h := ht h0
  by_cases hb : (0 ≤ x ∧ x < l.length) ∧ (0 ≤ y ∧ y < l.length)
  ·obtain ⟨m, h1, h2⟩ := near_l0 h l0 l1 (x + y + 1).toNat x y hb.1.1 hb.1.2 hb.2.1 hb.2.2 (by omega)
   refine ⟨m, 0, Evt.bind (asked_tells hq [x, y] (by simp)) ?_, fun _ => ⟨rfl, h2⟩, fun hn => absurd ⟨h0, hb⟩ hn⟩
   rw [if_pos h0]
   refine Evt.yes ?_ h1
   unfold askd
   rw [if_pos (by simp [hb.1.1, hb.1.2, hb.2.1, hb.2.2])]
  ·refine ⟨0, 8, Evt.bind (asked_tells hq [x, y] (by simp)) ?_, fun hn => absurd hn.2 hb, fun _ => ⟨by decide, rfl⟩⟩
   rw [if_pos h0]
   have : askd l.length [x, y] = 8 := by
    unfold askd
    rw [if_neg (by simp; omega)]
   rw [this]
   exact Evt.no (by decide) (Evt.const _)
 ·refine ⟨0, q, Evt.bind (asked_tells hq [x, y] (by simp)) ?_, fun hn => absurd hn.1 h0, fun _ => ⟨h0, rfl⟩⟩
  rw [if_neg h0]
  exact Evt.no h0 (Evt.const _)
theorem Leaves_tells {l0 : List ByteArray} {l1 : List S99} (hq : Evt (fun k => family_Check.f k l0 l1 l) 0) (ht : Tree l) : Evt (fun k => family_Leaves.f k l0 l1 l) (leavesFrom l 0 l.length, 0) := by
 unfold family_Leaves.f
 refine Evt.bind (asked_tells hq [] (by simp)) ?_
 exact Evt.yes rfl (Evt.yes ht.len (Evt.const _))
theorem Text_tells {l0 : List ByteArray} {l1 : List S99} (hq : Evt (fun k => family_Check.f k l0 l1 l) 0) : Evt (fun k => family_Text.f k l0 l1 l) (⟨(drawB l l.length 0 0).toArray⟩, 0) := by
 unfold family_Text.f
 refine Evt.bind (asked_tells hq [] (by simp)) ?_
 exact Evt.yes rfl (Evt.const _)
theorem leaves_mem : ∀ (n j : Nat) (z : Int), z ∈ leavesFrom l j n → ∃ i : Nat, z = i ∧ j ≤ i ∧ i < j + n ∧ leafIs l i = true
 | 0, _, z, h => by simp [leavesFrom] at h
 | n + 1, j, z, h => by
  rw [leavesFrom] at h
  have rest : z ∈ leavesFrom l (j + 1) n → ∃ i : Nat, z = i ∧ j ≤ i ∧ i < j + (n + 1) ∧ leafIs l i = true := fun h => by
   obtain ⟨i, h1, h2, h3, h4⟩ := leaves_mem n (j + 1) z h
   exact ⟨i, h1, by omega, by omega, h4⟩
  split at h
  ·rename_i hl
   rcases List.mem_cons.1 h with rfl | h
   ·exact ⟨j, rfl, Nat.le_refl _, by omega, hl⟩
   ·exact rest h
  ·exact rest h
theorem leaves_has : ∀ (n j i : Nat), j ≤ i → i < j + n → leafIs l i = true → (i : Int) ∈ leavesFrom l j n
 | 0, j, i, h1, h2, _ => by omega
 | n + 1, j, i, h1, h2, h3 => by
  rw [leavesFrom]
  by_cases he : i = j
  ·subst he; rw [if_pos h3]; simp
  ·have := leaves_has n (j + 1) i (by omega) (by omega) h3
   split
   ·exact List.mem_cons_of_mem _ this
   ·exact this
theorem leaves_ne (h : Tree l) : leavesFrom l 0 l.length ≠ [] := by
 have hp := h.pos
 have hleaf : leafIs l (l.length - 1) = true := by
  unfold leafIs
  rw [Bool.not_eq_true', List.any_eq_false]
  intro b hb
  obtain ⟨i, hi, rfl⟩ := List.mem_iff_getElem.1 hb
  have := h.lt i hi
  rw [par_get hi] at this
  simp only [decide_eq_true_eq]
  omega
 have := leaves_has l.length 0 (l.length - 1) (by omega) (by omega) hleaf
 intro e
 rw [e] at this
 simp at this
theorem leaf_no {i : Nat} (h : leafIs l i = true) (j : Int) (h0 : 0 ≤ j) (h1 : j < l.length) : (rd_T39 l j).f1 ≠ (i : Int) := by
 unfold leafIs at h
 rw [Bool.not_eq_true', List.any_eq_false] at h
 have hj : j.toNat < l.length := by omega
 have hm : rd_T39 l j ∈ l := by simp [rd_T39, List.getD_eq_getElem?_getD, hj]
 have := h _ hm
 simpa using this
end
end Go.Proofs.YtplkoabikliagaaDoor.K
namespace Go.Proofs.YtplkoabikliagaaDoor.K
open Go.RowKit Go.Proofs.YtplkoabikliagaaDoorW.PrintWords Go.Proofs.YtplkoabikliagaaDoorW.PrintLast Go.Proofs.YtplkoabikliagaaDoorW.PrintMore
open Go.Proofs.YtplkoabikliagaaDoor.L
theorem bad10 : famBad 10 = true := by decide
theorem idx_good (s : ByteArray) : ∀ (f pos : Nat), s.size ≤ pos + f → Lib.idxFuncFrom famBad true s f pos < 0 → ∀ i, pos ≤ i → ∀ h : i < s.size, (s[i]'h).toNat ≠ 10
 | 0, pos, hf, _, i, hi, h => by omega
 | f + 1, pos, hf, hx, i, hi, h => by
  have hp : pos < s.size := by omega
  unfold Lib.idxFuncFrom at hx
  rw [if_pos hp] at hx
  by_cases hb : famBad (Utf8.decode s pos).1 = true
  ·rw [if_pos hb] at hx; omega
  ·rw [if_neg hb] at hx
   by_cases ha : (s[pos]'hp).toNat < 128
   ·rw [decode_ascii s pos hp ha] at hx hb
    rcases Nat.eq_or_lt_of_le hi with rfl | hi
    ·intro e
     rw [e] at hb
     exact hb bad10
    ·exact idx_good s f (pos + 1) (by omega) hx i hi h
   ·have := (decode_high s pos hp (by omega)).1
    exact absurd (by unfold famBad; simp; omega) hb
theorem name_no10 {s : ByteArray} (h : family_named.f s = some true) : ∀ b ∈ s.data.toList, b ≠ 10 := by
 unfold family_named.f at h
 split at h
 ·simp at h
 ·split at h
  ·have hx : Lib.idxFunc famBad true s < 0 := by
    simp only [Option.some.injEq, Bool.not_eq_true', decide_eq_false_iff_not] at h
    omega
   intro b hb e
   obtain ⟨i, hi, hib⟩ := List.mem_iff_getElem.1 hb
   have hi' : i < s.size := by simpa using hi
   have := idx_good s s.size 0 (by omega) hx i (Nat.zero_le _) hi'
   apply this
   have e2 : s[i]'hi' = b := by rw [← hib]; rfl
   rw [e2, e]
   rfl
  ·simp at h
theorem drawB_lines {l : List S39} (h : Tree l) : ∀ n t d, t < l.length → (drawB l n t d).count 10 = cntT l n t
 | 0, _, _, _ => rfl
 | n + 1, t, d, ht => by
  rw [drawB_succ, cntT, List.count_append, List.count_flatMap, ← List.range_eq_range']
  congr 1
  ·have hm : rd_T39 l (t : Int) ∈ l := by simp [rd_T39, List.getD_eq_getElem?_getD, ht]
   have hno := name_no10 (h.named _ hm)
   have e1 : (List.replicate (2 * d) (32 : UInt8)).count 10 = 0 := List.count_eq_zero.2 fun hb => by
    have := List.eq_of_mem_replicate hb
    exact absurd this (by decide)
   have e2 : (rd_T39 l (t : Int)).f0.data.toList.count 10 = 0 := List.count_eq_zero.2 fun hb => hno 10 hb rfl
   rw [lineB, List.count_append, List.count_append, e1, e2]
   rfl
  ·refine sum_congr _ fun i hi => ?_
   have hi' := List.mem_range.1 hi
   show List.count 10 (kidB l n t d i) = _
   unfold kidB par
   split
   ·exact drawB_lines h n i (d + 1) hi'
   ·rfl
theorem drawB_count {l : List S39} (h : Tree l) : (drawB l l.length 0 0).count 10 = l.length := by
 rw [drawB_lines h l.length 0 0 h.pos, cnt_all h]
end Go.Proofs.YtplkoabikliagaaDoor.K
namespace Go.Proofs.YtplkoabikliagaaDoor.K
open Go.RowKit Go.Proofs.YtplkoabikliagaaDoorW.PrintWords Go.Proofs.YtplkoabikliagaaDoorW.PrintLast Go.Proofs.YtplkoabikliagaaDoorW.PrintMore
open Go.Proofs.YtplkoabikliagaaDoor.L
set_option maxRecDepth 100000 in
theorem awake_true : Evt (fun k => cognatelaw27_awake.f k) true := Evt.of_mono (fun k => cognatelaw27_awake.mono k) 12 (by kernel_rfl)
theorem large_tells (l0 : List ByteArray) (l1 : List S99) (l : List S39) : Tells (fun k => cognatelaw27_large.f k l0 l1 l) := by
 unfold cognatelaw27_large.f
 have key : ∀ (e : Nat) (c i : Int), 0 ≤ i → 40 ≤ i + e → Tells (fun k => cognatelaw27_large.l0 k c i l0 l1 l) := by
  intro e
  induction e with
  | zero =>
   intro c i h0 h1
   refine Tells.succ (fun k => by rw [cognatelaw27_large.l0]) (Tells.ite (fun _ => ?_) fun _ => ?_)
   ·rw [decide_eq_false (by omega)]
    exact Tells.succ (fun k => by rw [cognatelaw27_large.j1]) (Tells.ite (fun h => by cases h) fun _ => Tells.const _)
   ·exact Tells.succ (fun k => by rw [cognatelaw27_large.j1]) (Tells.ite (fun h => by cases h) fun _ => Tells.const _)
  | succ e ih =>
   intro c i h0 h1
   refine Tells.succ (fun k => by rw [cognatelaw27_large.l0]) (Tells.ite (fun hlt => ?_) fun _ => ?_)
   ·refine Tells.succ (fun k => by rw [cognatelaw27_large.j1]) (Tells.ite (fun hd => Tells.ite (fun _ => Tells.ite (fun _ => ?_) fun h => Tells.absurd hlt h) fun h => Tells.absurd h0 h) fun _ => Tells.const _)
    have : i < 40 := by simpa using hd
    rw [wrap_in (n := i + 1) (by omega) (by omega)]
    exact Tells.ite (fun _ => ih _ (i + 1) (by omega) (by omega)) fun _ => ih _ (i + 1) (by omega) (by omega)
   ·exact Tells.succ (fun k => by rw [cognatelaw27_large.j1]) (Tells.ite (fun h => by cases h) fun _ => Tells.const _)
 exact key 40 0 0 (Int.le_refl 0) (by omega)
section
variable {l : List S39} {l0 : List ByteArray} {l1 : List S99}
theorem fp_l5 (s : ByteArray) (hs : s.size ≤ 100000) (v : Bool) : ∀ (e i c : Nat), s.size ≤ i + e → i ≤ s.size → c ≤ i → (((c + (s.data.toList.drop i).count 10 : Nat) : Int) == (l.length : Int)) = v → Evt (fun k => cognatelaw27_FamilyPaths.l5 k s (c : Int) (i : Int) l0 l1 l) v
 | e, i, c, he, hi, hc, hv => by
  refine Evt.succ (fun k => by rw [cognatelaw27_FamilyPaths.l5]) ?_
  by_cases hlt : i < s.size
  ·have hl : i < s.data.toList.length := by simpa using hlt
   have hb : bt s (i : Int) = ((s.data.toList[i]'hl).toNat : Int) := by
    unfold bt
    rw [dif_pos (by simpa using hlt)]
    rfl
   rw [List.drop_eq_getElem_cons hl] at hv
   rw [hb]
   refine Evt.yes (by omega) (Evt.yes (by omega) ?_)
   match e, he with
   | 0, he => omega
   | e + 1, he =>
    rw [wrap_in (n := (i : Int) + 1) (by omega) (by omega), wrap_in (n := (c : Int) + 1) (by omega) (by omega)]
    by_cases h10 : s.data.toList[i]'hl = 10
    ·refine Evt.yes (by rw [h10]; rfl) ?_
     rw [h10, List.count_cons_self] at hv
     exact fp_l5 s hs v e (i + 1) (c + 1) (by omega) (by omega) (by omega) (by rw [← hv]; congr 2; omega)
    ·refine Evt.no (fun h => h10 (UInt8.toNat_inj.1 (by simpa using (Int.ofNat_inj.1 h)))) ?_
     rw [List.count_cons_of_ne (fun h => h10 h)] at hv
     exact fp_l5 s hs v e (i + 1) c (by omega) (by omega) (by omega) hv
  ·refine Evt.no (by omega) ?_
   rw [List.drop_of_length_le (by simp; omega)] at hv
   rw [← hv]
   exact Evt.const _
theorem fp_l3 (h : Tree l) (s : ByteArray) (hs : s.size ≤ 100000) (v : Bool) (hv : Evt (fun k => cognatelaw27_FamilyPaths.l5 k s 0 0 l0 l1 l) v) (ls : List Int) (hn : ls.length ≤ 1000) (hl : ∀ z ∈ ls, ∃ i : Nat, z = i ∧ leafIs l i = true) :
  ∀ (e i : Nat), ls.length ≤ i + e → i ≤ ls.length → Evt (fun k => cognatelaw27_FamilyPaths.l3 k ls s (i : Int) l0 l1 l) v
 | e, i, he, hi => by
  have hlen := h.len
  refine Evt.succ (fun k => by rw [cognatelaw27_FamilyPaths.l3]) ?_
  by_cases hlt : i < ls.length
  ·refine Evt.yes (by omega) ?_
   obtain ⟨q, hq, hleaf⟩ := hl (ls[i]'hlt) (List.getElem_mem hlt)
   have hr : rd ls (i : Int) = (q : Int) := by simp [rd, List.getD_eq_getElem?_getD, hlt, hq]
   have inner : ∀ (d j : Nat), l.length ≤ j + d → j ≤ l.length → Evt (fun k => cognatelaw27_FamilyPaths.l4 k ls s (i : Int) (j : Int) l0 l1 l) v := by
    intro d
    induction d with
    | zero =>
     intro j hd hj
     refine Evt.succ (fun k => by rw [cognatelaw27_FamilyPaths.l4]) (Evt.no (by omega) ?_)
     rw [wrap_in (n := (i : Int) + 1) (by omega) (by omega)]
     match e, he with
     | 0, he => omega
     | e + 1, he => exact fp_l3 h s hs v hv ls hn hl e (i + 1) (by omega) (by omega)
    | succ d ih =>
     intro j hd hj
     refine Evt.succ (fun k => by rw [cognatelaw27_FamilyPaths.l4]) ?_
     by_cases hjl : j < l.length
     ·refine Evt.yes (by omega) (Evt.yes (by omega) (Evt.yes (by omega) (Evt.yes (by omega) ?_)))
      rw [hr, wrap_in (n := (j : Int) + 1) (by omega) (by omega)]
      exact Evt.no (leaf_no hleaf (j : Int) (by omega) (by omega)) (ih (j + 1) (by omega) (by omega))
     ·refine Evt.no (by omega) ?_
      rw [wrap_in (n := (i : Int) + 1) (by omega) (by omega)]
      match e, he with
      | 0, he => omega
      | e + 1, he => exact fp_l3 h s hs v hv ls hn hl e (i + 1) (by omega) (by omega)
   exact inner l.length 0 (by omega) (by omega)
  ·exact Evt.no (by omega) hv
theorem leaves_short : ∀ (n j : Nat), (leavesFrom l j n).length ≤ n
 | 0, _ => Nat.le_refl _
 | n + 1, j => by
  have := leaves_short n (j + 1)
  rw [leavesFrom]
  split
  ·simp; omega
  ·omega
theorem fp_end (h : Tree l) (hq : Evt (fun k => family_Check.f k l0 l1 l) 0) (x1 x2 m : Int) (p q : List Int) (hm : x1 = x2 → m = x1) :
  Evt (fun k => cognatelaw27_FamilyPaths.l1 k x1 x2 p q m m (p.length : Int) l0 l1 l) true := by
 have hlen := h.len
 have hdl := drawB_all h
 refine Evt.succ (fun k => by rw [cognatelaw27_FamilyPaths.l1]) (Evt.no (by omega) (Evt.bind (Leaves_tells hq h) (Evt.bind (Text_tells hq) ?_)))
 have hne := leaves_ne h
 have hflag : (((leavesFrom l 0 l.length).length : Int) == 0) = false := by
  have : (leavesFrom l 0 l.length).length ≠ 0 := fun e => hne (List.length_eq_zero_iff.1 e)
  simp
  omega
 have hsz : (⟨(drawB l l.length 0 0).toArray⟩ : ByteArray).size ≤ 100000 := by
  have : (⟨(drawB l l.length 0 0).toArray⟩ : ByteArray).size = (drawB l l.length 0 0).length := by simp [ByteArray.size]
  omega
 have hfin : Evt (fun k => cognatelaw27_FamilyPaths.j5 k (leavesFrom l 0 l.length) ⟨(drawB l l.length 0 0).toArray⟩ (((leavesFrom l 0 l.length).length : Int) == 0) l0 l1 l) true := by
  refine Evt.succ (fun k => by rw [cognatelaw27_FamilyPaths.j5]) (Evt.no (by rw [hflag]; simp) ?_)
  have hsh := leaves_short (l := l) l.length 0
  refine fp_l3 h _ hsz true ?_ _ (by omega) (fun z hz => ?_) (leavesFrom l 0 l.length).length 0 (by omega) (by omega)
  ·refine fp_l5 _ hsz true (⟨(drawB l l.length 0 0).toArray⟩ : ByteArray).size 0 0 (by omega) (by omega) (by omega) ?_
   have := drawB_count h
   simp [this]
  ·obtain ⟨i, h1, _, _, h2⟩ := leaves_mem _ _ z hz
   exact ⟨i, h1, h2⟩
 refine Evt.yes rfl ?_
 by_cases hxx : x1 = x2
 ·refine Evt.yes hxx (Evt.yes (hm hxx) (Evt.yes rfl (Evt.yes rfl hfin)))
 ·exact Evt.no hxx (Evt.yes rfl (Evt.yes rfl hfin))
theorem fp_l1 (h : Tree l) (hq : Evt (fun k => family_Check.f k l0 l1 l) 0) (x1 x2 m : Int) (p q : List Int) (hp : p.length ≤ 1000) (hql : q.length ≤ 1000) (hm : x1 = x2 → m = x1) (hs : p.Pairwise (fun a b => a < b)) (h1 : m ∈ p) (h2 : m ∈ q) (h3 : ∀ z ∈ p, z ∈ q → z ≤ m) :
  ∀ (e i : Nat) (last : Int), p.length ≤ i + e → i ≤ p.length → (∀ j (hj : j < p.length), j < i → p[j] ∈ q → p[j] ≤ last) → (last = -1 ∨ (last ∈ q ∧ ∃ j, ∃ hj : j < p.length, j < i ∧ p[j] = last)) → (0 ≤ m) →
   Evt (fun k => cognatelaw27_FamilyPaths.l1 k x1 x2 p q m last (i : Int) l0 l1 l) true
 | e, i, last, he, hi, ha, hb, hm0 => by
  by_cases hlt : i < p.length
  ·refine Evt.succ (fun k => by rw [cognatelaw27_FamilyPaths.l1]) (Evt.yes (by omega) ?_)
   have hr : rd p (i : Int) = p[i] := by simp [rd, List.getD_eq_getElem?_getD, hlt]
   have asc : ∀ j (hj : j < p.length), j < i → p[j] < p[i] := fun j hj hji => List.pairwise_iff_getElem.1 hs j i hj hlt hji
   have inner : ∀ (d j : Nat) (la : Int), q.length ≤ j + d → j ≤ q.length → ((la = last ∧ ∀ b (hb : b < q.length), b < j → q[b] ≠ p[i]) ∨ (la = p[i] ∧ p[i] ∈ q)) → Evt (fun k => cognatelaw27_FamilyPaths.l2 k x1 x2 p q m la (i : Int) (j : Int) l0 l1 l) true := by
    have done : ∀ la, ((la = last ∧ p[i] ∉ q) ∨ (la = p[i] ∧ p[i] ∈ q)) → Evt (fun k => cognatelaw27_FamilyPaths.l1 k x1 x2 p q m la (wrap64 ((i : Int) + 1)) l0 l1 l) true := fun la hla => by
     rw [wrap_in (n := (i : Int) + 1) (by omega) (by omega)]
     match e, he with
     | 0, he => omega
     | e + 1, he =>
      refine fp_l1 h hq x1 x2 m p q hp hql hm hs h1 h2 h3 e (i + 1) la (by omega) (by omega) (fun j hj hji hjq => ?_) ?_ hm0
      ·rcases hla with ⟨rfl, hn⟩ | ⟨rfl, hn⟩
       ·by_cases hji2 : j < i
        ·exact ha j hj hji2 hjq
        ·obtain rfl : j = i := by omega
         exact absurd hjq hn
       ·by_cases hji2 : j < i
        ·exact Int.le_of_lt (asc j hj hji2)
        ·obtain rfl : j = i := by omega
         exact Int.le_refl _
      ·rcases hla with ⟨rfl, hn⟩ | ⟨rfl, hn⟩
       ·rcases hb with hb | ⟨hb1, j, hj, hji, hjl⟩
        ·exact .inl hb
        ·exact .inr ⟨hb1, j, hj, by omega, hjl⟩
       ·exact .inr ⟨hn, i, hlt, by omega, rfl⟩
    intro d
    induction d with
    | zero =>
     intro j la hd hj hla
     refine Evt.succ (fun k => by rw [cognatelaw27_FamilyPaths.l2]) (Evt.no (by omega) (done la ?_))
     rcases hla with ⟨h1, h2⟩ | h1
     ·refine .inl ⟨h1, fun hmem => ?_⟩
      obtain ⟨b, hb, hbe⟩ := List.mem_iff_getElem.1 hmem
      exact h2 b hb (by omega) hbe
     ·exact .inr h1
    | succ d ih =>
     intro j la hd hj hla
     refine Evt.succ (fun k => by rw [cognatelaw27_FamilyPaths.l2]) ?_
     by_cases hjl : j < q.length
     ·refine Evt.yes (by omega) (Evt.yes (by omega) (Evt.yes (by omega) (Evt.yes (by omega) ?_)))
      have hr2 : rd q (j : Int) = q[j] := by simp [rd, List.getD_eq_getElem?_getD, hjl]
      rw [hr, hr2, wrap_in (n := (j : Int) + 1) (by omega) (by omega)]
      by_cases he : p[i] = q[j]
      ·exact Evt.yes he (ih (j + 1) _ (by omega) (by omega) (.inr ⟨rfl, by rw [he]; exact List.getElem_mem hjl⟩))
      ·refine Evt.no he (ih (j + 1) _ (by omega) (by omega) ?_)
       rcases hla with ⟨h1, h2⟩ | h1
       ·refine .inl ⟨h1, fun b hb hbj hbe => ?_⟩
        by_cases hbj2 : b < j
        ·exact h2 b hb hbj2 hbe
        ·obtain rfl : b = j := by omega
         exact he hbe.symm
       ·exact .inr h1
     ·refine Evt.no (by omega) (done la ?_)
      rcases hla with ⟨h1, h2⟩ | h1
      ·refine .inl ⟨h1, fun hmem => ?_⟩
       obtain ⟨b, hb, hbe⟩ := List.mem_iff_getElem.1 hmem
       exact h2 b hb (by omega) hbe
      ·exact .inr h1
   exact inner q.length 0 last (by omega) (by omega) (.inl ⟨rfl, fun b hb hb0 => by omega⟩)
  ·have hie : i = p.length := by omega
   obtain ⟨jm, hjm, hjme⟩ := List.mem_iff_getElem.1 h1
   have h4 := ha jm hjm (by omega) (by rw [hjme]; exact h2)
   rw [hjme] at h4
   have : last = m := by
    rcases hb with hb | ⟨hb1, j, hj, hji, hjl⟩
    ·omega
    ·have := h3 last (by rw [← hjl]; exact List.getElem_mem hj) hb1
     omega
   rw [this, hie]
   exact fp_end h hq x1 x2 m p q hm
theorem fp_l0 (h : Tree l) (x1 x2 m a : Int) (ha0 : 0 ≤ a) (ha1 : a < l.length) (q : List Int) (hnext : Evt (fun k => cognatelaw27_FamilyPaths.l1 k x1 x2 (U l a).reverse q m (-1) 0 l0 l1 l) true) :
  ∀ (e i : Nat), (U l a).length ≤ i + e → 1 ≤ i → i ≤ (U l a).length → Evt (fun k => cognatelaw27_FamilyPaths.l0 k x1 x2 (U l a).reverse q m (i : Int) l0 l1 l) true
 | e, i, he, h1, hi => by
  have hlen := h.len
  have hul := U_length h a (by omega) ha1
  refine Evt.succ (fun k => by rw [cognatelaw27_FamilyPaths.l0]) ?_
  by_cases hlt : i < (U l a).length
  ·have hj : (U l a).length - 1 - i < (U l a).length := by omega
   have hj2 : (U l a).length - 1 - i + 1 < (U l a).length := by omega
   have e1 : rd (U l a).reverse (i : Int) = (U l a)[(U l a).length - 1 - i] := by
    simp [rd, List.getD_eq_getElem?_getD, hlt]
   have e2 : rd (U l a).reverse ((i : Int) - 1) = (U l a)[(U l a).length - 1 - i + 1] := by
    have e3 : ((i : Int) - 1).toNat = i - 1 := by omega
    have hlt' : i - 1 < (U l a).length := by omega
    have e4 : (U l a).length - 1 - (i - 1) = (U l a).length - 1 - i + 1 := by omega
    simp only [rd, e3, List.getD_eq_getElem?_getD, List.getElem?_reverse hlt', e4, List.getElem?_eq_getElem hj2, Option.getD_some]
   have hu := U_le h a (by omega) ha1 _ (List.getElem_mem hj)
   have hst := U_step h a (by omega) ha1 ((U l a).length - 1 - i) _ _ (List.getElem?_eq_getElem hj) (List.getElem?_eq_getElem hj2)
   have hso := List.pairwise_iff_getElem.1 (U_sorted h a (by omega) ha1) _ _ hj hj2 (by omega)
   generalize (U l a)[(U l a).length - 1 - i] = z at *
   generalize (U l a)[(U l a).length - 1 - i + 1] = y at *
   rw [wrap_in (n := (i : Int) - 1) (by omega) (by omega), wrap_in (n := (i : Int) + 1) (by omega) (by omega)]
   have el : (U l a).reverse.length = (U l a).length := List.length_reverse
   refine Evt.yes (by omega) (Evt.yes (by omega) (Evt.yes (by omega) (Evt.yes (by omega) ?_)))
   rw [e1, e2]
   refine Evt.no (by omega) (Evt.no (by omega) (Evt.yes (by omega) (Evt.yes (by omega) (Evt.yes hst ?_))))
   match e, he with
   | 0, he => omega
   | e + 1, he => exact fp_l0 h x1 x2 m a ha0 ha1 q hnext e (i + 1) (by omega) (by omega) (by omega)
  ·exact Evt.no (by rw [List.length_reverse]; omega) hnext
end
theorem familyPaths_pure (x : S28) (a b : Int) (hx : VFamily x) : ∃ k, cognatelaw27_FamilyPaths.f k x.f0.f0 x.f0.f1 x.f1 a b = some true := by
 refine Evt.at_ (g := fun k => cognatelaw27_FamilyPaths.f k x.f0.f0 x.f0.f1 x.f1 a b) ?_
 unfold cognatelaw27_FamilyPaths.f
 refine Evt.bind awake_true (Evt.yes rfl ?_)
 obtain ⟨v, hv⟩ := large_tells x.f0.f0 x.f0.f1 x.f1
 refine Evt.bind hv ?_
 by_cases hv1 : v = true
 ·exact Evt.yes hv1 (Evt.const _)
 refine Evt.no hv1 ?_
 obtain ⟨c, hc⟩ := famCheck_tells x.f0.f0 x.f0.f1 x.f1 hx.2
 have ht : c = 0 → Tree x.f1 := fun e => by
  subst e
  exact asked_shaped (k := 0 + (asked_tells hc [] (by simp)).choose) (ts := []) (by
   have := (asked_tells hc [] (by simp)).choose_spec (0 + (asked_tells hc [] (by simp)).choose) (by omega)
   exact this)
 obtain ⟨m, e, hn, hn1, hn2⟩ := Near_tells hc ht a b
 obtain ⟨m', e', hn', hn1', hn2'⟩ := Near_tells hc ht b a
 refine Evt.bind (Path_tells hc ht a) (Evt.bind (Path_tells hc ht b) (Evt.bind hn (Evt.bind hn' ?_)))
 by_cases hall : c = 0 ∧ (0 ≤ a ∧ a < x.f1.length) ∧ (0 ≤ b ∧ b < x.f1.length)
 ·obtain ⟨rfl, hai, hbi⟩ := hall
  have h := ht rfl
  have hlen := h.len
  obtain ⟨rfl, hme⟩ := hn1 ⟨rfl, hai, hbi⟩
  obtain ⟨rfl, hme'⟩ := hn1' ⟨rfl, hbi, hai⟩
  obtain rfl := hme.uniq hme'.symm
  rw [if_pos rfl, if_pos rfl, if_pos hai, if_pos hbi]
  dsimp only
  refine Evt.yes rfl (Evt.succ (fun k => by rw [cognatelaw27_FamilyPaths.j0]) (Evt.no (by simp) (Evt.yes rfl (Evt.yes rfl (Evt.yes rfl ?_)))))
  have hul := U_length h a (by omega) hai.2
  have hul2 := U_length h b (by omega) hbi.2
  have hpos : 0 < (U x.f1 a).length := by rw [U_cons h hai.1 hai.2]; simp
  have el : (U x.f1 a).reverse.length = (U x.f1 a).length := List.length_reverse
  have el2 : (U x.f1 b).reverse.length = (U x.f1 b).length := List.length_reverse
  have e0 : rd (U x.f1 a).reverse 0 = 0 := by
   have h1 := U_last h a (by omega) hai.2 hai.1
   rw [List.getLast?_eq_getElem?] at h1
   simp only [rd, Int.toNat_zero, List.getD_eq_getElem?_getD, List.getElem?_reverse hpos, Nat.sub_zero, h1, Option.getD_some]
  have eN : rd (U x.f1 a).reverse (((U x.f1 a).reverse.length : Int) - 1) = a := by
   have e3 : (((U x.f1 a).reverse.length : Int) - 1).toNat = (U x.f1 a).length - 1 := by omega
   have e4 : (U x.f1 a).length - 1 - ((U x.f1 a).length - 1) = 0 := by omega
   have e5 : (U x.f1 a)[0]? = some a := by rw [U_cons h hai.1 hai.2]; rfl
   simp only [rd, e3, List.getD_eq_getElem?_getD, List.getElem?_reverse (show (U x.f1 a).length - 1 < (U x.f1 a).length by omega), e4, e5, Option.getD_some]
  rw [wrap_in (n := ((U x.f1 a).reverse.length : Int) - 1) (by omega) (by omega), eN]
  refine Evt.no (by omega) (Evt.yes (by omega) (Evt.yes e0 (Evt.yes (by omega) (Evt.yes (by omega) ?_))))
  have ebne : (a != a) = false := by simp
  rw [ebne]
  refine Evt.succ (fun k => by rw [cognatelaw27_FamilyPaths.j1]) (Evt.no (by simp) ?_)
  refine fp_l0 h a b m a hai.1 hai.2 _ ?_ (U x.f1 a).length 1 (by omega) (Nat.le_refl _) (by omega)
  have hm0 := (U_le h a (by omega) hai.2 m hme.1).1
  refine fp_l1 h hc a b m _ _ (by omega) (by omega) (fun hab => ?_) (List.pairwise_reverse.2 (U_sorted h a (by omega) hai.2)) (List.mem_reverse.2 hme.1) (List.mem_reverse.2 hme.2.1) (fun z h1 h2 => hme.2.2 z (List.mem_reverse.1 h1) (List.mem_reverse.1 h2)) (U x.f1 a).length 0 (-1) (by omega) (by omega) (fun j hj hj0 => by omega) (.inl rfl) hm0
  subst hab
  have h1 := (U_le h a (by omega) hai.2 m hme.1).2
  have h2 := hme.2.2 a (U_self h hai.1 hai.2) (U_self h hai.1 hai.2)
  omega
 ·obtain ⟨he, rfl⟩ := hn2 hall
  obtain ⟨he', rfl⟩ := hn2' (fun h => hall ⟨h.1, h.2.2, h.2.1⟩)
  have hlast : ∀ (p q : List Int), Evt (fun k => cognatelaw27_FamilyPaths.j0 k a b p q 0 e 0 e' true x.f0.f0 x.f0.f1 x.f1) true := fun p q =>
   Evt.succ (fun k => by rw [cognatelaw27_FamilyPaths.j0]) (Evt.yes (c := true = true) rfl (Evt.no (c := e = 0) he (Evt.no (c := e' = 0) he' (Evt.yes (c := (0 : Int) = 0) rfl (Evt.of_eq (o := some ((0 : Int) == 0)) rfl)))))
  by_cases hc0 : c = 0
  ·rw [if_pos hc0, if_pos hc0]
   by_cases hai : 0 ≤ a ∧ a < x.f1.length
   ·rw [if_pos hai]
    have hbi : ¬ (0 ≤ b ∧ b < x.f1.length) := fun hbi => hall ⟨hc0, hai, hbi⟩
    rw [if_neg hbi]
    exact Evt.yes rfl (hlast _ _)
   ·rw [if_neg hai]
    exact Evt.no (by decide) (hlast _ _)
  ·rw [if_neg hc0, if_neg hc0]
   exact Evt.no hc0 (hlast _ _)
end Go.Proofs.YtplkoabikliagaaDoor.K
namespace Go.Proofs.YtplkoabikliagaaDoor.familyPaths
open Go.ChangeShapes Go.WideShapes Go.ChangeAt Go.RowKit
theorem own : ownKnob Tryd.prog.godebug = none := by kernel_rfl
theorem laidOut : laidOutB Tryd.prog = true := by kernel_rfl
set_option maxRecDepth 100000 in
theorem laidWorld_met (os : Os) (args : Array Value) : laidMetH Tryd.prog Rows.familyPathsRow.laid ((World.laidAll Tryd.prog os Rows.familyPathsRow.laid).forCall (fun _ _ => 0) ⟨#[], args, []⟩).memory :=
 laidMetH_of_parts (laidMet_laidAll args (by kernel_rfl) (by kernel_rfl)) (by kernel_rfl)
set_option maxRecDepth 100000 in
theorem lifted (os : Os) (started : os.Started) (H : Type) (enc : TypeId × Value → H) :
  ReturnsInHanded {} Tryd.checked os 3 .any (fun w args => (Rows.familyPathsSpec.pre enc Tryd.prog Tryd.f3 Rows.familyPathsRow.domain false w args ∧ laidMetH Tryd.prog Rows.familyPathsRow.laid w) ∧ sizedMet enc Tryd.prog Tryd.f3 (OpenSpec.ofChange Rows.familyPathsSpec) false w args) (Rows.familyPathsSpec.post enc Tryd.prog Tryd.f3 false true false false) := by
 refine returnsInHanded_of_change_and (C := Tryd.checked) (X := fun w _ => laidMetH Tryd.prog Rows.familyPathsRow.laid w) (fun _ _ _ hh h => h.of_heap hh) own started (by kernel_rfl) Tryd.func3
  (ChangeSpec.witness_at (enc := enc) (C := Tryd.checked) (os := os) (X := fun w _ => laidMetH Tryd.prog Rows.familyPathsRow.laid w) false (World.laidAll Tryd.prog os Rows.familyPathsRow.laid) #[.agg #[.slice none 0 0, .slice none 0 0, .slice none 0 0], .int .i64 0, .int .i64 0] 8 (World.laidAll_os _ _ _) (by kernel_rfl) (by kernel_rfl) (by kernel_rfl) (by kernel_rfl) (by kernel_rfl) (laidWorld_met os _)) ?_
 intro W base args ds gs before hval0 hW hcnd hsz0 _ _
 have hval : ∀ (j : Nat) t v, Tryd.f3.params[j]? = some t → args[j]? = some v → Value.okWide Tryd.prog W .any base t v := hval0
 have hW' := hW
 obtain ⟨p, q, hA0, hV, rfl, hfz, hnd⟩ := hW
 have hA : DataW.TrodAll enc Tryd.prog W 0 (fun _ => true) true Tryd.f3.params.toList args.toList ds p := hA0
 rw [Tryd.params3] at hA hval
 obtain ⟨v0, vs0, d0, ds0, p0, q0, hargs, rfl, rfl, h0, r0⟩ := trodAll_cons hA
 obtain ⟨v1, vs1, d1, ds1, p1, q1, rfl, rfl, rfl, h1, r1⟩ := trodAll_cons r0
 obtain ⟨v2, vs2, d2, ds2, p2, q2, rfl, rfl, rfl, h2, r2⟩ := trodAll_cons r1
 obtain ⟨rfl, rfl, rfl⟩ := trodAll_nil r2
 obtain rfl : args = #[v0, v1, v2] := by cases args; simp_all
 obtain ⟨rfl, rfl⟩ := trodVars_none hV
 obtain ⟨cs, rfl, hcs⟩ := okWide_struct Tryd.underlying28 (hval 0 28 v0 rfl rfl)
 obtain ⟨a1, rfl, rfl, rfl, w1⟩ := open_int Tryd.underlying3 (hval 1 3 v1 rfl rfl) h1
 obtain ⟨a2, rfl, rfl, rfl, w2⟩ := open_int Tryd.underlying3 (hval 2 3 v2 rfl rfl) h2
 have k0 := h0
 have lt0 : ∀ x ∈ p0, x.block < W.heap.size := by
  obtain ⟨m, hm⟩ := k0
  exact DataW.trod_lt m _ _ _ hm
 obtain ⟨fuel, hf⟩ := h0
 obtain ⟨x, hx, hVx⟩ := K.r_family.2 enc W 0 (fun _ => true) true fuel _ _ hf
 obtain ⟨A0, c0, A1, c1, A2, c2, hc, l0, g0, l1, g1, l2, g2⟩ := K.k28_open hx
 have hcs' : cs.toList = [.slice A0 x.f0.f0.length c0, .slice A1 x.f0.f1.length c1, .slice A2 x.f1.length c2] := hc
 obtain rfl : cs = #[.slice A0 x.f0.f0.length c0, .slice A1 x.f0.f1.length c1, .slice A2 x.f1.length c2] := by
  rw [← Array.toList_inj]; exact hcs'
 clear hA0 hval0 hsz0 hval
 obtain ⟨k, h⟩ := K.familyPaths_pure x a1 a2 hVx
 refine (K.cognatelaw27_FamilyPaths.calls k A0 c0 x.f0.f0 A1 c1 x.f0.f1 A2 c2 x.f1 a1 a2 true W g0 l0 g1 l1 g2 l2 h).mono fun e W' he => ?_
 obtain ⟨he, bel⟩ := he
 subst he
 exact ⟨_, rfl, _, _, _, [], _, [], hW', trodAll_mk1 (shut_bool Tryd.underlying4 _), (trodAll_cons_mk (Below.trod laidOut (by kernel_rfl) (of_decide_eq_true (by kernel_rfl)) k0 bel lt0) (trodAll_cons_mk (shut_int Tryd.underlying3 w1) (trodAll_cons_mk (shut_int Tryd.underlying3 w2) trodAll_mk0))), rfl, bel.frame _, fun h => by cases h⟩
theorem over : Rows.familyPathsRow.holds Tryd.pinned (OpenSpec.ofChange Rows.familyPathsSpec) :=
 OpenClaim.holds_of_wide 3 Tryd.f3 rfl rfl rfl rfl rfl rfl rfl ⟨rfl, rfl, rfl, rfl, rfl⟩ rfl rfl rfl rfl rfl (by kernel_rfl) Tryd.func3 (by kernel_rfl)
  (of_decide_eq_true (by kernel_rfl)) (by unfold Func.isWrapper; first | (rw [if_pos (by decide +kernel)]; kernel_rfl) | (rw [if_neg (by decide +kernel)]; exact ⟨rfl, rfl⟩))
  (fun os started H enc _ => lifted os started H enc)
theorem proved : Rows.FamilyPathsSaid := over
end Go.Proofs.YtplkoabikliagaaDoor.familyPaths
namespace Go.Proofs.YtplkoabikliagaaDoor.familyPaths
open Go
set_option maxRecDepth 100000 in
theorem card : Rows.FamilyPathsCardSaid :=
 Claim7.holds_tied_plain_at .later [] [.data, .pinned] true (true, "4018a8e7abd1e520e83164fa94c179d280551cc35e2f9e9d0220d51ec9ce8f78") false
  proved (fun _ h => by cases h) (by kernel_rfl) (fun _ h => by cases h) familyPaths_row_tie rfl ⟨rfl, rfl⟩ (by kernel_rfl) rfl
  (fun f fn hf hfn => by
   obtain rfl : f = 3 := Option.some.inj ((show Tryd.prog.funcNamed Rows.familyPathsRow.func = some 3 by kernel_rfl).symm.trans hf) |>.symm
   obtain rfl : fn = Tryd.f3 := (Option.some.inj (Tryd.func3.symm.trans hfn)).symm
   refine ⟨by kernel_rfl, fun j t ht => ?_⟩
   rw [Tryd.params3] at ht
   have h3 : t = 28 ∨ t = 3 := by
    rcases j with _ | _ | _ | j
    ·exact .inl (by simpa using ht.symm)
    ·exact .inr (by simpa using ht.symm)
    ·exact .inr (by simpa using ht.symm)
    ·simp at ht
   rcases h3 with rfl | rfl
   ·exact (show Tryd.prog.wantsStandIn 28 = false by kernel_rfl)
   ·exact (show Tryd.prog.wantsStandIn 3 = false by kernel_rfl))
  (by kernel_rfl)
#print axioms card
end Go.Proofs.YtplkoabikliagaaDoor.familyPaths
