/- Part 7 of a proof: walks and plain laws, merged by wip/tools/pack.py. -/
import Derived.Test.YtplkoabikliagaaGreatDoorZ1
import Derived.Deep.Slices
import Derived.Lib.SmallJoins
import Derived.Test.YtplkoabikliagaaGreatDoorZ3
import Derived.Test.YtplkoabikliagaaGreatDoorZ4
import Derived.Laws.RangeAny
import Derived.Test.YtplkoabikliagaaGreatDoorZ5
namespace Go.Proofs.YtplkoabikliagaaGreatDoor.L
open Go.RowKit Go.Proofs.YtplkoabikliagaaGreatDoorW.PrintWords
def Reads {α : Type} (P : Program) (t : TypeId) (k : Kd α) (V : α → Prop) : Prop :=
 k.sz = P.cellsOf t ∧ ∀ {H : Type} (enc : TypeId × Value → H) (w : World) (base : Nat) (sp : Nat → Bool) (held : Bool) (fuel : Nat) (cs : List Value) (x : DataW H × List MemPlace),
  DataW.trod enc P w base sp held fuel t cs = some x → ∃ a, k.K w a cs ∧ V a
section
variable {α β γ : Type} {P : Program} {t e : TypeId}
theorem Reads.int {kd : IntKind} (ht : P.underlying t = some (.int kd)) (hc : P.cellsOf t = 1) : Reads P t (Kd.int kd) (fun n => (Lit.int kd n).wf = true) :=
 ⟨hc.symm, fun enc w base sp held fuel cs x h => by
  obtain ⟨n, rfl, _, hw⟩ := DataW.trod_int ht h
  exact ⟨n, rfl, hw⟩⟩
theorem Reads.bool (ht : P.underlying t = some .bool) (hc : P.cellsOf t = 1) : Reads P t Kd.bool (fun _ => True) :=
 ⟨hc.symm, fun enc w base sp held fuel cs x h => by
  obtain ⟨b, rfl, _⟩ := DataW.trod_bool ht h
  exact ⟨b, rfl, trivial⟩⟩
theorem Reads.string (ht : P.underlying t = some .string) (hc : P.cellsOf t = 1) : Reads P t Kd.string (fun s => s.size ≤ maxLen) :=
 ⟨hc.symm, fun enc w base sp held fuel cs x h => by
  obtain ⟨s, rfl, _, hs⟩ := DataW.trod_string ht h
  exact ⟨s, rfl, hs⟩⟩
theorem Reads.iso {d : Kd α} {V : α → Prop} (h : Reads P t d V) (f : β → α) (g : α → β) (hfg : ∀ a, f (g a) = a) : Reads P t (Kd.iso d f) (fun b => V (f b)) :=
 ⟨h.1, fun enc w base sp held fuel cs x hx => by
  obtain ⟨a, h1, h2⟩ := h.2 enc w base sp held fuel cs x hx
  exact ⟨g a, (show d.K w (f (g a)) cs by rw [hfg]; exact h1), (show V (f (g a)) by rw [hfg]; exact h2)⟩⟩
theorem Reads.slice {q : Nat} {k : Kd α} {V : α → Prop} (ht : P.underlying t = some (.slice e)) (hc : P.cellsOf t = 1) (h : Reads P e k V) : Reads P t (Kd.slice q k) (fun l => l.length ≤ maxLen ∧ ∀ x ∈ l, V x) :=
 ⟨hc.symm, fun enc w base sp held fuel cs x hx => by
  rcases Go.Deep.open_slice ht hx with ⟨rfl, _⟩ | ⟨a, len, cap, m, n, D, Pl, rfl, hb, hl, hm, hmm, _, hel⟩
  ·exact ⟨[], ⟨none, 0, rfl, Nat.le_refl _, rfl, Nat.zero_le _, fun h0 => absurd h0 (Nat.lt_irrefl 0)⟩, Nat.zero_le _, fun x hx => by cases hx⟩
  ·have hle : len ≤ m := by rw [hmm]; split <;> omega
   have hi : ∀ i, i < len → ∃ v : α, V v ∧ ∃ cs', cs'.length = k.sz ∧ k.K w v cs' ∧ ∀ j u, cs'[j]? = some u → w.cell? (a.add (i * k.sz + j)) = some u := fun i hi => by
    obtain ⟨cs', h1, h2⟩ := hel i (by omega)
    obtain ⟨v, hv1, hv2⟩ := h.2 enc w base sp held n cs' _ h2
    obtain ⟨_, hlen, hcell⟩ := World.cells?_some h1
    refine ⟨v, hv2, cs', by rw [hlen, h.1], hv1, fun j u hj => ?_⟩
    have hjl : j < P.cellsOf e := by rw [← hlen]; exact (List.getElem?_eq_some_iff.1 hj).1
    have := hcell j hjl
    rw [hj] at this
    rw [h.1, ← this, Addr.add_add]
   obtain ⟨f, hf⟩ : ∃ f : Nat → Option α, ∀ i, i < len → ∃ v, f i = some v ∧ V v ∧ ∃ cs', cs'.length = k.sz ∧ k.K w v cs' ∧ ∀ j u, cs'[j]? = some u → w.cell? (a.add (i * k.sz + j)) = some u :=
    ⟨fun i => if h : i < len then some (hi i h).choose else none, fun i h => ⟨(hi i h).choose, by simp [h], (hi i h).choose_spec⟩⟩
   have hl2 : ((List.range len).filterMap f).length = len ∧ ∀ i, i < len → ((List.range len).filterMap f)[i]? = f i := by
    have key : ∀ m, m ≤ len → ((List.range m).filterMap f).length = m ∧ ∀ i, i < m → ((List.range m).filterMap f)[i]? = f i := by
     intro m
     induction m with
     | zero => intro _; exact ⟨rfl, fun i hi => absurd hi (Nat.not_lt_zero i)⟩
     | succ m ih =>
      intro hm
      obtain ⟨ih1, ih2⟩ := ih (by omega)
      obtain ⟨v, hv, _⟩ := hf m (by omega)
      rw [List.range_succ, List.filterMap_append]
      have e1 : List.filterMap f [m] = [v] := by simp [hv]
      rw [e1]
      refine ⟨by simp [ih1], fun i hi => ?_⟩
      by_cases him : i < m
      ·rw [List.getElem?_append_left (by omega)]; exact ih2 i him
      ·obtain rfl : i = m := by omega
       rw [List.getElem?_append_right (by omega), ih1]
       simp [hv]
    exact key len (Nat.le_refl _)
   obtain ⟨e1, e2⟩ := hl2
   generalize (List.range len).filterMap f = l at e1 e2
   subst e1
   refine ⟨l, ⟨some a, cap, rfl, hl, rfl, ?_, fun _ => ⟨a, rfl, fun j p hj => ?_⟩⟩, by omega, fun x hx => ?_⟩
   ·unfold maxLen at hm; omega
   ·obtain ⟨hjl, _⟩ := List.getElem?_eq_some_iff.1 hj
    obtain ⟨v, h1, _, cs', h3, h4, h5⟩ := hf j hjl
    rw [e2 j hjl, h1] at hj
    obtain rfl := Option.some.inj hj
    exact ⟨cs', h3, h4, h5⟩
   ·obtain ⟨j, hj⟩ := List.mem_iff_getElem?.1 hx
    obtain ⟨hjl, _⟩ := List.getElem?_eq_some_iff.1 hj
    obtain ⟨v, h1, h2, _⟩ := hf j hjl
    rw [e2 j hjl, h1] at hj
    obtain rfl := Option.some.inj hj
    exact h2⟩
structure z1u (P : Program) (fs : List Field) (o : Nat) (k : Kd α) (V : α → Prop) : Prop where
 out : ∀ {H : Type} (enc : TypeId × Value → H) (w : World) (base : Nat) (sp : Nat → Bool) (held : Bool) (n : Nat) (cs : List Value), cs.length = o + k.sz →
  (∀ f ∈ fs, ∃ y, DataW.trod enc P w base sp held n f.type ((cs.drop f.offset).take (P.cellsOf f.type)) = some y) → ∃ a, k.K w a (cs.drop o) ∧ V a
theorem z1u.last {f : Field} {o : Nat} {k : Kd α} {V : α → Prop} (h : Reads P f.type k V) (ho : f.offset = o) : z1u P [f] o k V := by
 refine ⟨?_⟩
 intro H enc w base sp held n cs hl hf
 obtain ⟨y, hy⟩ := hf f (by simp)
 rw [ho, ← h.1, List.take_of_length_le (by simp; omega)] at hy
 exact h.2 enc w base sp held n _ y hy
def y4b {α β : Type} (V : α → Prop) (V' : β → Prop) : α × β → Prop := fun x => V x.1 ∧ V' x.2
theorem z1u.cons {f : Field} {fs : List Field} {o o' : Nat} {k : Kd α} {k' : Kd β} {V : α → Prop} {V' : β → Prop} (h : Reads P f.type k V) (ho : f.offset = o) (ho' : o + k.sz = o') (hs : z1u P fs o' k' V') :
  z1u P (f :: fs) o (Kd.pair k k') (y4b V V') := by
 refine ⟨?_⟩
 intro H enc w base sp held n cs hl hf
 have hl' : cs.length = o + (k.sz + k'.sz) := hl
 obtain ⟨y, hy⟩ := hf f (by simp)
 rw [ho, ← h.1] at hy
 obtain ⟨a, ha, hVa⟩ := h.2 enc w base sp held n _ y hy
 obtain ⟨b, hb, hVb⟩ := hs.out enc w base sp held n cs (by omega) (fun g hg => hf g (by simp [hg]))
 refine ⟨(a, b), ⟨(cs.drop o).take k.sz, cs.drop o', ?_, ha, hb⟩, hVa, hVb⟩
 rw [← ho', ← List.drop_drop, List.take_append_drop]
theorem Reads.struct {fs : List Field} {k : Kd α} {V : α → Prop} (ht : P.underlying t = some (.struct fs.toArray)) (hc : k.sz = P.cellsOf t) (h : z1u P fs 0 k V) : Reads P t k V :=
 ⟨hc, fun enc w base sp held fuel cs x hx => by
  obtain ⟨xs, n, _, _, hlen, hxs, hf⟩ := DataW.trod_struct ht hx
  have := h.out enc w base sp held n cs (by omega) (fun f hf' => by
   obtain ⟨i, hi⟩ := List.mem_iff_getElem?.1 hf'
   have hi' : fs.toArray[i]? = some f := by simpa using hi
   obtain ⟨hil, _⟩ := List.getElem?_eq_some_iff.1 hi
   have hxs' : xs.length = fs.length := by simpa using hxs
   rw [hf i f hi']
   exact ⟨xs[i]'(by omega), List.getElem?_eq_getElem (by omega)⟩)
  simpa using this⟩
end
end Go.Proofs.YtplkoabikliagaaGreatDoor.L
namespace Go.Proofs.YtplkoabikliagaaGreatDoor.K
open Go.RowKit Go.Proofs.YtplkoabikliagaaGreatDoorW.PrintWords
open Go.Proofs.YtplkoabikliagaaGreatDoor.L
def I32 (n : Int) : Prop := (Lit.int .i32 n).wf = true
def U32 (n : Int) : Prop := (Lit.int .u32 n).wf = true
def I64 (n : Int) : Prop := (Lit.int .i64 n).wf = true
def U8 (n : Int) : Prop := (Lit.int .u8 n).wf = true
def x7n (s : ByteArray) : Prop := s.size ≤ maxLen
def Rows {α : Type} (V : α → Prop) (l : List α) : Prop := l.length ≤ maxLen ∧ ∀ x ∈ l, V x
def Any {α : Type} (_ : α) : Prop := True
theorem x7o : Reads Tryz.prog 21 (Kd.int .i32) I32 := Reads.int Tryz.underlying21 (by kernel_rfl)
theorem y7v : Reads Tryz.prog 52 (Kd.int .u32) U32 := Reads.int Tryz.underlying52 (by kernel_rfl)
theorem w2f : Reads Tryz.prog 3 (Kd.int .i64) I64 := Reads.int Tryz.underlying3 (by kernel_rfl)
theorem r_u8 : Reads Tryz.prog 5 (Kd.int .u8) U8 := Reads.int Tryz.underlying5 (by kernel_rfl)
theorem w3s : Reads Tryz.prog 4 Kd.bool Any := Reads.bool Tryz.underlying4 (by kernel_rfl)
theorem w2g : Reads Tryz.prog 9 Kd.string x7n := Reads.string Tryz.underlying9 (by kernel_rfl)
theorem y1g {α : Type} {t e q : TypeId} {k : Kd α} {V : α → Prop} (ht : Tryz.prog.underlying t = some (.slice e)) (hc : Tryz.prog.cellsOf t = 1) (h : Reads Tryz.prog e k V) : Reads Tryz.prog t (Kd.slice q k) (Rows V) := Reads.slice ht hc h
set_option maxRecDepth 100000
def y9W (x : z1J) : Prop := (y4b I32 (y4b U32 U32)) (x.f0, x.f1, x.f2)
theorem x7p : Reads Tryz.prog 145 z5a y9W :=
 Reads.iso (Reads.struct Tryz.underlying145 (by kernel_rfl) (z1u.cons x7o rfl rfl (z1u.cons y7v rfl rfl (z1u.last y7v rfl)))) (fun x : z1J => (x.f0, x.f1, x.f2)) (fun x => ⟨x.1, x.2.1, x.2.2⟩) (fun _ => rfl)
def x7q (x : S54) : Prop := (y4b I32 (y4b U32 U32)) (x.f0, x.f1, x.f2)
theorem w3t : Reads Tryz.prog 54 k54 x7q :=
 Reads.iso (Reads.struct Tryz.underlying54 (by kernel_rfl) (z1u.cons x7o rfl rfl (z1u.cons y7v rfl rfl (z1u.last y7v rfl)))) (fun x : S54 => (x.f0, x.f1, x.f2)) (fun x => ⟨x.1, x.2.1, x.2.2⟩) (fun _ => rfl)
def x7r (x : S56) : Prop := (y4b I32 (y4b I64 (y4b U32 U32))) (x.f0, x.f1, x.f2, x.f3)
theorem w3u : Reads Tryz.prog 56 k56 x7r :=
 Reads.iso (Reads.struct Tryz.underlying56 (by kernel_rfl) (z1u.cons x7o rfl rfl (z1u.cons w2f rfl rfl (z1u.cons y7v rfl rfl (z1u.last y7v rfl))))) (fun x : S56 => (x.f0, x.f1, x.f2, x.f3)) (fun x => ⟨x.1, x.2.1, x.2.2.1, x.2.2.2⟩) (fun _ => rfl)
def y7w (x : S58) : Prop := (y4b U8 (y4b I32 (y4b U32 (y4b U32 ((Rows I64)))))) (x.f0, x.f1, x.f2, x.f3, x.f4)
theorem w3v : Reads Tryz.prog 58 k58 y7w :=
 Reads.iso (Reads.struct Tryz.underlying58 (by kernel_rfl) (z1u.cons r_u8 rfl rfl (z1u.cons x7o rfl rfl (z1u.cons y7v rfl rfl (z1u.cons y7v rfl rfl (z1u.last (y1g Tryz.underlying31 (by kernel_rfl) w2f) rfl)))))) (fun x : S58 => (x.f0, x.f1, x.f2, x.f3, x.f4)) (fun x => ⟨x.1, x.2.1, x.2.2.1, x.2.2.2.1, x.2.2.2.2⟩) (fun _ => rfl)
def y6t (x : S49) : Prop := ((Rows y7w)) x.f0
theorem y7x : Reads Tryz.prog 49 k49 y6t :=
 Reads.iso (Reads.struct Tryz.underlying49 (by kernel_rfl) (z1u.last (y1g Tryz.underlying47 (by kernel_rfl) w3v) rfl)) (fun x : S49 => x.f0) (fun x => ⟨x⟩) (fun _ => rfl)
def x1p (x : S51) : Prop := (y4b x7n (y4b (Rows x7q) (y4b (Rows x7r) (y4b y6t (y4b y6t (y4b U8 Any)))))) (x.f0, x.f1, x.f2, x.f3, x.f4, x.f5, x.f6)
theorem w3w : Reads Tryz.prog 51 k51 x1p :=
 Reads.iso (Reads.struct Tryz.underlying51 (by kernel_rfl) (z1u.cons w2g rfl rfl (z1u.cons (y1g Tryz.underlying45 (by kernel_rfl) w3t) rfl rfl (z1u.cons (y1g Tryz.underlying46 (by kernel_rfl) w3u) rfl rfl (z1u.cons y7x rfl rfl (z1u.cons y7x rfl rfl (z1u.cons r_u8 rfl rfl (z1u.last w3s rfl)))))))) (fun x : S51 => (x.f0, x.f1, x.f2, x.f3, x.f4, x.f5, x.f6)) (fun x => ⟨x.1, x.2.1, x.2.2.1, x.2.2.2.1, x.2.2.2.2.1, x.2.2.2.2.2.1, x.2.2.2.2.2.2⟩) (fun _ => rfl)
def y3U (x : S81) : Prop := (y4b x7n (y4b I64 ((Rows x1p)))) (x.f0, x.f1, x.f2)
theorem x7s : Reads Tryz.prog 81 k81 y3U :=
 Reads.iso (Reads.struct Tryz.underlying81 (by kernel_rfl) (z1u.cons w2g rfl rfl (z1u.cons w2f rfl rfl (z1u.last (y1g Tryz.underlying37 (by kernel_rfl) w3w) rfl)))) (fun x : S81 => (x.f0, x.f1, x.f2)) (fun x => ⟨x.1, x.2.1, x.2.2⟩) (fun _ => rfl)
def y7y (x : S25) : Prop := (y4b (Rows x7n) ((Rows y9W))) (x.f0, x.f1)
theorem x1q : Reads Tryz.prog 25 k25 y7y :=
 Reads.iso (Reads.struct Tryz.underlying25 (by kernel_rfl) (z1u.cons (y1g Tryz.underlying22 (by kernel_rfl) w2g) rfl rfl (z1u.last (y1g Tryz.underlying23 (by kernel_rfl) x7p) rfl))) (fun x : S25 => (x.f0, x.f1)) (fun x => ⟨x.1, x.2⟩) (fun _ => rfl)
def x6g (x : S28) : Prop := (y4b y7y ((Rows y3U))) (x.f0, x.f1)
theorem x7t : Reads Tryz.prog 28 k28 x6g :=
 Reads.iso (Reads.struct Tryz.underlying28 (by kernel_rfl) (z1u.cons x1q rfl rfl (z1u.last (y1g Tryz.underlying26 (by kernel_rfl) x7s) rfl))) (fun x : S28 => (x.f0, x.f1)) (fun x => ⟨x.1, x.2⟩) (fun _ => rfl)
end Go.Proofs.YtplkoabikliagaaGreatDoor.K
namespace Go.Proofs.YtplkoabikliagaaGreatDoor.L
open Go.RowKit Go.Proofs.YtplkoabikliagaaGreatDoorW.PrintWords
def Evt {α : Type} (g : Nat → Option α) (v : α) : Prop := ∃ K, ∀ k, K ≤ k → g k = some v
section
variable {α β : Type} {g h : Nat → Option α} {v : α}
theorem Evt.const (v : α) : Evt (fun _ => some v) v := ⟨0, fun _ _ => rfl⟩
theorem Evt.y4p {o : Option α} (h : o = some v) : Evt (fun _ => o) v := ⟨0, fun _ _ => h⟩
theorem Evt.at_ (h : Evt g v) : ∃ k, g k = some v := h.elim fun K hK => ⟨K, hK K (Nat.le_refl K)⟩
theorem Evt.succ (e : ∀ k, g (k + 1) = h k) (t : Evt h v) : Evt g v := by
 obtain ⟨K, hK⟩ := t
 refine ⟨K + 1, fun k hk => ?_⟩
 obtain ⟨j, rfl⟩ : ∃ j, k = j + 1 := ⟨k - 1, by omega⟩
 rw [e]; exact hK j (by omega)
theorem Evt.congr (e : ∀ k, g k = h k) (t : Evt h v) : Evt g v := by
 obtain ⟨K, hK⟩ := t
 exact ⟨K, fun k hk => (e k).trans (hK k hk)⟩
theorem Evt.bind {f : Nat → α → Option β} {u : β} (t : Evt g v) (s : Evt (fun k => f k v) u) : Evt (fun k => (g k).bind (f k)) u := by
 obtain ⟨K, hK⟩ := t
 obtain ⟨J, hJ⟩ := s
 refine ⟨max K J, fun k hk => ?_⟩
 show (g k).bind (f k) = some u
 rw [hK k (by omega)]
 exact hJ k (by omega)
theorem Evt.yes {c : Prop} [Decidable c] (hc : c) (t : Evt g v) : Evt (fun k => if c then g k else h k) v := by
 obtain ⟨K, hK⟩ := t
 exact ⟨K, fun k hk => by show (if c then g k else h k) = _; rw [if_pos hc]; exact hK k hk⟩
theorem Evt.no {c : Prop} [Decidable c] (hc : ¬ c) (t : Evt h v) : Evt (fun k => if c then g k else h k) v := by
 obtain ⟨K, hK⟩ := t
 exact ⟨K, fun k hk => by show (if c then g k else h k) = _; rw [if_neg hc]; exact hK k hk⟩
theorem Evt.w2h (m : ∀ k, LeO (g k) (g (k + 1))) (k : Nat) (h : g k = some v) : Evt g v := by
 refine ⟨k, fun j hj => ?_⟩
 obtain ⟨d, rfl⟩ : ∃ d, j = k + d := ⟨j - k, by omega⟩
 clear hj
 induction d with
 | zero => exact h
 | succ d ih => exact m (k + d) v ih
theorem Evt.uniq {u : α} (h1 : Evt g v) (h2 : Evt g u) : v = u := by
 obtain ⟨K, hK⟩ := h1
 obtain ⟨J, hJ⟩ := h2
 have a := hK (max K J) (by omega)
 have b := hJ (max K J) (by omega)
 rw [a] at b
 exact Option.some.inj b
def Tells (g : Nat → Option α) : Prop := ∃ v, Evt g v
theorem Tells.const (v : α) : Tells (fun _ => some v) := ⟨v, Evt.const v⟩
theorem Tells.y4p {o : Option α} (h : ∃ v, o = some v) : Tells (fun _ => o) := h.elim fun v h => ⟨v, Evt.y4p h⟩
theorem Tells.succ (e : ∀ k, g (k + 1) = h k) (t : Tells h) : Tells g := t.elim fun v t => ⟨v, t.succ e⟩
theorem Tells.congr (e : ∀ k, g k = h k) (t : Tells h) : Tells g := t.elim fun v t => ⟨v, t.congr e⟩
theorem Tells.bind {f : Nat → α → Option β} (t : Tells g) (s : ∀ v, Evt g v → Tells (fun k => f k v)) : Tells (fun k => (g k).bind (f k)) := by
 obtain ⟨v, hv⟩ := t
 obtain ⟨u, hu⟩ := s v hv
 exact ⟨u, hv.bind hu⟩
theorem Tells.ite {c : Prop} [Decidable c] (t : c → Tells g) (s : ¬ c → Tells h) : Tells (fun k => if c then g k else h k) := by
 by_cases hc : c
 ·obtain ⟨v, hv⟩ := t hc
  exact ⟨v, Evt.yes hc hv⟩
 ·obtain ⟨v, hv⟩ := s hc
  exact ⟨v, Evt.no hc hv⟩
theorem Tells.absurd {p : Prop} (h : p) (hn : ¬ p) : Tells g := (hn h).elim
end
theorem z1S {n : Int} (h0 : -9223372036854775808 ≤ n) (h1 : n ≤ 9223372036854775807) : wrap64 n = n := by unfold wrap64; omega
end Go.Proofs.YtplkoabikliagaaGreatDoor.L
namespace Go.Proofs.YtplkoabikliagaaGreatDoor.K
open Go.RowKit Go.Proofs.YtplkoabikliagaaGreatDoorW.PrintWords Go.Proofs.YtplkoabikliagaaGreatDoorW.PrintLast Go.Proofs.YtplkoabikliagaaGreatDoorW.PrintMore
open Go.Proofs.YtplkoabikliagaaGreatDoor.L
theorem y3V (l : List Bool) (x : Bool) (hl : l.length ≤ 9223372036854775807) : ∀ (d : Nat) (i : Int), 0 ≤ i → (l.length : Int) ≤ i + d → Tells (fun k => z0A.l0 k l x (l.length : Int) i)
 | d, i, h0, h1 => by
  refine Tells.succ (fun k => by rw [z0A.l0]) (Tells.ite (fun hlt => Tells.ite (fun _ => Tells.ite (fun _ => Tells.ite (fun _ => Tells.const _) fun _ => ?_) fun h => Tells.absurd hlt h) fun h => Tells.absurd h0 h) fun _ => Tells.const _)
  match d, h1 with
  | 0, h1 => omega
  | d + 1, h1 =>
   rw [z1S (by omega) (by omega)]
   exact y3V l x hl d (i + 1) (by omega) (by omega)
theorem y4q (l : List Bool) (x : Bool) (hl : l.length ≤ 9223372036854775807) : Tells (fun k => z0J.f k l x) := by
 unfold z0J.f z0A.f
 exact Tells.bind (y3V l x hl l.length 0 (Int.le_refl 0) (by omega)) fun v _ => Tells.const _
theorem y4I (l : List S58) (hl : l.length ≤ 256) (hk : ∀ x ∈ l, x.f4.length ≤ maxLen) : ∀ (d : Nat) (i : Int) (seen : List Bool), 0 ≤ i → 1 ≤ l.length → (l.length : Int) ≤ i + d → seen.length = l.length → Tells (fun k => z0h.l0 k (l.length : Int) seen l (l.length : Int) i)
 | d, i, seen, h0, hne, h1, hs => by
  refine Tells.succ (fun k => by rw [z0h.l0]) (Tells.ite (fun hlt => Tells.ite (fun _ => Tells.ite (fun _ => ?_) fun h => Tells.absurd hlt h) fun h => Tells.absurd h0 h) fun _ => Tells.ite (fun _ => ?_) fun h => Tells.absurd (by omega) h)
  ·have hkl : (z0g l i).f4.length ≤ maxLen := by
    by_cases hi : i.toNat < l.length
    ·have hm : z0g l i ∈ l := by simp [z0g, List.getD_eq_getElem?_getD, hi]
     exact hk _ hm
    ·omega
   generalize (z0g l i) = x at hkl
   unfold maxLen at hkl
   have next : ∀ s : List Bool, s.length = l.length → Tells (fun k => z0h.l0 k (l.length : Int) s l (l.length : Int) (wrap64 (i + 1))) := fun s hs => by
    match d, h1 with
    | 0, h1 => omega
    | d + 1, h1 =>
     rw [z1S (by omega) (by omega)]
     exact y4I l hl hk d (i + 1) s (by omega) hne (by omega) hs
   have kids : ∀ (e : Nat) (j : Int) (s : List Bool), 0 ≤ j → (x.f4.length : Int) ≤ j + e → s.length = l.length → Tells (fun k => z0h.l1 k (l.length : Int) s i l (l.length : Int) i x.f4 (x.f4.length : Int) j) := by
    intro e
    induction e with
    | zero =>
     intro j s hj he hs
     refine Tells.succ (fun k => by rw [z0h.l1]) (Tells.ite (fun h => by omega) fun _ => next s hs)
    | succ e ih =>
     intro j s hj he hs
     refine Tells.succ (fun k => by rw [z0h.l1]) (Tells.ite (fun hlt => Tells.ite (fun _ => Tells.ite (fun _ => Tells.ite (fun _ => Tells.const _) fun _ => Tells.ite (fun _ => Tells.const _) fun _ => Tells.ite (fun _ => Tells.ite (fun _ => Tells.ite (fun _ => Tells.const _) fun _ => ?_) fun h => Tells.absurd (by omega) h) fun h => Tells.absurd (by omega) h) fun h => Tells.absurd hlt h) fun h => Tells.absurd hj h) fun _ => next s hs)
     rw [z1S (by omega) (by omega)]
     exact ih (j + 1) _ (by omega) (by omega) (by simpa using hs)
   have j6 : ∀ b : Bool, Tells (fun k => z0h.j6 k (l.length : Int) seen i l (l.length : Int) i b x.f0 x.f1 x.f2 x.f3 x.f4) := fun b =>
    Tells.succ (fun k => by rw [z0h.j6]) (Tells.ite (fun _ => Tells.const _) fun _ => kids x.f4.length 0 seen (Int.le_refl 0) (by omega) hs)
   have j5 : Tells (fun k => z0h.j5 k (l.length : Int) seen i l (l.length : Int) i x.f0 x.f1 x.f2 x.f3 x.f4) :=
    Tells.succ (fun k => by rw [z0h.j5]) (Tells.ite (fun _ => Tells.ite (fun _ => j6 _) fun _ => j6 _) fun _ => Tells.ite (fun _ => Tells.ite (fun _ => j6 _) fun _ => j6 _) fun _ => j6 _)
   have j4 : ∀ b : Bool, Tells (fun k => z0h.j4 k (l.length : Int) seen i l (l.length : Int) i b x.f0 x.f1 x.f2 x.f3 x.f4) := fun b =>
    Tells.succ (fun k => by rw [z0h.j4]) (Tells.ite (fun _ => Tells.ite (fun _ => j5) fun _ => Tells.const _) fun _ => Tells.const _)
   have j3 : ∀ (n : Int) (b : Bool), Tells (fun k => z0h.j3 k (l.length : Int) seen i l (l.length : Int) i n b x.f0 x.f1 x.f2 x.f3 x.f4) := fun n b =>
    Tells.succ (fun k => by rw [z0h.j3]) (Tells.ite (fun _ => Tells.ite (fun _ => j5) fun _ => Tells.const _) fun _ => Tells.ite (fun _ => j4 _) fun _ => Tells.ite (fun _ => j4 _) fun _ => Tells.ite (fun _ => j4 _) fun _ => Tells.ite (fun _ => j4 _) fun _ => j4 _)
   have j2 : ∀ (n : Int) (b : Bool), Tells (fun k => z0h.j2 k (l.length : Int) seen i l (l.length : Int) i n b x.f0 x.f1 x.f2 x.f3 x.f4) := fun n b =>
    Tells.succ (fun k => by rw [z0h.j2]) (Tells.ite (fun _ => j5) fun _ => Tells.ite (fun _ => j3 _ _) fun _ => j3 _ _)
   exact Tells.ite (fun _ => j2 _ _) fun _ => j2 _ _
  ·exact Tells.bind (y4q _ _ (by simp; omega)) fun v _ => Tells.const _
theorem w3x {n : Int} (h : U32 n) : 0 ≤ n ∧ n < 4294967296 := by
 unfold U32 at h
 have h' : IntKind.u32.min ≤ n ∧ n ≤ IntKind.u32.max := by simpa [Lit.wf] using h
 have e1 : IntKind.u32.min = 0 := by decide +kernel
 have e2 : IntKind.u32.max = 4294967295 := by decide +kernel
 omega
theorem y0T {n : Int} (h : U32 n) : ∃ a : Nat, n = (a : Int) ∧ a < 2 ^ 32 := by
 obtain ⟨h0, h1⟩ := w3x h
 exact ⟨n.toNat, by omega, by omega⟩
theorem b_and (a b : Nat) (ha : a < 2 ^ 32) (hb : b < 2 ^ 32) : Go.bits .and .u32 (a : Int) (b : Int) = ((a &&& b : Nat) : Int) := (bits_nat .u32 32 (by decide) (fun n h0 h1 => by rw [IntKind.wrap_u32]; omega) a b ha hb).1
theorem b_or (a b : Nat) (ha : a < 2 ^ 32) (hb : b < 2 ^ 32) : Go.bits .or .u32 (a : Int) (b : Int) = ((a ||| b : Nat) : Int) := (bits_nat .u32 32 (by decide) (fun n h0 h1 => by rw [IntKind.wrap_u32]; omega) a b ha hb).2
def y6D (n : Nat) (p m : Int) : Bool := decide (Go.bits .or .u32 p m < 2 ^ n) && (Go.bits .and .u32 p m == 0)
theorem y4J (fs : List ByteArray) (ls : List z1J) (p m : Int) (hp : U32 p) (hm : U32 m) (hn : fs.length ≤ 24) : z2d.f fs ls p m = some (y6D fs.length p m) := by
 obtain ⟨a, rfl, ha⟩ := y0T hp
 obtain ⟨b, rfl, hb⟩ := y0T hm
 unfold z2d.f y6D shr
 rw [b_or a b ha hb, Int.toNat_natCast, Nat.min_eq_left (show fs.length ≤ IntKind.u32.bits from by have : IntKind.u32.bits = 32 := rfl; omega)]
 have hpos : (0 : Int) < 2 ^ fs.length := Int.pow_pos (by decide)
 have key : ((a ||| b : Nat) : Int) / 2 ^ fs.length = 0 ↔ ((a ||| b : Nat) : Int) < 2 ^ fs.length := by
  constructor
  ·intro h
   have h1 := Int.emod_add_mul_ediv ((a ||| b : Nat) : Int) (2 ^ fs.length)
   have h2 := Int.emod_lt_of_pos ((a ||| b : Nat) : Int) hpos
   rw [h, Int.mul_zero] at h1
   omega
  ·intro h
   exact Int.ediv_eq_zero_of_lt (Int.natCast_nonneg _) h
 by_cases h : ((a ||| b : Nat) : Int) < 2 ^ fs.length
 ·rw [if_pos (key.2 h), decide_eq_true h, Bool.true_and]
 ·rw [if_neg (fun e => h (key.1 e)), decide_eq_false h, Bool.false_and]
theorem y1v (fs : List ByteArray) (ls : List z1J) (p m : Int) (hp : U32 p) (hm : U32 m) (hn : fs.length ≤ 24) : z1e.f fs ls p m = some (y6D fs.length p m) := by
 obtain ⟨a, rfl, ha⟩ := y0T hp
 obtain ⟨b, rfl, hb⟩ := y0T hm
 have hw : IntKind.u64.wrap (fs.length : Int) = (fs.length : Int) := by
  simp only [IntKind.wrap, IntKind.bits, IntKind.signed]
  simp
  omega
 have hlt : 2 ^ fs.length ≤ 2 ^ 24 := Nat.pow_le_pow_right (by decide) hn
 have hall : z2w.f fs ls = some (((2 ^ fs.length - 1 : Nat) : Nat) : Int) := by
  unfold z2w.f shl
  rw [hw, if_pos (Int.natCast_nonneg _), Int.toNat_natCast, Nat.min_eq_left (show fs.length ≤ IntKind.u32.bits from by have : IntKind.u32.bits = 32 := rfl; omega), IntKind.wrap_u32]
  have hpos : 0 < 2 ^ fs.length := Nat.two_pow_pos _
  have e : (1 * 2 ^ fs.length : Int) = ((2 ^ fs.length : Nat) : Int) := by simp
  rw [e]
  generalize 2 ^ fs.length = q at *
  congr 1
  omega
 have hor : a ||| b < 2 ^ 32 := Nat.or_lt_two_pow ha hb
 unfold z1e.f y6D
 rw [hall]
 simp only [Option.bind_some]
 rw [b_or a b ha hb, b_and _ _ hor (show 2 ^ fs.length - 1 < 2 ^ 32 from by omega), Nat.and_two_pow_sub_one_eq_mod]
 have e : ((2 : Int) ^ fs.length) = ((2 ^ fs.length : Nat) : Int) := by simp
 rw [e]
 have hpos : 0 < 2 ^ fs.length := Nat.two_pow_pos _
 by_cases h : a ||| b < 2 ^ fs.length
 ·rw [if_pos (by rw [Nat.mod_eq_of_lt h]), decide_eq_true (by exact_mod_cast h), Bool.true_and]
 ·rw [if_neg (fun e => h (by have := Nat.mod_lt (a ||| b) hpos; omega)), decide_eq_false (by exact_mod_cast h), Bool.false_and]
def x6h (b : UInt8) : Bool := decide (97 ≤ b.toNat) && decide (b.toNat ≤ 122)
def y9X (s : ByteArray) : Bool := decide (1 ≤ s.size) && decide (s.size ≤ 32) && s.data.toList.all x6h
theorem z7P {α : Type} (p : α → Bool) : ∀ l : List α, (l.dropWhile p = []) ↔ l.all p = true
 | [] => by simp
 | x :: l => by
  by_cases h : p x = true
  ·rw [List.dropWhile_cons_of_pos h, z7P p l]; simp [h]
  ·rw [List.dropWhile_cons_of_neg h]; simp [h]
theorem y7z (l cs : List UInt8) : (Lib.trimS l cs = []) ↔ l.all (cs.contains ·) = true := by
 have e : Lib.trimRightS l cs = [] ↔ l.all (cs.contains ·) = true := by
  unfold Lib.trimRightS
  rw [List.reverse_eq_nil_iff, z7P, List.all_reverse]
 unfold Lib.trimS Lib.trimLeftS
 rw [z7P]
 constructor
 ·intro h
  have : l.all (cs.contains ·) = true := by
   rw [List.all_eq_true]
   intro b hb
   have hsplit : l.reverse = (l.reverse.takeWhile (cs.contains ·)) ++ (l.reverse.dropWhile (cs.contains ·)) := (List.takeWhile_append_dropWhile ..).symm
   have hb' : b ∈ l.reverse := by simpa using hb
   rw [hsplit] at hb'
   rcases List.mem_append.1 hb' with h1 | h1
   ·exact (List.all_eq_true.1 (List.all_takeWhile (l := l.reverse) (p := fun x => cs.contains x))) b h1
   ·rw [List.all_eq_true] at h
    exact h b (by unfold Lib.trimRightS; simpa using h1)
  exact this
 ·intro h
  rw [e.2 h]; rfl
theorem y9Y (s : ByteArray) : z2u.f s = some (y9X s) := by
 unfold z2u.f y9X
 rw [ByteArray.toList_eq]
 have hsz : s.size = s.data.toList.length := by simp
 by_cases h0 : s.data.toList = []
 ·rw [if_pos h0]
  have : s.size = 0 := by rw [hsz, h0]; rfl
  simp [this]
 ·have h1 : 1 ≤ s.size := by
   rw [hsz]
   exact Nat.succ_le_of_lt (List.length_pos_iff.2 h0)
  rw [if_neg h0]
  by_cases h2 : (s.size : Int) ≤ 32
  ·rw [if_pos h2]
   unfold z2I.f
   rw [if_pos ⟨by omega, by decide, by decide⟩]
   simp only [Option.bind_some, Option.some.injEq]
   rw [decide_eq_true h1, decide_eq_true (by omega : s.size ≤ 32), Bool.true_and, Bool.true_and, ByteArray.toList_eq]
   show (Lib.trimS s.data.toList _ == []) = _
   rw [Bool.eq_iff_iff, beq_iff_eq, y7z, List.all_eq_true, List.all_eq_true]
   have key : ∀ b : UInt8, (([97, 98, 99, 100, 101, 102, 103, 104, 105, 106, 107, 108, 109, 110, 111, 112, 113, 114, 115, 116, 117, 118, 119, 120, 121, 122] : List UInt8).contains b) = x6h b := by
    intro b
    have : ∀ n : Fin 256, (([97, 98, 99, 100, 101, 102, 103, 104, 105, 106, 107, 108, 109, 110, 111, 112, 113, 114, 115, 116, 117, 118, 119, 120, 121, 122] : List UInt8).contains (UInt8.ofNat n.val)) = x6h (UInt8.ofNat n.val) := by decide +kernel
    have hb := this ⟨b.toNat, b.toNat_lt⟩
    simpa using hb
   constructor
   ·intro h b hb; rw [← key]; exact h b hb
   ·intro h b hb
    have := h b hb
    rw [← key] at this
    exact this
  ·rw [if_neg h2, decide_eq_false (by omega : ¬ s.size ≤ 32)]
   simp
theorem x6i (s : ByteArray) (i : Nat) (h : i < s.size) : bt s (i : Int) = ((s.data.toList[i]'(by simpa using h)).toNat : Int) := by
 unfold bt
 simp only [Int.toNat_natCast]
 rw [dif_pos h]
 rfl
theorem x1r (s : ByteArray) : Evt (fun k => z0v.f k s) (y9X s) := by
 have hsz : s.size = s.data.toList.length := by simp
 have j0 : ∀ b : Bool, (b = false → 1 ≤ s.size ∧ s.size ≤ 32) → Evt (fun k => z0v.j0 k s b) (!b && s.data.toList.all x6h) := by
  intro b hb
  refine Evt.succ (fun k => by rw [z0v.j0]) ?_
  cases b with
  | true => exact Evt.yes rfl (Evt.const _)
  | false =>
   refine Evt.no (by decide) ?_
   obtain ⟨_, hb2⟩ := hb rfl
   have loop : ∀ (r pre : List UInt8), s.data.toList = pre ++ r → Evt (fun k => z0v.l0 k s (pre.length : Int)) (r.all x6h) := by
    intro r
    induction r with
    | nil =>
     intro pre e
     have : pre.length = s.size := by rw [hsz, e]; simp
     refine Evt.succ (fun k => by rw [z0v.l0]) ?_
     exact Evt.no (by omega) (Evt.const _)
    | cons x r ih =>
     intro pre e
     have hlt : pre.length < s.size := by rw [hsz, e]; simp
     have hx : bt s (pre.length : Int) = (x.toNat : Int) := by
      rw [x6i s _ hlt]
      congr 2
      simp [e]
     refine Evt.succ (fun k => by rw [z0v.l0]) ?_
     refine Evt.yes (by omega) (Evt.yes (by omega) ?_)
     rw [hx, z1S (by omega) (by omega)]
     have ih' := ih (pre ++ [x]) (by rw [e]; simp)
     rw [List.length_append] at ih'
     rw [List.all_cons]
     by_cases h1 : (x.toNat : Int) < 97
     ·rw [show x6h x = false from by unfold x6h; rw [decide_eq_false (by omega), Bool.false_and]]
      exact Evt.yes h1 (Evt.const _)
     ·refine Evt.no h1 ?_
      by_cases h2 : (x.toNat : Int) > 122
      ·rw [show x6h x = false from by unfold x6h; rw [decide_eq_false (by omega : ¬ x.toNat ≤ 122), Bool.and_false]]
       exact Evt.yes h2 (Evt.const _)
      ·rw [show x6h x = true from by unfold x6h; rw [decide_eq_true (by omega), decide_eq_true (by omega)]; rfl, Bool.true_and]
       exact Evt.no h2 ih'
   exact loop s.data.toList [] rfl
 unfold z0v.f y9X
 by_cases h1 : (s.size : Int) < 1
 ·have := j0 true (by simp)
  rw [decide_eq_false (by omega : ¬ 1 ≤ s.size)]
  exact Evt.yes h1 this
 ·have := j0 (decide ((s.size : Int) > 32)) (fun h => by simp at h; omega)
  rw [decide_eq_true (by omega : 1 ≤ s.size), Bool.true_and]
  have e : (!decide ((s.size : Int) > 32)) = decide (s.size ≤ 32) := by
   by_cases h : (s.size : Int) > 32
   ·rw [decide_eq_true h, decide_eq_false (by omega)]; rfl
   ·rw [decide_eq_false h, decide_eq_true (by omega)]; rfl
  rw [e] at this
  exact Evt.no h1 this
def w2i (r : Int) : Bool := decide (97 ≤ r ∧ r ≤ 122) || decide (65 ≤ r ∧ r ≤ 90) || decide (161 ≤ r ∧ r ≤ 1114111 ∧ r ≠ 65533 ∧ (r < 55296 ∨ 57343 < r))
theorem z8U (r : Int) : w2i r = true ↔ (97 ≤ r ∧ r ≤ 122) ∨ (65 ≤ r ∧ r ≤ 90) ∨ (161 ≤ r ∧ r ≤ 1114111 ∧ r ≠ 65533 ∧ (r < 55296 ∨ 57343 < r)) := by
 unfold w2i
 simp only [Bool.or_eq_true, decide_eq_true_eq, or_assoc]
theorem z5r {a b : Bool} (h : a = true ↔ b = true) : some a = some b := congrArg some (Bool.eq_iff_iff.2 h)
theorem y7A (r : Int) : z0B.f 3 r = some (w2i r) := by
 unfold z0B.f z0B.j0 z0B.j1
 by_cases h1 : 97 ≤ r
 ·rw [if_pos h1]
  by_cases h2 : r ≤ 122
  ·simp only [h2, decide_true, if_true]
   exact z5r (by rw [z8U]; simp only [true_iff]; omega)
  ·simp only [h2, decide_false, Bool.false_eq_true, if_false]
   rw [if_pos (by omega)]
   simp only [show ¬ r ≤ 90 from by omega, decide_false, Bool.false_eq_true, if_false]
   repeat' split
   all_goals exact z5r (by rw [z8U]; first | (simp; done) | (simp; omega))
 ·rw [if_neg h1]
  simp only [Bool.false_eq_true, if_false]
  by_cases h2 : 65 ≤ r
  ·rw [if_pos h2]
   by_cases h3 : r ≤ 90
   ·simp only [h3, decide_true, if_true]
    exact z5r (by rw [z8U]; simp only [true_iff]; omega)
   ·simp only [h3, decide_false, Bool.false_eq_true, if_false]
    rw [if_pos (by omega)]
    exact z5r (by rw [z8U]; simp; omega)
  ·rw [if_neg h2]
   rw [if_pos (by omega)]
   exact z5r (by rw [z8U]; simp; omega)
theorem y9Z (r : Int) : z1P.f r = some (w2i r) := by
 unfold z1P.f
 repeat' split
 all_goals exact z5r (by rw [z8U]; first | (simp; done) | (simp; omega) | (simp only [decide_eq_true_eq]; omega))
theorem z9N (pre r : List z1J) (x : z1J) : z0R (pre ++ x :: r) (pre.length : Int) = x := by
 simp [z0R, List.getD_eq_getElem?_getD]
theorem y6u {α : Type} (z : α) (pre r : List α) (x : α) : z7Q z (pre ++ x :: r) (pre.length : Int) = x := by
 simp [z7Q, List.getD_eq_getElem?_getD]
theorem x6j (pre r : List Int) (x : Int) : rd (pre ++ x :: r) (pre.length : Int) = x := by
 simp [rd, List.getD_eq_getElem?_getD]
def z6k : List ByteArray → List ByteArray → Bool
 | _, [] => true
 | seen, f :: r => y9X f && (!y1a seen f && z6k (seen ++ [f]) r)
def z3z (n : Nat) : List Int → List z1J → Bool
 | _, [] => true
 | seen, x :: r => w2i x.f0 && (y6D n x.f1 x.f2 && (!y1a seen x.f0 && z3z n (seen ++ [x.f0]) r))
def z3A (fs : List ByteArray) (ls : List z1J) : Bool := decide (fs.length ≤ 24) && (decide (1 ≤ ls.length) && (decide (ls.length ≤ 128) && (z6k [] fs && z3z fs.length [] ls)))
def z2M (ls : List z1J) : Prop := ∀ x ∈ ls, U32 x.f1 ∧ U32 x.f2
theorem y1h : ∀ (l seen : List ByteArray), z3i seen l = some (z6k seen l)
 | [], _ => rfl
 | f :: r, seen => by
  unfold z3i z6k
  rw [y9Y, Option.bind_some]
  cases y9X f with
  | false => rfl
  | true =>
   rw [if_pos rfl, Bool.true_and]
   cases y1a seen f with
   | true => rfl
   | false => rw [if_neg (by decide)]; exact y1h r _
theorem z9i (fs : List ByteArray) (hn : fs.length ≤ 24) (all : List z1J) : ∀ (l : List z1J) (seen : List Int), z2M l → z2N fs all seen l = some (z3z fs.length seen l)
 | [], _, _ => rfl
 | x :: r, seen, h => by
  unfold z2N z3z
  obtain ⟨hp, hm⟩ := h x (List.mem_cons_self ..)
  rw [y7A, Option.bind_some]
  cases w2i x.f0 with
  | false => rfl
  | true =>
   rw [if_pos rfl, Bool.true_and, y4J fs all _ _ hp hm hn, Option.bind_some]
   cases y1a seen x.f0 with
   | true => rw [if_pos rfl]; simp
   | false =>
    rw [if_neg (by decide)]
    cases y6D fs.length x.f1 x.f2 with
    | false => rfl
    | true =>
     rw [if_pos rfl]
     exact z9i fs hn all r _ (fun y hy => h y (List.mem_cons_of_mem _ hy))
theorem z4t (fs : List ByteArray) (ls : List z1J) (h : z2M ls) : z0T.f fs ls = some (if z3A fs ls = true then 0 else 7) := by
 unfold z0T.f z3A
 by_cases h1 : fs.length > 24
 ·rw [if_pos h1, decide_eq_false (by omega)]; rfl
 rw [if_neg h1, decide_eq_true (by omega : fs.length ≤ 24), Bool.true_and]
 by_cases h2 : ls.length < 1
 ·rw [if_pos h2, decide_eq_false (by omega)]; rfl
 rw [if_neg h2, decide_eq_true (by omega : 1 ≤ ls.length), Bool.true_and]
 by_cases h3 : ls.length > 128
 ·rw [if_pos h3, decide_eq_false (by omega)]; rfl
 rw [if_neg h3, decide_eq_true (by omega : ls.length ≤ 128), Bool.true_and, y1h, Option.bind_some]
 cases z6k [] fs with
 | false => rfl
 | true =>
  rw [if_pos rfl, z9i fs (by omega) ls ls [] h, Option.bind_some, Bool.true_and]
  cases z3z fs.length [] ls <;> rfl
theorem y3W {α : Type} [DecidableEq α] (y : α) (l : List α) (x : α) : y1a (y :: l) x = (decide (x = y) || y1a l x) := rfl
theorem y4r (fs : List ByteArray) (ls : List z1J) (hn : fs.length ≤ 24) (hl : ls.length ≤ 128) : ∀ (r pre : List z1J), ls = pre ++ r → z2M r → Evt (fun k => z0f.l2 k (pre.length : Int) fs ls) (if z3z fs.length (pre.map (·.f0)) r = true then 0 else 7) := by
 intro r
 induction r with
 | nil =>
  intro pre e _
  have : pre.length = ls.length := by rw [e]; simp
  refine Evt.succ (fun k => by rw [z0f.l2]) ?_
  exact Evt.no (by omega) (Evt.const _)
 | cons x r ih =>
  intro pre e hok
  have hlt : pre.length < ls.length := by rw [e]; simp
  obtain ⟨hp, hm⟩ := hok x (List.mem_cons_self ..)
  have hx : z0R ls (pre.length : Int) = x := by rw [e]; exact z9N pre r x
  have ih' := ih (pre ++ [x]) (by rw [e]; simp) (fun y hy => hok y (List.mem_cons_of_mem _ hy))
  rw [List.length_append, List.map_append] at ih'
  have dup : ∀ (p2 p1 : List z1J) (b : Bool), pre = p1 ++ p2 → Evt (fun k => z0f.l3 k (pre.length : Int) b (p1.length : Int) fs ls x.f0 x.f1 x.f2) (if (b && (!y1a (p2.map (·.f0)) x.f0 && z3z fs.length ((pre ++ [x]).map (·.f0)) r)) = true then 0 else 7) := by
   intro p2
   induction p2 with
   | nil =>
    intro p1 b e1
    have : p1.length = pre.length := by rw [e1]; simp
    refine Evt.succ (fun k => by rw [z0f.l3]) ?_
    refine Evt.no (by omega) ?_
    cases b with
    | false => exact Evt.no (by decide) (Evt.const _)
    | true =>
     refine Evt.yes rfl ?_
     rw [z1S (by omega) (by omega), Bool.true_and, List.map_append]
     exact ih'
   | cons y p2 ihp =>
    intro p1 b e1
    have hlt1 : p1.length < pre.length := by rw [e1]; simp
    have hy : z0R ls (p1.length : Int) = y := by rw [e, e1, List.append_assoc]; exact z9N p1 _ y
    have next := fun b' => ihp (p1 ++ [y]) b' (by rw [e1]; simp)
    simp only [List.length_append] at next
    refine Evt.succ (fun k => by rw [z0f.l3]) ?_
    refine Evt.yes (by omega) ?_
    rw [z1S (by omega) (by omega)]
    cases b with
    | false =>
     refine Evt.no (by decide) ?_
     have := next false
     simpa using this
    | true =>
     refine Evt.yes rfl (Evt.yes (by omega) (Evt.yes (by omega) ?_))
     rw [hy]
     have := next (y.f0 != x.f0)
     rw [List.map_cons, y3W]
     by_cases h : x.f0 = y.f0
     ·rw [decide_eq_true h]
      rw [show (y.f0 != x.f0) = false from by simp [h]] at this ⊢
      simpa using this
     ·rw [decide_eq_false h]
      rw [show (y.f0 != x.f0) = true from by simp; exact fun e => h e.symm] at this ⊢
      simpa using this
  refine Evt.succ (fun k => by rw [z0f.l2]) ?_
  refine Evt.yes (by omega) (Evt.yes (by omega) ?_)
  rw [hx, y9Z]
  simp only [Option.bind_some]
  have j4 : ∀ b : Bool, Evt (fun k => z0f.j4 k (pre.length : Int) b fs ls x.f0 x.f1 x.f2) (if (b && (!y1a (pre.map (·.f0)) x.f0 && z3z fs.length ((pre ++ [x]).map (·.f0)) r)) = true then 0 else 7) := fun b => by
   refine Evt.succ (fun k => by rw [z0f.j4]) ?_
   exact dup pre [] b rfl
  unfold z3z
  cases w2i x.f0 with
  | false =>
   refine Evt.no (by decide) ?_
   simpa using j4 false
  | true =>
   refine Evt.yes rfl ?_
   rw [y1v fs ls _ _ hp hm hn]
   simp only [Option.bind_some]
   have := j4 (y6D fs.length x.f1 x.f2)
   simpa using this
theorem y1i (fs : List ByteArray) (ls : List z1J) (h : z2M ls) : Evt (fun k => z0f.f k fs ls) (if z3A fs ls = true then 0 else 7) := by
 have names : fs.length ≤ 24 → ls.length ≤ 128 → ∀ (r pre : List ByteArray), fs = pre ++ r → Evt (fun k => z0f.l0 k (pre.length : Int) fs ls) (if (z6k pre r && z3z fs.length [] ls) = true then 0 else 7) := by
  intro hn hl r
  induction r with
  | nil =>
   intro pre e
   have : pre.length = fs.length := by rw [e]; simp
   refine Evt.succ (fun k => by rw [z0f.l0]) ?_
   refine Evt.no (by omega) ?_
   simpa [z6k] using y4r fs ls hn hl ls [] rfl h
  | cons x r ih =>
   intro pre e
   have hlt : pre.length < fs.length := by rw [e]; simp
   have hx : z7Q ByteArray.empty fs (pre.length : Int) = x := by rw [e]; exact y6u _ pre r x
   have ih' := ih (pre ++ [x]) (by rw [e]; simp)
   rw [List.length_append] at ih'
   have dup : ∀ (p2 p1 : List ByteArray) (b : Bool), pre = p1 ++ p2 → Evt (fun k => z0f.l1 k (pre.length : Int) b (p1.length : Int) fs ls) (if (b && (!y1a p2 x && (z6k (pre ++ [x]) r && z3z fs.length [] ls))) = true then 0 else 7) := by
    intro p2
    induction p2 with
    | nil =>
     intro p1 b e1
     have : p1.length = pre.length := by rw [e1]; simp
     refine Evt.succ (fun k => by rw [z0f.l1]) ?_
     refine Evt.no (by omega) ?_
     cases b with
     | false => exact Evt.no (by decide) (Evt.const _)
     | true =>
      refine Evt.yes rfl ?_
      rw [z1S (by omega) (by omega), Bool.true_and]
      exact ih'
    | cons y p2 ihp =>
     intro p1 b e1
     have hlt1 : p1.length < pre.length := by rw [e1]; simp
     have hy : z7Q ByteArray.empty fs (p1.length : Int) = y := by rw [e, e1, List.append_assoc]; exact y6u _ p1 _ y
     have next := fun b' => ihp (p1 ++ [y]) b' (by rw [e1]; simp)
     simp only [List.length_append] at next
     refine Evt.succ (fun k => by rw [z0f.l1]) ?_
     refine Evt.yes (by omega) ?_
     rw [z1S (by omega) (by omega)]
     cases b with
     | false =>
      refine Evt.no (by decide) ?_
      have := next false
      simpa using this
     | true =>
      refine Evt.yes rfl (Evt.yes (by omega) (Evt.yes (by omega) (Evt.yes (by omega) (Evt.yes (by omega) ?_))))
      rw [hy, hx, y3W]
      have e2 : (y.toList != x.toList) = !decide (x = y) := by
       rw [ByteArray.toList_eq, ByteArray.toList_eq]
       by_cases h : x = y
       ·subst h; simp
       ·have hne : ¬ y.data.toList = x.data.toList := fun he => h (ByteArray.ext (by
         have := congrArg List.toArray he
         simpa using this.symm))
        rw [decide_eq_false h]
        simpa using hne
      rw [e2]
      have := next (!decide (x = y))
      cases hd : decide (x = y) <;> rw [hd] at this <;> simpa using this
   refine Evt.succ (fun k => by rw [z0f.l0]) ?_
   refine Evt.yes (by omega) (Evt.yes (by omega) ?_)
   rw [hx]
   refine Evt.bind (x1r x) ?_
   have := dup pre [] (y9X x) rfl
   unfold z6k
   simpa [Bool.and_assoc] using this
 unfold z0f.f z3A
 have j0 : ∀ b : Bool, (b = false → fs.length ≤ 24 ∧ ls.length ≤ 128) → Evt (fun k => z0f.j0 k b fs ls) (if (!b && (z6k [] fs && z3z fs.length [] ls)) = true then 0 else 7) := by
  intro b hb
  refine Evt.succ (fun k => by rw [z0f.j0]) ?_
  cases b with
  | true => exact Evt.yes rfl (Evt.const _)
  | false =>
   refine Evt.no (by decide) ?_
   obtain ⟨h1, h2⟩ := hb rfl
   simpa using names h1 h2 fs [] rfl
 by_cases h1 : (fs.length : Int) > 24
 ·rw [decide_eq_false (by omega : ¬ fs.length ≤ 24)]
  exact Evt.yes h1 (by simpa using j0 true (by simp))
 refine Evt.no h1 ?_
 rw [decide_eq_true (by omega : fs.length ≤ 24), Bool.true_and]
 by_cases h2 : (ls.length : Int) < 1
 ·rw [decide_eq_false (by omega : ¬ 1 ≤ ls.length)]
  exact Evt.yes h2 (by simpa using j0 true (by simp))
 refine Evt.no h2 ?_
 rw [decide_eq_true (by omega : 1 ≤ ls.length), Bool.true_and]
 have := j0 (decide ((ls.length : Int) > 128)) (fun h => by simp at h; omega)
 by_cases h3 : (ls.length : Int) > 128
 ·rw [decide_eq_true h3] at this ⊢
  rw [decide_eq_false (by omega : ¬ ls.length ≤ 128)]
  simpa using this
 ·rw [decide_eq_false h3] at this ⊢
  rw [decide_eq_true (by omega : ls.length ≤ 128)]
  simpa using this
end Go.Proofs.YtplkoabikliagaaGreatDoor.K
namespace Go.Proofs.YtplkoabikliagaaGreatDoor.L
theorem Evt.x1s {α : Type} {g h : Nat → Option α} {a b : α} {c : Prop} [Decidable c] (t : c → Evt g a) (s : ¬ c → Evt h b) : Evt (fun k => if c then g k else h k) (if c then a else b) := by
 by_cases hc : c
 ·rw [if_pos hc]; exact Evt.yes hc (t hc)
 ·rw [if_neg hc]; exact Evt.no hc (s hc)
end Go.Proofs.YtplkoabikliagaaGreatDoor.L
namespace Go.Proofs.YtplkoabikliagaaGreatDoor.K
open Go.RowKit Go.Proofs.YtplkoabikliagaaGreatDoorW.PrintWords Go.Proofs.YtplkoabikliagaaGreatDoorW.PrintLast Go.Proofs.YtplkoabikliagaaGreatDoorW.PrintMore
open Go.Proofs.YtplkoabikliagaaGreatDoor.L
def y1q (x : S58) : Bool :=
 (if x.f0 = 6 ∨ x.f0 = 7 then true else if x.f0 = 8 ∨ x.f0 = 9 then decide (x.f4.length = 1) else if 1 ≤ x.f0 ∧ x.f0 ≤ 5 then decide (x.f4.length = 0) else false) &&
  (decide (x.f1 = 0 ∨ x.f0 = 2) && decide ((x.f2 = 0 ∧ x.f3 = 0) ∨ x.f0 = 3))
def z1E (l : List S58) : List Int := l.flatMap (·.f4)
structure x0b (l : List S58) : Prop where
 pos : 1 ≤ l.length
 len : l.length ≤ 256
 node : ∀ x ∈ l, y1q x = true
 up : ∀ (i : Nat) x, l[i]? = some x → ∀ k ∈ x.f4, (i : Int) < k ∧ k < (l.length : Int)
 once : ∀ j : Nat, 1 ≤ j → j < l.length → (z1E l).count (j : Int) = 1
open Classical in
noncomputable def z6t (l : List S58) : Bool := decide (x0b l)
theorem z8N (l : List S58) : z6t l = true ↔ x0b l := by
 unfold z6t
 exact @decide_eq_true_iff _ (Classical.propDecidable _)
theorem z2v {l : List S58} (h : ¬ x0b l) : z6t l = false := by
 have : ¬ z6t l = true := fun e => h ((z8N l).1 e)
 simpa using this
theorem x0c {p m : Int} (hp : U32 p) (hm : U32 m) : Go.bits .or .u32 p m = 0 ↔ p = 0 ∧ m = 0 := by
 obtain ⟨a, rfl, ha⟩ := y0T hp
 obtain ⟨b, rfl, hb⟩ := y0T hm
 rw [b_or a b ha hb]
 constructor
 ·intro h
  have h' : a ||| b = 0 := by exact_mod_cast h
  rw [Nat.or_eq_zero_iff] at h'
  omega
 ·rintro ⟨h1, h2⟩
  have h1' : a = 0 := by exact_mod_cast h1
  have h2' : b = 0 := by exact_mod_cast h2
  subst h1'; subst h2'
  rfl
theorem z4h (a b : List S58) : z1E (a ++ b) = z1E a ++ z1E b := by simp [z1E]
theorem y1j (x : S58) (b : List S58) : z1E (x :: b) = x.f4 ++ z1E b := by simp [z1E]
theorem z8V (pre r : List S58) (x : S58) : z0g (pre ++ x :: r) (pre.length : Int) = x := by
 simp [z0g, List.getD_eq_getElem?_getD]
def Seen (n : Nat) (s : List Bool) (ks : List Int) : Prop := s.length = n ∧ (∀ j : Nat, j < n → s[j]? = some (decide ((j : Int) ∈ ks))) ∧ ks.Nodup ∧ ∀ k ∈ ks, 1 ≤ k ∧ k < (n : Int)
def Counted (n : Nat) (s : List Int) (ks : List Int) : Prop := s.length = n ∧ (∀ j : Nat, j < n → s[j]? = some ((ks.count (j : Int) : Nat) : Int)) ∧ ∀ k ∈ ks, 1 ≤ k ∧ k < (n : Int)
theorem Seen.snoc {n : Nat} {s : List Bool} {ks : List Int} (h : Seen n s ks) {k : Int} (h1 : 1 ≤ k) (h2 : k < (n : Int)) (h3 : k ∉ ks) : Seen n (s.set k.toNat true) (ks ++ [k]) := by
 obtain ⟨a, b, c, d⟩ := h
 refine ⟨by simpa using a, fun j hj => ?_, ?_, fun q hq => ?_⟩
 ·rw [List.getElem?_set]
  by_cases e : k.toNat = j
  ·rw [if_pos e, if_pos (by omega)]
   have : (j : Int) ∈ ks ++ [k] := by simp; right; omega
   rw [decide_eq_true this]
  ·rw [if_neg e, b j hj]
   congr 1
   have : ((j : Int) ∈ ks ++ [k]) ↔ ((j : Int) ∈ ks) := by
    simp only [List.mem_append, List.mem_singleton]
    constructor
    ·rintro (h | h)
     ·exact h
     ·omega
    ·exact Or.inl
   simp only [this]
 ·rw [List.nodup_append]
  refine ⟨c, by simp, fun x hx y hy e => ?_⟩
  simp only [List.mem_singleton] at hy
  exact h3 (by rw [← hy, ← e]; exact hx)
 ·rcases List.mem_append.1 hq with hq | hq
  ·exact d q hq
  ·simp only [List.mem_singleton] at hq
   omega
theorem Counted.snoc {n : Nat} {s : List Int} {ks : List Int} (h : Counted n s ks) {k : Int} (h1 : 1 ≤ k) (h2 : k < (n : Int)) : Counted n (s.set k.toNat (rd s k + 1)) (ks ++ [k]) := by
 obtain ⟨a, b, d⟩ := h
 have hk : rd s k = ((ks.count k : Nat) : Int) := by
  have := b k.toNat (by omega)
  unfold rd
  rw [List.getD_eq_getElem?_getD, this, Int.toNat_of_nonneg (by omega)]
  rfl
 refine ⟨by simpa using a, fun j hj => ?_, fun q hq => ?_⟩
 ·rw [List.getElem?_set]
  by_cases e : k.toNat = j
  ·rw [if_pos e, if_pos (by omega), hk]
   have : (j : Int) = k := by omega
   rw [this, List.count_append]
   simp
  ·rw [if_neg e, b j hj, List.count_append]
   have : ([k] : List Int).count (j : Int) = 0 := List.count_eq_zero.2 (by simp; omega)
   rw [this, Nat.add_zero]
 ·rcases List.mem_append.1 hq with hq | hq
  ·exact d q hq
  ·simp only [List.mem_singleton] at hq
   omega
theorem y6v : ∀ (l : List Bool) (x : Bool), l.length ≤ 1000 → Evt (fun k => z0J.f k l x) (decide (x ∈ l)) := by
 intro l x hl
 have idx : ∀ (r pre : List Bool), l = pre ++ r → Evt (fun k => z0A.l0 k l x (l.length : Int) (pre.length : Int)) (if x ∈ r then ((pre.length + r.findIdx (fun y => y == x) : Nat) : Int) else -1) := by
  intro r
  induction r with
  | nil =>
   intro pre e
   have : pre.length = l.length := by rw [e]; simp
   refine Evt.succ (fun k => by rw [z0A.l0]) ?_
   exact Evt.no (by omega) (Evt.const _)
  | cons y r ih =>
   intro pre e
   have hlt : pre.length < l.length := by rw [e]; simp
   have hy : z7Q false l (pre.length : Int) = y := by rw [e]; exact y6u _ pre r y
   have ih' := ih (pre ++ [y]) (by rw [e]; simp)
   rw [List.length_append] at ih'
   refine Evt.succ (fun k => by rw [z0A.l0]) ?_
   refine Evt.yes (by omega) (Evt.yes (by omega) (Evt.yes (by omega) ?_))
   rw [hy, z1S (by omega) (by omega)]
   by_cases h : x = y
   ·subst h
    rw [if_pos (List.mem_cons_self ..)]
    simp only [List.findIdx_cons, beq_self_eq_true, cond_true, Nat.add_zero]
    exact Evt.yes (by first | trivial | rfl | simp) (Evt.const _)
   ·have hm : (x ∈ y :: r) ↔ x ∈ r := by simp [h]
    simp only [hm]
    have hb : (y == x) = false := by simpa using fun e => h e.symm
    refine Evt.no (by first | exact h | exact fun e => h e.symm | simpa using h | simpa using fun e : y = x => h e.symm) ?_
    simp only [List.findIdx_cons, hb, cond_false]
    have e2 : pre.length + [y].length + r.findIdx (fun z => z == x) = pre.length + (r.findIdx (fun z => z == x) + 1) := by simp; omega
    rw [e2] at ih'
    exact ih'
 unfold z0J.f z0A.f
 refine Evt.bind (idx l [] rfl) ?_
 have e : (decide ((if x ∈ l then ((([] : List Bool).length + l.findIdx (fun y => y == x) : Nat) : Int) else -1) ≥ 0)) = decide (x ∈ l) := by
  by_cases h : x ∈ l
  ·rw [if_pos h, decide_eq_true h, decide_eq_true (Int.natCast_nonneg _)]
  ·rw [if_neg h, decide_eq_false h]; rfl
 rw [← e]
 exact Evt.const _
section
variable {l : List S58}
theorem y7B (x : S58) (hp : U32 x.f2) (hm : U32 x.f3) (n : Int) (s : List Bool) (i m j : Int) (v : Bool) (h6 : Evt (fun k => z0h.l1 k n s i l m j x.f4 (x.f4.length : Int) 0) v) :
  Evt (fun k => if x.f0 = 6 then z0h.j2 k n s i l m j x.f0 (x.f0 == 6) x.f0 x.f1 x.f2 x.f3 x.f4 else z0h.j2 k n s i l m j x.f0 (x.f0 == 7) x.f0 x.f1 x.f2 x.f3 x.f4) (y1q x && v) := by
 have j6 : ∀ b : Bool, Evt (fun k => z0h.j6 k n s i l m j b x.f0 x.f1 x.f2 x.f3 x.f4) (if b = true then false else v) := fun b => by
  refine Evt.succ (fun k => by rw [z0h.j6]) ?_
  exact Evt.x1s (fun _ => Evt.const _) fun _ => h6
 obtain ⟨V5, hV5, j5⟩ : ∃ V5, V5 = (decide (x.f1 = 0 ∨ x.f0 = 2) && decide ((x.f2 = 0 ∧ x.f3 = 0) ∨ x.f0 = 3) && v) ∧ Evt (fun k => z0h.j5 k n s i l m j x.f0 x.f1 x.f2 x.f3 x.f4) V5 := by
  refine ⟨_, rfl, ?_⟩
  refine Evt.succ (fun k => by rw [z0h.j5]) ?_
  have inner : Evt (fun k => if Go.bits .or .u32 x.f2 x.f3 = 0 then z0h.j6 k n s i l m j false x.f0 x.f1 x.f2 x.f3 x.f4 else z0h.j6 k n s i l m j (x.f0 != 3) x.f0 x.f1 x.f2 x.f3 x.f4) (decide ((x.f2 = 0 ∧ x.f3 = 0) ∨ x.f0 = 3) && v) := by
   by_cases ho : x.f2 = 0 ∧ x.f3 = 0
   ·rw [decide_eq_true (Or.inl ho), Bool.true_and]
    exact Evt.yes ((x0c hp hm).2 ho) (j6 false)
   ·refine Evt.no (fun e => ho ((x0c hp hm).1 e)) ?_
    have := j6 (x.f0 != 3)
    by_cases h3 : x.f0 = 3
    ·rw [decide_eq_true (Or.inr h3), Bool.true_and]
     rw [show (x.f0 != 3) = false from by simp [h3]] at this ⊢
     exact this
    ·rw [decide_eq_false (fun e => e.elim ho h3), Bool.false_and]
     rw [show (x.f0 != 3) = true from by simp [h3]] at this ⊢
     exact this
  by_cases h1 : x.f1 = 0
  ·rw [decide_eq_true (Or.inl h1), Bool.true_and]
   exact Evt.yes h1 inner
  ·refine Evt.no h1 ?_
   by_cases h2 : x.f0 = 2
   ·rw [decide_eq_true (Or.inr h2), Bool.true_and]
    exact Evt.yes h2 inner
   ·rw [decide_eq_false (fun e => e.elim h1 h2), Bool.false_and, Bool.false_and]
    exact Evt.no h2 (j6 true)
 have j4 : ∀ b : Bool, Evt (fun k => z0h.j4 k n s i l m j b x.f0 x.f1 x.f2 x.f3 x.f4) (if b = true then (if (x.f4.length : Int) = 0 then V5 else false) else false) := fun b => by
  refine Evt.succ (fun k => by rw [z0h.j4]) ?_
  exact Evt.x1s (fun _ => Evt.x1s (fun _ => j5) fun _ => Evt.const _) fun _ => Evt.const _
 have j3 : ∀ (c : Int) (b : Bool), Evt (fun k => z0h.j3 k n s i l m j c b x.f0 x.f1 x.f2 x.f3 x.f4) (if b = true then (if (x.f4.length : Int) = 1 then V5 else false) else if 1 ≤ c ∧ c ≤ 5 then (if (x.f4.length : Int) = 0 then V5 else false) else false) := fun c b => by
  refine Evt.succ (fun k => by rw [z0h.j3]) ?_
  refine Evt.x1s (fun _ => Evt.x1s (fun _ => j5) fun _ => Evt.const _) fun _ => ?_
  have fin : ∀ d : Int, (c = d → 1 ≤ c ∧ c ≤ 5) → (c = d ∨ ¬ (1 ≤ c ∧ c ≤ 5)) → Evt (fun k => z0h.j4 k n s i l m j (c == d) x.f0 x.f1 x.f2 x.f3 x.f4) (if 1 ≤ c ∧ c ≤ 5 then (if (x.f4.length : Int) = 0 then V5 else false) else false) := fun d h1 h2 => by
   have := j4 (c == d)
   rcases h2 with h2 | h2
   ·rw [if_pos (h1 h2)]
    rw [show (c == d) = true from by simp [h2]] at this ⊢
    exact this
   ·rw [if_neg h2]
    have hne : ¬ c = d := fun e => h2 (h1 e)
    rw [show (c == d) = false from by simp [hne]] at this ⊢
    exact this
  by_cases h1 : c = 1
  ·exact Evt.yes h1 (fin 1 (by omega) (.inl h1))
  refine Evt.no h1 ?_
  by_cases h2 : c = 2
  ·exact Evt.yes h2 (fin 2 (by omega) (.inl h2))
  refine Evt.no h2 ?_
  by_cases h3 : c = 3
  ·exact Evt.yes h3 (fin 3 (by omega) (.inl h3))
  refine Evt.no h3 ?_
  by_cases h4 : c = 4
  ·exact Evt.yes h4 (fin 4 (by omega) (.inl h4))
  exact Evt.no h4 (fin 5 (by omega) (by omega))
 have j2 : ∀ (c : Int) (b : Bool), Evt (fun k => z0h.j2 k n s i l m j c b x.f0 x.f1 x.f2 x.f3 x.f4) (if b = true then V5 else if c = 8 ∨ c = 9 then (if (x.f4.length : Int) = 1 then V5 else false) else if 1 ≤ c ∧ c ≤ 5 then (if (x.f4.length : Int) = 0 then V5 else false) else false) := fun c b => by
  refine Evt.succ (fun k => by rw [z0h.j2]) ?_
  refine Evt.x1s (fun _ => j5) fun _ => ?_
  by_cases h8 : c = 8
  ·rw [if_pos (.inl h8)]
   have := j3 c (c == 8)
   rw [show (c == 8) = true from by simp [h8]] at this ⊢
   exact Evt.yes h8 this
  refine Evt.no h8 ?_
  by_cases h9 : c = 9
  ·rw [if_pos (.inr h9)]
   have := j3 c (c == 9)
   rw [show (c == 9) = true from by simp [h9]] at this ⊢
   exact this
  ·rw [if_neg (by omega)]
   have := j3 c (c == 9)
   rw [show (c == 9) = false from by simp [h9]] at this ⊢
   exact this
 have e : (y1q x && v) = (if x.f0 = 6 ∨ x.f0 = 7 then V5 else if x.f0 = 8 ∨ x.f0 = 9 then (if (x.f4.length : Int) = 1 then V5 else false) else if 1 ≤ x.f0 ∧ x.f0 ≤ 5 then (if (x.f4.length : Int) = 0 then V5 else false) else false) := by
  have c1 : ((x.f4.length : Int) = 1) ↔ x.f4.length = 1 := by omega
  have c0 : ((x.f4.length : Int) = 0) ↔ x.f4.length = 0 := by omega
  unfold y1q
  rw [hV5, Bool.and_assoc]
  simp only [c1, c0]
  split
  ·simp
  ·split
   ·split <;> simp_all
   ·split
    ·split <;> simp_all
    ·simp
 rw [e]
 by_cases h6' : x.f0 = 6
 ·rw [if_pos (.inl h6')]
  have := j2 x.f0 (x.f0 == 6)
  rw [show (x.f0 == 6) = true from by simp [h6']] at this ⊢
  exact Evt.yes h6' this
 refine Evt.no h6' ?_
 by_cases h7 : x.f0 = 7
 ·rw [if_pos (.inr h7)]
  have := j2 x.f0 (x.f0 == 7)
  rw [show (x.f0 == 7) = true from by simp [h7]] at this ⊢
  exact this
 ·rw [if_neg (by omega)]
  have := j2 x.f0 (x.f0 == 7)
  rw [show (x.f0 == 7) = false from by simp [h7]] at this ⊢
  exact this
theorem x7u (x : S58) : Evt (fun k => z0k.f k x.f0 x.f1 x.f2 x.f3 x.f4) (y1q x) := by
 obtain ⟨g, hg⟩ : ∃ g : Bool, g = (decide (x.f1 = 0 ∨ x.f0 = 2) && decide ((x.f2 = 0 ∧ x.f3 = 0) ∨ x.f0 = 3)) := ⟨_, rfl⟩
 have leaf : Evt (fun _ => if x.f1 = 0 then (if x.f2 = 0 then (if x.f3 = 0 then (some true) else (some (x.f0 == 3))) else (some (x.f0 == 3))) else (if x.f0 = 2 then (if x.f2 = 0 then (if x.f3 = 0 then (some true) else (some (x.f0 == 3))) else (some (x.f0 == 3))) else (some false))) g := by
  refine Evt.y4p ?_
  have b3 : (x.f0 == 3) = decide (x.f0 = 3) := by rfl
  rw [hg, b3]
  by_cases h1 : x.f1 = 0 <;> by_cases h2 : x.f0 = 2 <;> by_cases h3 : x.f2 = 0 <;> by_cases h4 : x.f3 = 0 <;> simp [h1, h2, h3, h4]
 have j2 : ∀ b : Bool, Evt (fun k => z0k.j2 k (x.f4.length : Int) b x.f0 x.f1 x.f2 x.f3 x.f4) (if b = true then (if (x.f4.length : Int) = 0 then g else false) else false) := fun b => by
  refine Evt.succ (fun k => by rw [z0k.j2]) ?_
  exact Evt.x1s (fun _ => Evt.x1s (fun _ => leaf) fun _ => Evt.const _) fun _ => Evt.const _
 have j1 : ∀ (c : Int) (b : Bool), Evt (fun k => z0k.j1 k (x.f4.length : Int) c b x.f0 x.f1 x.f2 x.f3 x.f4) (if b = true then (if (x.f4.length : Int) = 1 then g else false) else if 1 ≤ c ∧ c ≤ 5 then (if (x.f4.length : Int) = 0 then g else false) else false) := fun c b => by
  refine Evt.succ (fun k => by rw [z0k.j1]) ?_
  refine Evt.x1s (fun _ => Evt.x1s (fun _ => leaf) fun _ => Evt.const _) fun _ => ?_
  have fin : ∀ d : Int, (c = d → 1 ≤ c ∧ c ≤ 5) → (c = d ∨ ¬ (1 ≤ c ∧ c ≤ 5)) → Evt (fun k => z0k.j2 k (x.f4.length : Int) (c == d) x.f0 x.f1 x.f2 x.f3 x.f4) (if 1 ≤ c ∧ c ≤ 5 then (if (x.f4.length : Int) = 0 then g else false) else false) := fun d h1 h2 => by
   have := j2 (c == d)
   rcases h2 with h2 | h2
   ·rw [if_pos (h1 h2)]
    rw [show (c == d) = true from by simp [h2]] at this ⊢
    exact this
   ·rw [if_neg h2]
    have hne : ¬ c = d := fun e => h2 (h1 e)
    rw [show (c == d) = false from by simp [hne]] at this ⊢
    exact this
  by_cases h1 : c = 1
  ·exact Evt.yes h1 (fin 1 (by omega) (.inl h1))
  refine Evt.no h1 ?_
  by_cases h2 : c = 2
  ·exact Evt.yes h2 (fin 2 (by omega) (.inl h2))
  refine Evt.no h2 ?_
  by_cases h3 : c = 3
  ·exact Evt.yes h3 (fin 3 (by omega) (.inl h3))
  refine Evt.no h3 ?_
  by_cases h4 : c = 4
  ·exact Evt.yes h4 (fin 4 (by omega) (.inl h4))
  exact Evt.no h4 (fin 5 (by omega) (by omega))
 have j0 : ∀ (c : Int) (b : Bool), Evt (fun k => z0k.j0 k (x.f4.length : Int) c b x.f0 x.f1 x.f2 x.f3 x.f4) (if b = true then g else if c = 8 ∨ c = 9 then (if (x.f4.length : Int) = 1 then g else false) else if 1 ≤ c ∧ c ≤ 5 then (if (x.f4.length : Int) = 0 then g else false) else false) := fun c b => by
  refine Evt.succ (fun k => by rw [z0k.j0]) ?_
  refine Evt.x1s (fun _ => leaf) fun _ => ?_
  by_cases h8 : c = 8
  ·rw [if_pos (.inl h8)]
   have := j1 c (c == 8)
   rw [show (c == 8) = true from by simp [h8]] at this ⊢
   exact Evt.yes h8 this
  refine Evt.no h8 ?_
  by_cases h9 : c = 9
  ·rw [if_pos (.inr h9)]
   have := j1 c (c == 9)
   rw [show (c == 9) = true from by simp [h9]] at this ⊢
   exact this
  ·rw [if_neg (by omega)]
   have := j1 c (c == 9)
   rw [show (c == 9) = false from by simp [h9]] at this ⊢
   exact this
 have e : y1q x = (if x.f0 = 6 ∨ x.f0 = 7 then g else if x.f0 = 8 ∨ x.f0 = 9 then (if (x.f4.length : Int) = 1 then g else false) else if 1 ≤ x.f0 ∧ x.f0 ≤ 5 then (if (x.f4.length : Int) = 0 then g else false) else false) := by
  have c1 : ((x.f4.length : Int) = 1) ↔ x.f4.length = 1 := by omega
  have c0 : ((x.f4.length : Int) = 0) ↔ x.f4.length = 0 := by omega
  unfold y1q
  rw [← hg]
  simp only [c1, c0]
  split
  ·simp
  ·split
   ·split <;> simp_all
   ·split
    ·split <;> simp_all
    ·simp
 rw [e]
 unfold z0k.f
 by_cases h6' : x.f0 = 6
 ·rw [if_pos (.inl h6')]
  have := j0 x.f0 (x.f0 == 6)
  rw [show (x.f0 == 6) = true from by simp [h6']] at this ⊢
  exact Evt.yes h6' this
 refine Evt.no h6' ?_
 by_cases h7 : x.f0 = 7
 ·rw [if_pos (.inr h7)]
  have := j0 x.f0 (x.f0 == 7)
  rw [show (x.f0 == 7) = true from by simp [h7]] at this ⊢
  exact this
 ·rw [if_neg (by omega)]
  have := j0 x.f0 (x.f0 == 7)
  rw [show (x.f0 == 7) = false from by simp [h7]] at this ⊢
  exact this
theorem x0b.nodup (h : x0b l) : ∀ k ∈ z1E l, (z1E l).count k = 1 := by
 intro k hk
 have : 1 ≤ k ∧ k < (l.length : Int) := by
  unfold z1E at hk
  obtain ⟨x, hx, hkx⟩ := List.mem_flatMap.1 hk
  obtain ⟨i, hi⟩ := List.mem_iff_getElem?.1 hx
  have := h.up i x hi k hkx
  omega
 have := h.once k.toNat (by omega) (by omega)
 rwa [Int.toNat_of_nonneg (by omega)] at this
theorem x6k (hv : Rows y7w l) (h1 : 1 ≤ l.length) (h2 : l.length ≤ 256) : ∀ (r pre : List S58) (s : List Bool), l = pre ++ r → (∀ x ∈ pre, y1q x = true) → (∀ (i : Nat) x, pre[i]? = some x → ∀ k ∈ x.f4, (i : Int) < k ∧ k < (l.length : Int)) → Seen l.length s (z1E pre) →
  Evt (fun k => z0h.l0 k (l.length : Int) s l (l.length : Int) (pre.length : Int)) (z6t l) := by
 intro r
 induction r with
 | nil =>
  intro pre s e hn hu hs
  have hpl : pre.length = l.length := by rw [e]; simp
  have hpe : pre = l := by rw [e]; simp
  subst hpe
  refine Evt.succ (fun k => by rw [z0h.l0]) ?_
  have hsl := hs.1
  refine Evt.no (by omega) (Evt.yes (by omega) (Evt.bind (y6v _ _ (by simp; omega)) ?_))
  have : z6t pre = !decide (false ∈ s.drop 1) := by
   by_cases hf : false ∈ s.drop 1
   ·rw [decide_eq_true hf]
    refine z2v fun ht => ?_
    obtain ⟨j, hj⟩ := List.mem_iff_getElem?.1 hf
    rw [List.getElem?_drop] at hj
    obtain ⟨hlt, _⟩ := List.getElem?_eq_some_iff.1 hj
    rw [hs.2.1 (1 + j) (by omega)] at hj
    have := ht.once (1 + j) (by omega) (by omega)
    have hmem : ((1 + j : Nat) : Int) ∈ z1E pre := by
     refine List.count_pos_iff.1 (by rw [this]; exact Nat.one_pos)
    rw [decide_eq_true hmem] at hj
    simp at hj
   ·rw [decide_eq_false hf]
    refine (z8N _).2 ⟨h1, h2, hn, hu, fun j hj1 hj2 => ?_⟩
    have hj := hs.2.1 j hj2
    have hmem : (j : Int) ∈ z1E pre := by
     refine Decidable.byContradiction fun hno => hf ?_
     rw [decide_eq_false hno] at hj
     refine List.mem_iff_getElem?.2 ⟨j - 1, ?_⟩
     rw [List.getElem?_drop, show 1 + (j - 1) = j from by omega]
     exact hj
    exact hs.2.2.1.count.trans (if_pos hmem)
  rw [this]
  exact Evt.const _
 | cons x r ih =>
  intro pre s e hn hu hs
  have hlt : pre.length < l.length := by rw [e]; simp
  have hx : z0g l (pre.length : Int) = x := by rw [e]; exact z8V pre r x
  have hxm : x ∈ l := by rw [e]; simp
  obtain ⟨_, _, hp, hm, hk⟩ := hv.2 x hxm
  have hkl : x.f4.length ≤ 9223372036854775807 := by have := hk.1; unfold maxLen at this; exact this
  have hli : l[pre.length]? = some x := by rw [e]; simp
  have hall : z1E l = z1E pre ++ (x.f4 ++ z1E r) := by
   conv => lhs; rw [e]
   rw [z4h, y1j]
  refine Evt.succ (fun k => by rw [z0h.l0]) ?_
  refine Evt.yes (by omega) (Evt.yes (by omega) (Evt.yes (by omega) ?_))
  rw [hx]
  by_cases hnx : y1q x = true
  ·have kids : ∀ (q p : List Int) (s : List Bool), x.f4 = p ++ q → (∀ k ∈ p, (pre.length : Int) < k ∧ k < (l.length : Int)) → Seen l.length s (z1E pre ++ p) → Evt (fun k => z0h.l1 k (l.length : Int) s (pre.length : Int) l (l.length : Int) (pre.length : Int) x.f4 (x.f4.length : Int) (p.length : Int)) (z6t l) := by
    intro q
    induction q with
    | nil =>
     intro p s ep hup hsp
     have hpl : p.length = x.f4.length := by rw [ep]; simp
     have hpe : p = x.f4 := by rw [ep]; simp
     refine Evt.succ (fun k => by rw [z0h.l1]) ?_
     refine Evt.no (by omega) ?_
     rw [z1S (by omega) (by omega)]
     have := ih (pre ++ [x]) s (by rw [e]; simp) (fun y hy => ?_) (fun i y hi k hk => ?_) ?_
     ·rw [List.length_append] at this
      exact this
     ·rcases List.mem_append.1 hy with hy | hy
      ·exact hn y hy
      ·simp only [List.mem_singleton] at hy; rw [hy]; exact hnx
     ·rw [List.getElem?_append] at hi
      split at hi
      ·exact hu i y hi k hk
      ·rename_i hge
       have : i = pre.length := by
        have := (List.getElem?_eq_some_iff.1 hi).1
        simp at this; omega
       subst this
       simp only [Nat.sub_self, List.getElem?_cons_zero, Option.some.injEq] at hi
       subst hi
       exact hup k (by rw [hpe]; exact hk)
     ·rw [z4h, show z1E [x] = x.f4 from by simp [z1E], ← hpe]
      exact hsp
    | cons y q ihq =>
     intro p s ep hup hsp
     have hplt : p.length < x.f4.length := by rw [ep]; simp
     have hy : rd x.f4 (p.length : Int) = y := by rw [ep]; exact x6j p q y
     have hym : y ∈ x.f4 := by rw [ep]; simp
     refine Evt.succ (fun k => by rw [z0h.l1]) ?_
     refine Evt.yes (by omega) (Evt.yes (by omega) (Evt.yes (by omega) ?_))
     rw [hy]
     by_cases hy1 : y ≤ (pre.length : Int)
     ·rw [z2v (fun ht => by have := ht.up _ x hli y hym; omega)]
      exact Evt.yes hy1 (Evt.const _)
     refine Evt.no hy1 ?_
     by_cases hy2 : y ≥ (l.length : Int)
     ·rw [z2v (fun ht => by have := ht.up _ x hli y hym; omega)]
      exact Evt.yes hy2 (Evt.const _)
     refine Evt.no hy2 (Evt.yes (by omega) (Evt.yes (by rw [hsp.1]; omega) ?_))
     have hflag : z7Q false s y = decide (y ∈ z1E pre ++ p) := by
      unfold z7Q
      rw [List.getD_eq_getElem?_getD, hsp.2.1 y.toNat (by omega), Int.toNat_of_nonneg (by omega)]
      rfl
     rw [hflag]
     by_cases hd : y ∈ z1E pre ++ p
     ·rw [z2v (fun ht => by
       have hc := ht.nodup y (by rw [hall]; simp [hym])
       rw [hall, ep] at hc
       have h3 : 1 ≤ (z1E pre ++ p).count y := List.count_pos_iff.2 hd
       rw [show z1E pre ++ (p ++ y :: q ++ z1E r) = (z1E pre ++ p) ++ (y :: (q ++ z1E r)) from by simp, List.count_append, List.count_cons_self] at hc
       omega)]
      exact Evt.yes (decide_eq_true hd) (Evt.const _)
     refine Evt.no (by simpa using hd) ?_
     rw [z1S (by omega) (by omega)]
     have := ihq (p ++ [y]) (s.set y.toNat true) (by rw [ep]; simp) (fun k hk => ?_) ?_
     ·rw [List.length_append] at this
      exact this
     ·rcases List.mem_append.1 hk with hk | hk
      ·exact hup k hk
      ·simp only [List.mem_singleton] at hk; omega
     ·rw [← List.append_assoc]
      exact hsp.snoc (by omega) (by omega) hd
   have := y7B (l := l) x hp hm (l.length : Int) s (pre.length : Int) (l.length : Int) (pre.length : Int) (z6t l) (kids x.f4 [] s rfl (by simp) (by simpa using hs))
   rw [hnx, Bool.true_and] at this
   exact this
  ·have hnf : y1q x = false := by simpa using hnx
   rw [z2v (fun ht => hnx (ht.node x hxm))]
   have hk1 : ∃ v, Evt (fun k => z0h.l1 k (l.length : Int) s (pre.length : Int) l (l.length : Int) (pre.length : Int) x.f4 (x.f4.length : Int) 0) v := by
    have := y4I l h2 (fun x hx => (hv.2 x hx).2.2.2.2.1)
    have nxt : ∀ s : List Bool, s.length = l.length → Tells (fun k => z0h.l0 k (l.length : Int) s l (l.length : Int) (wrap64 ((pre.length : Int) + 1))) := fun s hs => by
     rw [z1S (by omega) (by omega)]
     exact this l.length ((pre.length : Int) + 1) s (by omega) h1 (by omega) hs
    have kids : ∀ (e : Nat) (j : Int) (s : List Bool), 0 ≤ j → (x.f4.length : Int) ≤ j + e → s.length = l.length → Tells (fun k => z0h.l1 k (l.length : Int) s (pre.length : Int) l (l.length : Int) (pre.length : Int) x.f4 (x.f4.length : Int) j) := by
     intro e
     induction e with
     | zero =>
      intro j s hj he hs
      refine Tells.succ (fun k => by rw [z0h.l1]) (Tells.ite (fun h => by omega) fun _ => nxt s hs)
     | succ e ih =>
      intro j s hj he hs
      refine Tells.succ (fun k => by rw [z0h.l1]) (Tells.ite (fun hlt => Tells.ite (fun _ => Tells.ite (fun _ => Tells.ite (fun _ => Tells.const _) fun _ => Tells.ite (fun _ => Tells.const _) fun _ => Tells.ite (fun _ => Tells.ite (fun _ => Tells.ite (fun _ => Tells.const _) fun _ => ?_) fun h => Tells.absurd (by omega) h) fun h => Tells.absurd (by omega) h) fun h => Tells.absurd hlt h) fun h => Tells.absurd hj h) fun _ => nxt s hs)
      rw [z1S (by omega) (by omega)]
      exact ih (j + 1) _ (by omega) (by omega) (by simpa using hs)
    exact kids x.f4.length 0 s (Int.le_refl 0) (by omega) hs.1
   obtain ⟨v, hk1⟩ := hk1
   have := y7B (l := l) x hp hm (l.length : Int) s (pre.length : Int) (l.length : Int) (pre.length : Int) v hk1
   rw [hnf, Bool.false_and] at this
   exact this
theorem y1k (q : Int) : ∀ ks : List Int, ks.length = (ks.filter (fun k => decide (k ≠ q))).length + ks.count q
 | [] => rfl
 | k :: r => by
  have ih := y1k q r
  by_cases hk : k = q
  ·subst hk
   rw [List.filter_cons_of_neg (by simp), List.count_cons_self, List.length_cons]
   omega
  ·rw [List.filter_cons_of_pos (by simpa using hk), List.count_cons_of_ne hk, List.length_cons, List.length_cons]
   omega
theorem y0U : ∀ (n : Nat) (ks : List Int), (∀ k ∈ ks, 1 ≤ k ∧ k < (n : Int)) → (∀ k ∈ ks, ks.count k ≤ 1) → ks.length ≤ n - 1
 | 0, ks, h, _ => by
  cases ks with
  | nil => exact Nat.zero_le _
  | cons k r => have := h k (List.mem_cons_self ..); omega
 | 1, ks, h, _ => by
  cases ks with
  | nil => exact Nat.zero_le _
  | cons k r => have := h k (List.mem_cons_self ..); omega
 | n + 2, ks, h, hc => by
  have ih := y0U (n + 1) (ks.filter (fun k => decide (k ≠ ((n + 1 : Nat) : Int)))) (fun k hk => by
   obtain ⟨h1, h2⟩ := List.mem_filter.1 hk
   have := h k h1
   simp at h2
   omega) (fun k hk => by
   obtain ⟨h1, h2⟩ := List.mem_filter.1 hk
   have := List.count_filter (l := ks) (p := fun k => decide (k ≠ ((n + 1 : Nat) : Int))) (a := k) h2
   rw [this]
   exact hc k h1)
  have hsum := y1k ((n + 1 : Nat) : Int) ks
  have hle : ks.count ((n + 1 : Nat) : Int) ≤ 1 := by
   by_cases hm : ((n + 1 : Nat) : Int) ∈ ks
   ·exact hc _ hm
   ·rw [List.count_eq_zero.2 hm]; omega
  omega
theorem x7v (hv : Rows y7w l) (h1 : 1 ≤ l.length) (h2 : l.length ≤ 256) : ∀ (r pre : List S58) (s : List Int), l = pre ++ r → (∀ x ∈ pre, y1q x = true) → (∀ (i : Nat) x, pre[i]? = some x → ∀ k ∈ x.f4, (i : Int) < k ∧ k < (l.length : Int)) → Counted l.length s (z1E pre) → (z1E pre).length ≤ 256 * pre.length →
  Evt (fun k => z0j.l0 k (l.length : Int) s (pre.length : Int) l) (z6t l) := by
 intro r
 induction r with
 | nil =>
  intro pre s e hn hu hs hlen
  have hpl : pre.length = l.length := by rw [e]; simp
  have hpe : pre = l := by rw [e]; simp
  subst hpe
  refine Evt.succ (fun k => by rw [z0j.l0]) ?_
  refine Evt.no (by omega) ?_
  have fin : ∀ (d j : Nat), pre.length ≤ j + d → j ≤ pre.length → 1 ≤ j → (∀ i : Nat, 1 ≤ i → i < j → (z1E pre).count (i : Int) = 1) → Evt (fun k => z0j.l2 k (pre.length : Int) s (j : Int)) (z6t pre) := by
   intro d
   induction d with
   | zero =>
    intro j hd hj h1j hc
    rw [(z8N pre).2 ⟨h1, h2, hn, hu, fun i hi1 hi2 => hc i hi1 (by omega)⟩]
    refine Evt.succ (fun k => by rw [z0j.l2]) ?_
    exact Evt.no (by omega) (Evt.const _)
   | succ d ih =>
    intro j hd hj h1j hc
    refine Evt.succ (fun k => by rw [z0j.l2]) ?_
    by_cases hjl : j < pre.length
    ·have hsl := hs.1
     refine Evt.yes (by omega) (Evt.yes (by omega) (Evt.yes (by omega) ?_))
     have hr : rd s (j : Int) = (((z1E pre).count (j : Int) : Nat) : Int) := by
      unfold rd
      rw [List.getD_eq_getElem?_getD, Int.toNat_natCast, hs.2.1 j hjl]
      rfl
     rw [hr]
     by_cases hc1 : (z1E pre).count (j : Int) = 1
     ·refine Evt.yes (by omega) ?_
      rw [z1S (by omega) (by omega)]
      exact ih (j + 1) (by omega) (by omega) (by omega) (fun i hi1 hi2 => by
       by_cases hij : i < j
       ·exact hc i hi1 hij
       ·rw [show i = j from by omega]; exact hc1)
     ·rw [z2v (fun ht => hc1 (ht.once j h1j hjl))]
      exact Evt.no (by omega) (Evt.const _)
    ·rw [(z8N pre).2 ⟨h1, h2, hn, hu, fun i hi1 hi2 => hc i hi1 (by omega)⟩]
     exact Evt.no (by omega) (Evt.const _)
  exact fin pre.length 1 (by omega) h1 (Nat.le_refl 1) (fun i hi1 hi2 => by omega)
 | cons x r ih =>
  intro pre s e hn hu hs hlen
  have hlt : pre.length < l.length := by rw [e]; simp
  have hx : z0g l (pre.length : Int) = x := by rw [e]; exact z8V pre r x
  have hxm : x ∈ l := by rw [e]; simp
  obtain ⟨_, _, hp, hm, hk⟩ := hv.2 x hxm
  have hkl : x.f4.length ≤ 9223372036854775807 := by have := hk.1; unfold maxLen at this; exact this
  have hli : l[pre.length]? = some x := by rw [e]; simp
  have hall : z1E l = z1E pre ++ (x.f4 ++ z1E r) := by
   conv => lhs; rw [e]
   rw [z4h, y1j]
  refine Evt.succ (fun k => by rw [z0j.l0]) ?_
  refine Evt.yes (by omega) (Evt.yes (by omega) (Evt.yes (by omega) ?_))
  rw [hx]
  refine Evt.bind (x7u x) ?_
  have j2t : Evt (fun k => z0j.j2 k (l.length : Int) s (pre.length : Int) true l) false := by
   refine Evt.succ (fun k => by rw [z0j.j2]) ?_
   exact Evt.yes rfl (Evt.const _)
  by_cases hnx : y1q x = true
  ·refine Evt.yes hnx ?_
   by_cases hbig : (x.f4.length : Int) ≥ (l.length : Int)
   ·rw [decide_eq_true hbig, z2v (fun ht => by
     have := y0U l.length x.f4 (fun k hk => by have := ht.up _ x hli k hk; omega) (fun k hk => by
      have hc := ht.nodup k (by rw [hall]; simp [hk])
      rw [hall, List.count_append, List.count_append] at hc
      omega)
     omega)]
    exact j2t
   ·rw [decide_eq_false hbig]
    refine Evt.succ (fun k => by rw [z0j.j2]) ?_
    refine Evt.no (by decide) ?_
    have kids : ∀ (q p : List Int) (s : List Int), x.f4 = p ++ q → (∀ k ∈ p, (pre.length : Int) < k ∧ k < (l.length : Int)) → Counted l.length s (z1E pre ++ p) → Evt (fun k => z0j.l1 k (l.length : Int) s (pre.length : Int) (p.length : Int) l) (z6t l) := by
     intro q
     induction q with
     | nil =>
      intro p s ep hup hsp
      have hpl : p.length = x.f4.length := by rw [ep]; simp
      have hpe : p = x.f4 := by rw [ep]; simp
      refine Evt.succ (fun k => by rw [z0j.l1]) ?_
      rw [hx]
      refine Evt.yes (by omega) (Evt.yes (by omega) (Evt.no (by omega) ?_))
      rw [z1S (by omega) (by omega)]
      have := ih (pre ++ [x]) s (by rw [e]; simp) (fun y hy => ?_) (fun i y hi k hk => ?_) ?_ ?_
      ·rw [List.length_append] at this
       exact this
      ·rcases List.mem_append.1 hy with hy | hy
       ·exact hn y hy
       ·simp only [List.mem_singleton] at hy; rw [hy]; exact hnx
      ·rw [List.getElem?_append] at hi
       split at hi
       ·exact hu i y hi k hk
       ·rename_i hge
        have : i = pre.length := by
         have := (List.getElem?_eq_some_iff.1 hi).1
         simp at this; omega
        subst this
        simp only [Nat.sub_self, List.getElem?_cons_zero, Option.some.injEq] at hi
        subst hi
        exact hup k (by rw [hpe]; exact hk)
      ·rw [z4h, show z1E [x] = x.f4 from by simp [z1E], ← hpe]
       exact hsp
      ·rw [z4h, show z1E [x] = x.f4 from by simp [z1E], List.length_append, List.length_append]
       simp only [List.length_singleton]
       omega
     | cons y q ihq =>
      intro p s ep hup hsp
      have hplt : p.length < x.f4.length := by rw [ep]; simp
      have hy : rd x.f4 (p.length : Int) = y := by rw [ep]; exact x6j p q y
      have hym : y ∈ x.f4 := by rw [ep]; simp
      refine Evt.succ (fun k => by rw [z0j.l1]) ?_
      rw [hx]
      refine Evt.yes (by omega) (Evt.yes (by omega) (Evt.yes (by omega) (Evt.yes (by omega) ?_)))
      rw [hy]
      by_cases hy1 : y ≤ (pre.length : Int)
      ·rw [z2v (fun ht => by have := ht.up _ x hli y hym; omega)]
       exact Evt.yes hy1 (Evt.const _)
      refine Evt.no hy1 ?_
      by_cases hy2 : y ≥ (l.length : Int)
      ·rw [z2v (fun ht => by have := ht.up _ x hli y hym; omega)]
       exact Evt.yes hy2 (Evt.const _)
      have hsl := hsp.1
      refine Evt.no hy2 (Evt.yes (by omega) (Evt.yes (by omega) ?_))
      have hcnt : rd s y = (((z1E pre ++ p).count y : Nat) : Int) := by
       unfold rd
       rw [List.getD_eq_getElem?_getD, hsp.2.1 y.toNat (by omega), Int.toNat_of_nonneg (by omega)]
       rfl
      have hcl : (z1E pre ++ p).count y ≤ (z1E pre ++ p).length := List.count_le_length
      rw [List.length_append] at hcl
      rw [z1S (n := (p.length : Int) + 1) (by omega) (by omega), z1S (n := rd s y + 1) (by omega) (by omega)]
      have := ihq (p ++ [y]) (s.set y.toNat (rd s y + 1)) (by rw [ep]; simp) (fun k hk => ?_) ?_
      ·rw [List.length_append] at this
       exact this
      ·rcases List.mem_append.1 hk with hk | hk
       ·exact hup k hk
       ·simp only [List.mem_singleton] at hk; omega
      ·rw [← List.append_assoc]
       exact hsp.snoc (by omega) (by omega)
    exact kids x.f4 [] s rfl (by simp) (by simpa using hs)
  ·rw [z2v (fun ht => hnx (ht.node x hxm))]
   exact Evt.no hnx j2t
end
theorem x1t (l : List S58) (hv : Rows y7w l) : Evt (fun k => z0h.f k l) (z6t l) := by
 unfold z0h.f
 have j0 : ∀ b : Bool, (b = true → z6t l = false) → (b = false → 1 ≤ l.length ∧ l.length ≤ 256) → Evt (fun k => z0h.j0 k (l.length : Int) b l) (z6t l) := fun b hb1 hb2 => by
  refine Evt.succ (fun k => by rw [z0h.j0]) ?_
  cases b with
  | true => rw [hb1 rfl]; exact Evt.yes rfl (Evt.const _)
  | false =>
   obtain ⟨h1, h2⟩ := hb2 rfl
   refine Evt.no (by decide) (Evt.yes (by omega) (Evt.yes (by omega) ?_))
   refine x6k hv h1 h2 l [] _ rfl (by simp) (by simp) ⟨by simp, fun j hj => ?_, by simp [z1E], by simp [z1E]⟩
   rw [List.getElem?_replicate, if_pos (by simpa using hj)]
   simp [z1E]
 by_cases h1 : (l.length : Int) < 1
 ·exact Evt.yes h1 (j0 true (fun _ => z2v (fun ht => by have := ht.pos; omega)) (by simp))
 ·refine Evt.no h1 (j0 _ (fun hb => z2v (fun ht => ?_)) (fun hb => ?_))
  ·have := ht.len
   simp at hb; omega
  ·simp at hb; omega
theorem x1u (l : List S58) (hv : Rows y7w l) : Evt (fun k => z0j.f k l) (z6t l) := by
 unfold z0j.f
 have j0 : ∀ b : Bool, (b = true → z6t l = false) → (b = false → 1 ≤ l.length ∧ l.length ≤ 256) → Evt (fun k => z0j.j0 k (l.length : Int) b l) (z6t l) := fun b hb1 hb2 => by
  refine Evt.succ (fun k => by rw [z0j.j0]) ?_
  cases b with
  | true => rw [hb1 rfl]; exact Evt.yes rfl (Evt.const _)
  | false =>
   obtain ⟨h1, h2⟩ := hb2 rfl
   refine Evt.no (by decide) (Evt.yes (by omega) (Evt.yes (by omega) ?_))
   refine x7v hv h1 h2 l [] _ rfl (by simp) (by simp) ⟨by simp, fun j hj => ?_, by simp [z1E]⟩ (by simp [z1E])
   rw [List.getElem?_replicate, if_pos (by simpa using hj)]
   simp [z1E]
 by_cases h1 : (l.length : Int) < 1
 ·exact Evt.yes h1 (j0 true (fun _ => z2v (fun ht => by have := ht.pos; omega)) (by simp))
 ·refine Evt.no h1 (j0 _ (fun hb => z2v (fun ht => ?_)) (fun hb => ?_))
  ·have := ht.len
   simp at hb; omega
  ·simp at hb; omega
end Go.Proofs.YtplkoabikliagaaGreatDoor.K
namespace Go.Proofs.YtplkoabikliagaaGreatDoor.K
open Go.RowKit Go.Proofs.YtplkoabikliagaaGreatDoorW.PrintWords Go.Proofs.YtplkoabikliagaaGreatDoorW.PrintLast Go.Proofs.YtplkoabikliagaaGreatDoorW.PrintMore
open Go.Proofs.YtplkoabikliagaaGreatDoor.L
def y1w (ls : List z1J) (r : Int) : Bool := ls.any fun x => decide (x.f0 = r)
theorem y7C {ls : List z1J} {r : Int} : ls.find? (fun x => decide (x.f0 = r)) = none ↔ y1w ls r = false := by
 unfold y1w
 rw [List.find?_eq_none, List.any_eq_false]
theorem y7D (fs : List ByteArray) (ls : List z1J) (h : z2M ls) (ha : z3A fs ls = true) (r : Int) : ∃ a b c, z3j.f fs ls r = some (a, b, c, if y1w ls r = true then 0 else 5) := by
 unfold z3j.f
 rw [z4t fs ls h, ha]
 simp only [if_true, Option.bind_some]
 cases hf : ls.find? (fun x => decide (x.f0 = r)) with
 | none =>
  rw [y7C.1 hf]
  exact ⟨_, _, _, rfl⟩
 | some x =>
  have : y1w ls r = true := by
   have hne : ¬ y1w ls r = false := fun e => by rw [y7C.2 e] at hf; cases hf
   simpa using hne
  rw [this]
  exact ⟨_, _, _, rfl⟩
theorem y0j {fs : List ByteArray} {ls : List z1J} (ha : z3A fs ls = true) : fs.length ≤ 24 ∧ 1 ≤ ls.length ∧ ls.length ≤ 128 := by
 unfold z3A at ha
 simp only [Bool.and_eq_true, decide_eq_true_eq] at ha
 exact ⟨ha.1, ha.2.1, ha.2.2.1⟩
theorem y4K (fs : List ByteArray) (ls : List z1J) (h : z2M ls) (ha : z3A fs ls = true) (p m : Int) (hp : U32 p) (hm : U32 m) : ∃ s, z2J.f fs ls p m = some (s, if y6D fs.length p m = true then 0 else 20) := by
 unfold z2J.f
 rw [z4t fs ls h, ha]
 simp only [if_true, Option.bind_some]
 rw [y4J fs ls p m hp hm (y0j ha).1]
 simp only [Option.bind_some]
 cases y6D fs.length p m with
 | false => exact ⟨_, rfl⟩
 | true => exact ⟨_, rfl⟩
theorem x1v (fs : List ByteArray) (ls : List z1J) (h : z2M ls) (ha : z3A fs ls = true) (r : Int) : z3L.f fs ls r = some (y1w ls r) := by
 unfold z3L.f
 obtain ⟨a, b, c, e⟩ := y7D fs ls h ha r
 rw [e, Option.bind_some]
 cases y1w ls r <;> rfl
theorem x6l (fs : List ByteArray) (ls : List z1J) (h : z2M ls) (ha : z3A fs ls = true) (p m : Int) (hp : U32 p) (hm : U32 m) : z4X.f fs ls p m = some (y6D fs.length p m) := by
 unfold z4X.f
 obtain ⟨s, e⟩ := y4K fs ls h ha p m hp hm
 rw [e, Option.bind_some]
 cases y6D fs.length p m <;> rfl
theorem y7E (fs : List ByteArray) (ls : List z1J) (hl : ls.length ≤ 128) (r : Int) : ∃ i : Int, Evt (fun k => z0G.f k fs ls r) i ∧ (y1w ls r = true → 0 ≤ i) ∧ (y1w ls r = false → i = -1) := by
 unfold z0G.f
 have loop : ∀ (t pre : List z1J), ls = pre ++ t → ∃ i : Int, Evt (fun k => z0G.l0 k r (pre.length : Int) fs ls) i ∧ (y1w t r = true → 0 ≤ i) ∧ (y1w t r = false → i = -1) := by
  intro t
  induction t with
  | nil =>
   intro pre e
   have : pre.length = ls.length := by rw [e]; simp
   refine ⟨-1, ?_, fun h => by simp [y1w] at h, fun _ => rfl⟩
   refine Evt.succ (fun k => by rw [z0G.l0]) ?_
   exact Evt.no (by omega) (Evt.const _)
  | cons x t ih =>
   intro pre e
   have hlt : pre.length < ls.length := by rw [e]; simp
   have hx : z0R ls (pre.length : Int) = x := by rw [e]; exact z9N pre t x
   obtain ⟨i, h1, h2, h3⟩ := ih (pre ++ [x]) (by rw [e]; simp)
   rw [List.length_append] at h1
   by_cases h : x.f0 = r
   ·refine ⟨(pre.length : Int), ?_, fun _ => by omega, fun hf => by simp [y1w, h] at hf⟩
    refine Evt.succ (fun k => by rw [z0G.l0]) ?_
    rw [hx]
    exact Evt.yes (by omega) (Evt.yes (by omega) (Evt.yes h (Evt.const _)))
   ·have e2 : y1w (x :: t) r = y1w t r := by simp [y1w, h]
    rw [e2]
    refine ⟨i, ?_, h2, h3⟩
    refine Evt.succ (fun k => by rw [z0G.l0]) ?_
    rw [hx, z1S (by omega) (by omega)]
    exact Evt.yes (by omega) (Evt.yes (by omega) (Evt.no h h1))
 exact loop ls [] rfl
def z5M (fs : List ByteArray) (ls : List z1J) (x : S58) : Bool := (!decide (x.f0 = 2) || y1w ls x.f1) && (!decide (x.f0 = 3) || y6D fs.length x.f2 x.f3)
noncomputable def y0V (fs : List ByteArray) (ls : List z1J) (l : List S58) : Bool := z6t l && l.all (z5M fs ls)
theorem y4L (fs : List ByteArray) (ls : List z1J) (h : z2M ls) (ha : z3A fs ls = true) (l : List S58) (hv : Rows y7w l) : Evt (fun k => z0P.f k fs ls l) (if y0V fs ls l = true then 0 else 40) := by
 unfold z0P.f y0V
 rw [z4t fs ls h, ha]
 simp only [if_true, Option.bind_some]
 refine Evt.bind (x1t l hv) ?_
 have hl := hv.1
 unfold maxLen at hl
 have loop : ∀ (r pre : List S58), l = pre ++ r → Evt (fun k => z0P.l0 k l (l.length : Int) (pre.length : Int) fs ls) (if r.all (z5M fs ls) = true then 0 else 40) := by
  intro r
  induction r with
  | nil =>
   intro pre e
   have : pre.length = l.length := by rw [e]; simp
   refine Evt.succ (fun k => by rw [z0P.l0]) ?_
   exact Evt.no (by omega) (Evt.const _)
  | cons x r ih =>
   intro pre e
   have hlt : pre.length < l.length := by rw [e]; simp
   have hx : z0g l (pre.length : Int) = x := by rw [e]; exact z8V pre r x
   have hxm : x ∈ l := by rw [e]; simp
   obtain ⟨_, _, hp, hm, _⟩ := hv.2 x hxm
   have ih' := ih (pre ++ [x]) (by rw [e]; simp)
   rw [List.length_append] at ih'
   refine Evt.succ (fun k => by rw [z0P.l0]) ?_
   refine Evt.yes (by omega) (Evt.yes (by omega) (Evt.yes (by omega) ?_))
   rw [hx, z1S (by omega) (by omega), List.all_cons]
   by_cases h2 : x.f0 = 2
   ·have e1 : z5M fs ls x = y1w ls x.f1 := by simp [z5M, h2]
    obtain ⟨a, b, c, eo⟩ := y7D fs ls h ha x.f1
    refine Evt.yes h2 (Evt.bind (Evt.y4p eo) ?_)
    rw [e1]
    cases y1w ls x.f1 with
    | false => exact Evt.no (by simp) (Evt.const _)
    | true => exact Evt.yes rfl (by simpa using ih')
   ·refine Evt.no h2 ?_
    by_cases h3 : x.f0 = 3
    ·have e1 : z5M fs ls x = y6D fs.length x.f2 x.f3 := by simp [z5M, h3]
     obtain ⟨s, et⟩ := y4K fs ls h ha x.f2 x.f3 hp hm
     refine Evt.yes h3 (Evt.bind (Evt.y4p et) ?_)
     rw [e1]
     cases y6D fs.length x.f2 x.f3 with
     | false => exact Evt.no (by simp) (Evt.const _)
     | true => exact Evt.yes rfl (by simpa using ih')
    ·have e1 : z5M fs ls x = true := by simp [z5M, h2, h3]
     rw [e1, Bool.true_and]
     exact Evt.no h3 ih'
 cases z6t l with
 | false => exact Evt.no (by decide) (Evt.const _)
 | true =>
  rw [Bool.true_and]
  exact Evt.yes rfl (loop l [] rfl)
theorem x0J (fs : List ByteArray) (ls : List z1J) (ha : z3A fs ls = true) (l : List S58) (hv : Rows y7w l) : Evt (fun k => z0y.f k fs ls l) (y0V fs ls l) := by
 obtain ⟨hn, _, hls⟩ := y0j ha
 unfold z0y.f y0V
 refine Evt.bind (x1u l hv) ?_
 have hl := hv.1
 unfold maxLen at hl
 have loop : ∀ (r pre : List S58), l = pre ++ r → Evt (fun k => z0y.l0 k (pre.length : Int) fs ls l) (r.all (z5M fs ls)) := by
  intro r
  induction r with
  | nil =>
   intro pre e
   have : pre.length = l.length := by rw [e]; simp
   refine Evt.succ (fun k => by rw [z0y.l0]) ?_
   exact Evt.no (by omega) (Evt.const _)
  | cons x r ih =>
   intro pre e
   have hlt : pre.length < l.length := by rw [e]; simp
   have hx : z0g l (pre.length : Int) = x := by rw [e]; exact z8V pre r x
   have hxm : x ∈ l := by rw [e]; simp
   obtain ⟨_, _, hp, hm, _⟩ := hv.2 x hxm
   have ih' := ih (pre ++ [x]) (by rw [e]; simp)
   rw [List.length_append] at ih'
   refine Evt.succ (fun k => by rw [z0y.l0]) ?_
   refine Evt.yes (by omega) (Evt.yes (by omega) ?_)
   rw [hx, z1S (by omega) (by omega), List.all_cons]
   by_cases h2 : x.f0 = 2
   ·have e1 : z5M fs ls x = y1w ls x.f1 := by simp [z5M, h2]
    obtain ⟨i, hi, hi1, hi2⟩ := y7E fs ls hls x.f1
    refine Evt.yes h2 (Evt.bind hi ?_)
    rw [e1]
    cases hh : y1w ls x.f1 with
    | false => exact Evt.yes (by rw [hi2 hh]; decide) (Evt.const _)
    | true =>
     have := hi1 hh
     refine Evt.no (by omega) (Evt.no (by omega) ?_)
     rw [Bool.true_and]
     exact ih'
   ·refine Evt.no h2 ?_
    by_cases h3 : x.f0 = 3
    ·have e1 : z5M fs ls x = y6D fs.length x.f2 x.f3 := by simp [z5M, h3]
     refine Evt.yes h3 (Evt.bind (Evt.y4p (y1v fs ls _ _ hp hm hn)) ?_)
     rw [e1]
     cases y6D fs.length x.f2 x.f3 with
     | false => exact Evt.no (by decide) (Evt.const _)
     | true => exact Evt.yes rfl (by simpa using ih')
    ·have e1 : z5M fs ls x = true := by simp [z5M, h2, h3]
     rw [e1, Bool.true_and]
     exact Evt.no h3 ih'
 cases z6t l with
 | false => exact Evt.no (by decide) (Evt.const _)
 | true =>
  rw [Bool.true_and]
  exact Evt.yes rfl (loop l [] rfl)
def x0K (fs : List ByteArray) (ls : List z1J) (r p m : Int) : Bool := if r = 0 then y6D fs.length p m else y1w ls r && (decide (p = 0) && decide (m = 0))
theorem y4M (fs : List ByteArray) (ls : List z1J) (h : z2M ls) (ha : z3A fs ls = true) (r p m : Int) (hp : U32 p) (hm : U32 m) : z2B.f fs ls r p m = some (x0K fs ls r p m) := by
 unfold z2B.f x0K
 by_cases hr : r = 0
 ·rw [if_pos hr, if_pos hr, x6l fs ls h ha p m hp hm]; rfl
 ·rw [if_neg hr, if_neg hr, x1v fs ls h ha, Option.bind_some]
  cases y1w ls r with
  | false => rfl
  | true =>
   rw [if_pos rfl, Bool.true_and]
   exact z5r (by rw [beq_iff_eq, x0c hp hm]; simp)
theorem x0L (fs : List ByteArray) (ls : List z1J) (ha : z3A fs ls = true) (r p m : Int) (hp : U32 p) (hm : U32 m) : Evt (fun k => z1m.f k fs ls r p m) (x0K fs ls r p m) := by
 obtain ⟨hn, _, hls⟩ := y0j ha
 unfold z1m.f x0K
 by_cases hr : r = 0
 ·rw [if_pos hr]
  exact Evt.yes hr (Evt.y4p (by rw [y1v fs ls p m hp hm hn]; rfl))
 ·rw [if_neg hr]
  obtain ⟨i, hi, hi1, hi2⟩ := y7E fs ls hls r
  refine Evt.no hr (Evt.bind hi ?_)
  cases hh : y1w ls r with
  | false => exact Evt.no (by rw [hi2 hh]; decide) (Evt.const _)
  | true =>
   refine Evt.yes (hi1 hh) ?_
   rw [Bool.true_and]
   by_cases h0 : p = 0
   ·rw [decide_eq_true h0, Bool.true_and]
    exact Evt.yes h0 (Evt.const _)
   ·rw [decide_eq_false h0, Bool.false_and]
    exact Evt.no h0 (Evt.const _)
def y0W (fs : List ByteArray) (ls : List z1J) (n : Int) (x : S56) : Bool := if x.f0 = 0 then decide (0 ≤ x.f1) && (decide (x.f1 < n) && y6D fs.length x.f2 x.f3) else x0K fs ls x.f0 x.f2 x.f3 && decide (x.f1 = 0)
theorem x6m (fs : List ByteArray) (ls : List z1J) (h : z2M ls) (ha : z3A fs ls = true) (n : Int) (x : S56) (hp : U32 x.f2) (hm : U32 x.f3) : z5w.f fs ls x.f0 x.f1 x.f2 x.f3 n = some (y0W fs ls n x) := by
 unfold z5w.f y0W
 rw [y4M fs ls h ha _ _ _ hp hm]
 by_cases h0 : x.f0 = 0
 ·rw [if_pos h0, if_pos h0]
  by_cases h1 : x.f1 < 0
  ·rw [if_pos h1, decide_eq_false (by omega)]; rfl
  ·rw [if_neg h1, decide_eq_true (by omega : 0 ≤ x.f1), Bool.true_and]
   by_cases h2 : x.f1 ≥ n
   ·rw [if_pos h2, decide_eq_false (by omega)]; rfl
   ·rw [if_neg h2, decide_eq_true (by omega : x.f1 < n), Bool.true_and, Option.bind_some]
    unfold x0K
    rw [if_pos h0]
 ·rw [if_neg h0, if_neg h0]
  by_cases h1 : x.f1 = 0
  ·rw [if_pos h1, decide_eq_true h1, Bool.and_true]; rfl
  ·rw [if_neg h1, decide_eq_false h1, Bool.and_false]
theorem x1w (fs : List ByteArray) (ls : List z1J) (ha : z3A fs ls = true) (n : Int) (x : S56) (hp : U32 x.f2) (hm : U32 x.f3) : Evt (fun k => z1A.f k fs ls x.f0 x.f1 x.f2 x.f3 n) (y0W fs ls n x) := by
 obtain ⟨hn, _, hls⟩ := y0j ha
 unfold z1A.f y0W
 by_cases h0 : x.f0 = 0
 ·rw [if_pos h0]
  refine Evt.yes h0 ?_
  by_cases h1 : x.f1 ≥ 0
  ·rw [decide_eq_true h1, Bool.true_and]
   refine Evt.yes h1 ?_
   by_cases h2 : x.f1 < n
   ·rw [decide_eq_true h2, Bool.true_and]
    exact Evt.yes h2 (Evt.y4p (by rw [y1v fs ls _ _ hp hm hn]; rfl))
   ·rw [decide_eq_false h2, Bool.false_and]
    exact Evt.no h2 (Evt.const _)
  ·rw [decide_eq_false h1, Bool.false_and]
   exact Evt.no h1 (Evt.const _)
 ·rw [if_neg h0]
  refine Evt.no h0 (Evt.bind (x0L fs ls ha _ _ _ hp hm) ?_)
  cases x0K fs ls x.f0 x.f2 x.f3 with
  | false => exact Evt.no (by decide) (Evt.const _)
  | true => exact Evt.yes rfl (Evt.const _)
def z4T (b : UInt8) : Bool := (decide (97 ≤ b.toNat) && decide (b.toNat ≤ 122)) || (decide (48 ≤ b.toNat) && decide (b.toNat ≤ 57)) || decide (b.toNat = 45)
def y3X (s : ByteArray) : Bool := decide (s.size ≤ 32) && s.data.toList.all z4T
theorem x6n (b : UInt8) : (([97, 98, 99, 100, 101, 102, 103, 104, 105, 106, 107, 108, 109, 110, 111, 112, 113, 114, 115, 116, 117, 118, 119, 120, 121, 122, 48, 49, 50, 51, 52, 53, 54, 55, 56, 57, 45] : List UInt8).contains b) = z4T b := by
 have : ∀ n : Fin 256, (([97, 98, 99, 100, 101, 102, 103, 104, 105, 106, 107, 108, 109, 110, 111, 112, 113, 114, 115, 116, 117, 118, 119, 120, 121, 122, 48, 49, 50, 51, 52, 53, 54, 55, 56, 57, 45] : List UInt8).contains (UInt8.ofNat n.val)) = z4T (UInt8.ofNat n.val) := by decide +kernel
 have hb := this ⟨b.toNat, b.toNat_lt⟩
 simpa using hb
theorem y7F (s : ByteArray) : z2S.f s = some (y3X s) := by
 unfold z2S.f y3X
 by_cases h2 : (s.size : Int) ≤ 32
 ·rw [if_pos h2]
  unfold z2I.f
  rw [if_pos ⟨by omega, by decide, by decide⟩]
  simp only [Option.bind_some, Option.some.injEq]
  rw [decide_eq_true (by omega : s.size ≤ 32), Bool.true_and, ByteArray.toList_eq]
  show (Lib.trimS s.data.toList _ == []) = _
  rw [Bool.eq_iff_iff, beq_iff_eq, y7z, List.all_eq_true, List.all_eq_true]
  constructor
  ·intro h b hb; rw [← x6n]; exact h b hb
  ·intro h b hb
   have := h b hb
   rw [← x6n] at this
   exact this
 ·rw [if_neg h2, decide_eq_false (by omega : ¬ s.size ≤ 32)]
  simp
theorem x6o (b : UInt8) : z2E.f (b.toNat : Int) = some (z4T b) := by
 unfold z2E.f
 have hb := b.toNat_lt
 repeat' split
 all_goals exact z5r (by unfold z4T; simp only [Bool.or_eq_true, Bool.and_eq_true, decide_eq_true_eq, beq_iff_eq, true_iff]; omega)
theorem x0d (s : ByteArray) (hs : s.size ≤ maxLen) : Evt (fun k => z0F.f k s) (y3X s) := by
 unfold maxLen at hs
 have hsz : s.size = s.data.toList.length := by simp
 have loop : ∀ (r pre : List UInt8), s.data.toList = pre ++ r → Evt (fun k => z0F.l0 k s (pre.length : Int)) (r.all z4T && decide (s.size ≤ 32)) := by
  intro r
  induction r with
  | nil =>
   intro pre e
   have : pre.length = s.size := by rw [hsz, e]; simp
   refine Evt.succ (fun k => by rw [z0F.l0]) ?_
   refine Evt.no (by omega) ?_
   have e2 : decide ((s.size : Int) ≤ 32) = decide (s.size ≤ 32) := by
    by_cases h : s.size ≤ 32
    ·rw [decide_eq_true h, decide_eq_true (by omega)]
    ·rw [decide_eq_false h, decide_eq_false (by omega)]
   rw [e2]
   exact Evt.const _
  | cons x r ih =>
   intro pre e
   have hlt : pre.length < s.size := by rw [hsz, e]; simp
   have hx : bt s (pre.length : Int) = (x.toNat : Int) := by
    rw [x6i s _ hlt]
    congr 2
    simp [e]
   refine Evt.succ (fun k => by rw [z0F.l0]) ?_
   refine Evt.yes (by omega) (Evt.yes (by omega) ?_)
   rw [hx, z1S (by omega) (by omega), x6o, List.all_cons]
   simp only [Option.bind_some]
   have ih' := ih (pre ++ [x]) (by rw [e]; simp)
   rw [List.length_append] at ih'
   cases z4T x with
   | false => exact Evt.no (by decide) (Evt.const _)
   | true => exact Evt.yes rfl (by simpa using ih')
 unfold z0F.f y3X
 rw [Bool.and_comm]
 exact loop s.data.toList [] rfl
noncomputable def z9O (fs : List ByteArray) (ls : List z1J) (x : S51) : Bool :=
 y3X x.f0 && (decide (1 ≤ x.f5 ∧ x.f5 ≤ 3 ∧ x.f1.length ≤ 8 ∧ x.f2.length ≤ 8 ∧ 1 ≤ x.f1.length + x.f2.length) && (x.f1.all (fun s => x0K fs ls s.f0 s.f1 s.f2) && (x.f2.all (y0W fs ls (x.f1.length : Int)) && (y0V fs ls x.f3.f0 && y0V fs ls x.f4.f0))))
theorem y4N (pre r : List S54) (x : S54) : z1L (pre ++ x :: r) (pre.length : Int) = x := by
 simp [z1L, List.getD_eq_getElem?_getD]
theorem y4O (pre r : List S56) (x : S56) : z1y (pre ++ x :: r) (pre.length : Int) = x := by
 simp [z1y, List.getD_eq_getElem?_getD]
theorem y4P (pre r : List S51) (x : S51) : z0K (pre ++ x :: r) (pre.length : Int) = x := by
 simp [z0K, List.getD_eq_getElem?_getD]
theorem z6u (pre r : List S81) (x : S81) : z0s (pre ++ x :: r) (pre.length : Int) = x := by
 simp [z0s, List.getD_eq_getElem?_getD]
theorem x0e (fs : List ByteArray) (ls : List z1J) (h : z2M ls) (ha : z3A fs ls = true) (x : S51) (hx : x1p x) : Evt (fun k => z0z.f k fs ls x.f0 x.f1 x.f2 x.f3.f0 x.f4.f0 x.f5 x.f6) (if z9O fs ls x = true then 0 else 70) := by
 obtain ⟨_, h1, h2, h3, h4, _, _⟩ := hx
 have h1' : ∀ s ∈ x.f1, x7q s := h1.2
 have h2' : ∀ s ∈ x.f2, x7r s := h2.2
 have hl1 : x.f1.length ≤ maxLen := h1.1
 have hl2 : x.f2.length ≤ maxLen := h2.1
 unfold maxLen at hl1 hl2
 have pats : Evt (fun k => (z0P.f k fs ls x.f3.f0).bind fun t160 => (if t160 = 0 then ((z0P.f k fs ls x.f4.f0).bind fun t161 => (if t161 = 0 then (some 0) else (some 70))) else (some 70))) (if (y0V fs ls x.f3.f0 && y0V fs ls x.f4.f0) = true then (0 : Int) else 70) := by
  refine Evt.bind (y4L fs ls h ha _ h3) ?_
  cases y0V fs ls x.f3.f0 with
  | false => exact Evt.no (by decide) (Evt.const _)
  | true =>
   refine Evt.yes rfl (Evt.bind (y4L fs ls h ha _ h4) ?_)
   cases y0V fs ls x.f4.f0 with
   | false => exact Evt.no (by decide) (Evt.const _)
   | true => exact Evt.yes rfl (Evt.const _)
 have swaps : ∀ (r pre : List S56), x.f2 = pre ++ r → Evt (fun k => z0z.l1 k x.f2 (x.f2.length : Int) (pre.length : Int) fs ls x.f0 x.f1 x.f2 x.f3.f0 x.f4.f0 x.f5 x.f6) (if (r.all (y0W fs ls (x.f1.length : Int)) && (y0V fs ls x.f3.f0 && y0V fs ls x.f4.f0)) = true then 0 else 70) := by
  intro r
  induction r with
  | nil =>
   intro pre e
   have : pre.length = x.f2.length := by rw [e]; simp
   refine Evt.succ (fun k => by rw [z0z.l1]) ?_
   exact Evt.no (by omega) (by simpa using pats)
  | cons y r ih =>
   intro pre e
   have hlt : pre.length < x.f2.length := by rw [e]; simp
   have hy : z1y x.f2 (pre.length : Int) = y := by rw [e]; exact y4O pre r y
   obtain ⟨_, _, hp, hm⟩ := h2' y (by rw [e]; simp)
   have ih' := ih (pre ++ [y]) (by rw [e]; simp)
   rw [List.length_append] at ih'
   refine Evt.succ (fun k => by rw [z0z.l1]) ?_
   refine Evt.yes (by omega) (Evt.yes (by omega) (Evt.yes (by omega) ?_))
   rw [hy, z1S (by omega) (by omega), List.all_cons]
   refine Evt.bind (Evt.y4p (x6m fs ls h ha _ y hp hm)) ?_
   cases y0W fs ls (x.f1.length : Int) y with
   | false => exact Evt.no (by decide) (Evt.const _)
   | true => exact Evt.yes rfl (by simpa using ih')
 have slots : ∀ (r pre : List S54), x.f1 = pre ++ r → Evt (fun k => z0z.l0 k x.f1 (x.f1.length : Int) (pre.length : Int) fs ls x.f0 x.f1 x.f2 x.f3.f0 x.f4.f0 x.f5 x.f6) (if (r.all (fun s => x0K fs ls s.f0 s.f1 s.f2) && (x.f2.all (y0W fs ls (x.f1.length : Int)) && (y0V fs ls x.f3.f0 && y0V fs ls x.f4.f0))) = true then 0 else 70) := by
  intro r
  induction r with
  | nil =>
   intro pre e
   have : pre.length = x.f1.length := by rw [e]; simp
   refine Evt.succ (fun k => by rw [z0z.l0]) ?_
   exact Evt.no (by omega) (by simpa using swaps x.f2 [] rfl)
  | cons y r ih =>
   intro pre e
   have hlt : pre.length < x.f1.length := by rw [e]; simp
   have hy : z1L x.f1 (pre.length : Int) = y := by rw [e]; exact y4N pre r y
   obtain ⟨_, hp, hm⟩ := h1' y (by rw [e]; simp)
   have ih' := ih (pre ++ [y]) (by rw [e]; simp)
   rw [List.length_append] at ih'
   refine Evt.succ (fun k => by rw [z0z.l0]) ?_
   refine Evt.yes (by omega) (Evt.yes (by omega) (Evt.yes (by omega) ?_))
   rw [hy, z1S (by omega) (by omega), List.all_cons]
   refine Evt.bind (Evt.y4p (y4M fs ls h ha _ _ _ hp hm)) ?_
   cases x0K fs ls y.f0 y.f1 y.f2 with
   | false => exact Evt.no (by decide) (Evt.const _)
   | true => exact Evt.yes rfl (by simpa using ih')
 obtain ⟨rest, hrest⟩ : ∃ b, b = (x.f1.all (fun s => x0K fs ls s.f0 s.f1 s.f2) && (x.f2.all (y0W fs ls (x.f1.length : Int)) && (y0V fs ls x.f3.f0 && y0V fs ls x.f4.f0))) := ⟨_, rfl⟩
 have hs := slots x.f1 [] rfl
 rw [← hrest] at hs
 have j0 : ∀ b : Bool, Evt (fun k => z0z.j0 k b fs ls x.f0 x.f1 x.f2 x.f3.f0 x.f4.f0 x.f5 x.f6) (if (!b && rest) = true then 0 else 70) := fun b => by
  refine Evt.succ (fun k => by rw [z0z.j0]) ?_
  cases b with
  | true => exact Evt.yes rfl (Evt.const _)
  | false => exact Evt.no (by decide) (by simpa using hs)
 unfold z0z.f z9O
 rw [z4t fs ls h, ha, ← hrest, y7F]
 simp only [if_true, Option.bind_some]
 cases y3X x.f0 with
 | false => exact Evt.no (by decide) (by simpa using j0 true)
 | true =>
  refine Evt.yes rfl ?_
  rw [Bool.true_and]
  have no : ¬ (1 ≤ x.f5 ∧ x.f5 ≤ 3 ∧ x.f1.length ≤ 8 ∧ x.f2.length ≤ 8 ∧ 1 ≤ x.f1.length + x.f2.length) → Evt (fun k => z0z.j0 k true fs ls x.f0 x.f1 x.f2 x.f3.f0 x.f4.f0 x.f5 x.f6) (if (decide (1 ≤ x.f5 ∧ x.f5 ≤ 3 ∧ x.f1.length ≤ 8 ∧ x.f2.length ≤ 8 ∧ 1 ≤ x.f1.length + x.f2.length) && rest) = true then 0 else 70) := fun hn => by
   rw [decide_eq_false hn, Bool.false_and]
   simpa using j0 true
  by_cases c1 : x.f5 < 1
  ·exact Evt.yes c1 (no (by omega))
  refine Evt.no c1 ?_
  by_cases c2 : x.f5 > 3
  ·exact Evt.yes c2 (no (by omega))
  refine Evt.no c2 ?_
  by_cases c3 : (x.f1.length : Int) > 8
  ·exact Evt.yes c3 (no (by omega))
  refine Evt.no c3 ?_
  by_cases c4 : (x.f2.length : Int) > 8
  ·exact Evt.yes c4 (no (by omega))
  refine Evt.no c4 ?_
  rw [z1S (by omega) (by omega)]
  have := j0 (((x.f1.length : Int) + (x.f2.length : Int)) == 0)
  have e : (!(((x.f1.length : Int) + (x.f2.length : Int)) == 0)) = decide (1 ≤ x.f5 ∧ x.f5 ≤ 3 ∧ x.f1.length ≤ 8 ∧ x.f2.length ≤ 8 ∧ 1 ≤ x.f1.length + x.f2.length) := by
   by_cases hz : x.f1.length + x.f2.length = 0
   ·rw [decide_eq_false (by omega)]
    have : ((x.f1.length : Int) + (x.f2.length : Int)) = 0 := by omega
    rw [this]; rfl
   ·rw [decide_eq_true (by omega)]
    have : ((x.f1.length : Int) + (x.f2.length : Int)) ≠ 0 := by omega
    simpa using this
  rw [e] at this
  exact this
theorem x6p (fs : List ByteArray) (ls : List z1J) (ha : z3A fs ls = true) (x : S51) (hx : x1p x) : Evt (fun k => z0i.f k fs ls x.f0 x.f1 x.f2 x.f3.f0 x.f4.f0 x.f5 x.f6) (z9O fs ls x) := by
 obtain ⟨h0, h1, h2, h3, h4, _, _⟩ := hx
 have h1' : ∀ s ∈ x.f1, x7q s := h1.2
 have h2' : ∀ s ∈ x.f2, x7r s := h2.2
 have hl1 : x.f1.length ≤ maxLen := h1.1
 have hl2 : x.f2.length ≤ maxLen := h2.1
 unfold maxLen at hl1 hl2
 have pats : Evt (fun k => (z0y.f k fs ls x.f3.f0).bind fun t270 => (if t270 = true then ((z0y.f k fs ls x.f4.f0).bind fun t271 => (some t271)) else (some false))) (y0V fs ls x.f3.f0 && y0V fs ls x.f4.f0) := by
  refine Evt.bind (x0J fs ls ha _ h3) ?_
  cases y0V fs ls x.f3.f0 with
  | false => exact Evt.no (by decide) (Evt.const _)
  | true => exact Evt.yes rfl (Evt.bind (x0J fs ls ha _ h4) (Evt.const _))
 have swaps : ∀ (r pre : List S56), x.f2 = pre ++ r → Evt (fun k => z0i.l1 k (pre.length : Int) fs ls x.f0 x.f1 x.f2 x.f3.f0 x.f4.f0 x.f5 x.f6) (r.all (y0W fs ls (x.f1.length : Int)) && (y0V fs ls x.f3.f0 && y0V fs ls x.f4.f0)) := by
  intro r
  induction r with
  | nil =>
   intro pre e
   have : pre.length = x.f2.length := by rw [e]; simp
   refine Evt.succ (fun k => by rw [z0i.l1]) ?_
   exact Evt.no (by omega) (by simpa using pats)
  | cons y r ih =>
   intro pre e
   have hlt : pre.length < x.f2.length := by rw [e]; simp
   have hy : z1y x.f2 (pre.length : Int) = y := by rw [e]; exact y4O pre r y
   obtain ⟨_, _, hp, hm⟩ := h2' y (by rw [e]; simp)
   have ih' := ih (pre ++ [y]) (by rw [e]; simp)
   rw [List.length_append] at ih'
   refine Evt.succ (fun k => by rw [z0i.l1]) ?_
   refine Evt.yes (by omega) (Evt.yes (by omega) ?_)
   rw [hy, z1S (by omega) (by omega), List.all_cons]
   refine Evt.bind (x1w fs ls ha _ y hp hm) ?_
   cases y0W fs ls (x.f1.length : Int) y with
   | false => exact Evt.no (by decide) (Evt.const _)
   | true => exact Evt.yes rfl (by simpa using ih')
 have slots : ∀ (r pre : List S54), x.f1 = pre ++ r → Evt (fun k => z0i.l0 k (pre.length : Int) fs ls x.f0 x.f1 x.f2 x.f3.f0 x.f4.f0 x.f5 x.f6) (r.all (fun s => x0K fs ls s.f0 s.f1 s.f2) && (x.f2.all (y0W fs ls (x.f1.length : Int)) && (y0V fs ls x.f3.f0 && y0V fs ls x.f4.f0))) := by
  intro r
  induction r with
  | nil =>
   intro pre e
   have : pre.length = x.f1.length := by rw [e]; simp
   refine Evt.succ (fun k => by rw [z0i.l0]) ?_
   exact Evt.no (by omega) (by simpa using swaps x.f2 [] rfl)
  | cons y r ih =>
   intro pre e
   have hlt : pre.length < x.f1.length := by rw [e]; simp
   have hy : z1L x.f1 (pre.length : Int) = y := by rw [e]; exact y4N pre r y
   obtain ⟨_, hp, hm⟩ := h1' y (by rw [e]; simp)
   have ih' := ih (pre ++ [y]) (by rw [e]; simp)
   rw [List.length_append] at ih'
   refine Evt.succ (fun k => by rw [z0i.l0]) ?_
   refine Evt.yes (by omega) (Evt.yes (by omega) ?_)
   rw [hy, z1S (by omega) (by omega), List.all_cons]
   refine Evt.bind (x0L fs ls ha _ _ _ hp hm) ?_
   cases x0K fs ls y.f0 y.f1 y.f2 with
   | false => exact Evt.no (by decide) (Evt.const _)
   | true => exact Evt.yes rfl (by simpa using ih')
 obtain ⟨rest, hrest⟩ : ∃ b, b = (x.f1.all (fun s => x0K fs ls s.f0 s.f1 s.f2) && (x.f2.all (y0W fs ls (x.f1.length : Int)) && (y0V fs ls x.f3.f0 && y0V fs ls x.f4.f0))) := ⟨_, rfl⟩
 have hs := slots x.f1 [] rfl
 rw [← hrest] at hs
 have j0 : ∀ b : Bool, Evt (fun k => z0i.j0 k b fs ls x.f0 x.f1 x.f2 x.f3.f0 x.f4.f0 x.f5 x.f6) (!b && rest) := fun b => by
  refine Evt.succ (fun k => by rw [z0i.j0]) ?_
  cases b with
  | true => exact Evt.yes rfl (Evt.const _)
  | false => exact Evt.no (by decide) (by simpa using hs)
 unfold z0i.f z9O
 rw [← hrest]
 refine Evt.bind (x0d x.f0 h0) ?_
 cases y3X x.f0 with
 | false => exact Evt.no (by decide) (by simpa using j0 true)
 | true =>
  refine Evt.yes rfl ?_
  rw [Bool.true_and]
  have no : ¬ (1 ≤ x.f5 ∧ x.f5 ≤ 3 ∧ x.f1.length ≤ 8 ∧ x.f2.length ≤ 8 ∧ 1 ≤ x.f1.length + x.f2.length) → Evt (fun k => z0i.j0 k true fs ls x.f0 x.f1 x.f2 x.f3.f0 x.f4.f0 x.f5 x.f6) (decide (1 ≤ x.f5 ∧ x.f5 ≤ 3 ∧ x.f1.length ≤ 8 ∧ x.f2.length ≤ 8 ∧ 1 ≤ x.f1.length + x.f2.length) && rest) := fun hn => by
   rw [decide_eq_false hn, Bool.false_and]
   simpa using j0 true
  by_cases c1 : x.f5 < 1
  ·exact Evt.yes c1 (no (by omega))
  refine Evt.no c1 ?_
  by_cases c2 : x.f5 > 3
  ·exact Evt.yes c2 (no (by omega))
  refine Evt.no c2 ?_
  by_cases c3 : (x.f1.length : Int) > 8
  ·exact Evt.yes c3 (no (by omega))
  refine Evt.no c3 ?_
  by_cases c4 : (x.f2.length : Int) > 8
  ·exact Evt.yes c4 (no (by omega))
  refine Evt.no c4 ?_
  rw [z1S (by omega) (by omega)]
  have := j0 (((x.f1.length : Int) + (x.f2.length : Int)) == 0)
  have e : (!(((x.f1.length : Int) + (x.f2.length : Int)) == 0)) = decide (1 ≤ x.f5 ∧ x.f5 ≤ 3 ∧ x.f1.length ≤ 8 ∧ x.f2.length ≤ 8 ∧ 1 ≤ x.f1.length + x.f2.length) := by
   by_cases hz : x.f1.length + x.f2.length = 0
   ·rw [decide_eq_false (by omega)]
    have : ((x.f1.length : Int) + (x.f2.length : Int)) = 0 := by omega
    rw [this]; rfl
   ·rw [decide_eq_true (by omega)]
    have : ((x.f1.length : Int) + (x.f2.length : Int)) ≠ 0 := by omega
    simpa using this
  rw [e] at this
  exact this
noncomputable def y6w (fs : List ByteArray) (ls : List z1J) (l : List S51) : Int := if l.length ≤ 64 then (if l.all (z9O fs ls) = true then 0 else 70) else 4
theorem x0f (fs : List ByteArray) (ls : List z1J) (h : z2M ls) (ha : z3A fs ls = true) (l : List S51) (hv : Rows x1p l) : Evt (fun k => z1M.f k fs ls l) (y6w fs ls l) := by
 unfold z1M.f y6w
 rw [z4t fs ls h, ha]
 simp only [if_true, Option.bind_some]
 by_cases hl : (l.length : Int) > 64
 ·rw [if_neg (by omega)]
  exact Evt.yes hl (Evt.const _)
 rw [if_pos (by omega)]
 refine Evt.no hl ?_
 have loop : ∀ (r pre : List S51), l = pre ++ r → Evt (fun k => z1M.l0 k l (l.length : Int) (pre.length : Int) fs ls) (if r.all (z9O fs ls) = true then 0 else 70) := by
  intro r
  induction r with
  | nil =>
   intro pre e
   have : pre.length = l.length := by rw [e]; simp
   refine Evt.succ (fun k => by rw [z1M.l0]) ?_
   exact Evt.no (by omega) (Evt.const _)
  | cons x r ih =>
   intro pre e
   have hlt : pre.length < l.length := by rw [e]; simp
   have hx : z0K l (pre.length : Int) = x := by rw [e]; exact y4P pre r x
   have ih' := ih (pre ++ [x]) (by rw [e]; simp)
   rw [List.length_append] at ih'
   refine Evt.succ (fun k => by rw [z1M.l0]) ?_
   refine Evt.yes (by omega) (Evt.yes (by omega) (Evt.yes (by omega) ?_))
   rw [hx, z1S (by omega) (by omega), List.all_cons]
   refine Evt.bind (x0e fs ls h ha x (hv.2 x (by rw [e]; simp))) ?_
   cases z9O fs ls x with
   | false => exact Evt.no (by decide) (Evt.const _)
   | true => exact Evt.yes rfl (by simpa using ih')
 exact loop l [] rfl
theorem x0g (fs : List ByteArray) (ls : List z1J) (h : z2M ls) (ha : z3A fs ls = true) (l : List S51) (hv : Rows x1p l) : Evt (fun k => z0H.f k fs ls l) (y6w fs ls l) := by
 unfold z0H.f y6w
 have hc := y1i fs ls h
 rw [ha, if_pos rfl] at hc
 refine Evt.bind hc (Evt.yes rfl ?_)
 by_cases hl : (l.length : Int) > 64
 ·rw [if_neg (by omega)]
  exact Evt.yes hl (Evt.const _)
 rw [if_pos (by omega)]
 refine Evt.no hl ?_
 have loop : ∀ (r pre : List S51), l = pre ++ r → Evt (fun k => z0H.l0 k l (pre.length : Int) fs ls) (if r.all (z9O fs ls) = true then 0 else 70) := by
  intro r
  induction r with
  | nil =>
   intro pre e
   have : pre.length = l.length := by rw [e]; simp
   refine Evt.succ (fun k => by rw [z0H.l0]) ?_
   exact Evt.no (by omega) (Evt.const _)
  | cons x r ih =>
   intro pre e
   have hlt : pre.length < l.length := by rw [e]; simp
   have hx : z0K l (pre.length : Int) = x := by rw [e]; exact y4P pre r x
   have ih' := ih (pre ++ [x]) (by rw [e]; simp)
   rw [List.length_append] at ih'
   refine Evt.succ (fun k => by rw [z0H.l0]) ?_
   refine Evt.yes (by omega) (Evt.yes (by omega) ?_)
   rw [hx, z1S (by omega) (by omega), List.all_cons]
   refine Evt.bind (v := if z9O fs ls x = true then 0 else 70) ?_ ?_
   ·unfold z1N.f
    refine Evt.bind hc (Evt.yes rfl (Evt.bind (x6p fs ls ha x (hv.2 x (by rw [e]; simp))) ?_))
    cases z9O fs ls x with
    | false => exact Evt.no (by decide) (Evt.const _)
    | true => exact Evt.yes rfl (Evt.const _)
   ·cases z9O fs ls x with
    | false => exact Evt.no (by decide) (Evt.const _)
    | true => exact Evt.yes rfl (by simpa using ih')
 exact loop l [] rfl
def z9P (s : ByteArray) : Bool := decide (1 ≤ s.size) && (decide (s.size ≤ 32) && s.data.toList.all z4T)
theorem x7w (b : UInt8) : z4N b.toNat = !z4T b := by
 unfold z4N z4T
 simp [Bool.not_or]
theorem x6q (s : ByteArray) : ∀ (f pos : Nat), s.size ≤ pos + f → (Lib.idxFuncFrom z4N true s f pos < 0 ↔ ∀ i, pos ≤ i → ∀ h : i < s.size, z4T (s[i]'h) = true)
 | 0, pos, hf => by
  unfold Lib.idxFuncFrom
  exact ⟨fun _ i hi h => by omega, fun _ => by decide⟩
 | f + 1, pos, hf => by
  unfold Lib.idxFuncFrom
  by_cases hp : pos < s.size
  ·rw [if_pos hp]
   by_cases ha : (s[pos]'hp).toNat < 128
   ·rw [decode_ascii s pos hp ha]
    simp only
    rw [x7w]
    cases hs : z4T (s[pos]'hp) with
    | false =>
     simp only [Bool.not_false, if_true]
     refine ⟨fun h => by omega, fun h => ?_⟩
     have := h pos (Nat.le_refl _) hp
     rw [hs] at this; cases this
    | true =>
     simp only [Bool.not_true, Bool.false_eq_true, if_false]
     rw [x6q s f (pos + 1) (by omega)]
     constructor
     ·intro h i hi hl
      rcases Nat.eq_or_lt_of_le hi with rfl | hi
      ·exact hs
      ·exact h i hi hl
     ·intro h i hi hl
      exact h i (by omega) hl
   ·have hd := (decode_high s pos hp (by omega)).1
    have hbad : z4N (Utf8.decode s pos).1 = true := by unfold z4N; simp; omega
    rw [if_pos hbad]
    refine ⟨fun h => by omega, fun h => ?_⟩
    have := h pos (Nat.le_refl _) hp
    unfold z4T at this
    simp only [Bool.or_eq_true, Bool.and_eq_true, decide_eq_true_eq] at this
    omega
  ·rw [if_neg hp]
   exact ⟨fun _ i hi h => by omega, fun _ => by decide⟩
theorem y7G (s : ByteArray) : z1W.f s = some (z9P s) := by
 unfold z1W.f z9P
 rw [ByteArray.toList_eq]
 have hsz : s.size = s.data.toList.length := by simp
 by_cases h0 : s.data.toList = []
 ·rw [if_pos h0]
  have : s.size = 0 := by rw [hsz, h0]; rfl
  simp [this]
 ·have h1 : 1 ≤ s.size := by
   rw [hsz]
   exact Nat.succ_le_of_lt (List.length_pos_iff.2 h0)
  rw [if_neg h0, decide_eq_true h1, Bool.true_and]
  by_cases h2 : (s.size : Int) ≤ 32
  ·rw [if_pos h2, decide_eq_true (by omega : s.size ≤ 32), Bool.true_and]
   refine z5r ?_
   have key := x6q s s.size 0 (by omega)
   simp only [Bool.not_eq_true', decide_eq_false_iff_not, Int.not_le, List.all_eq_true]
   unfold Lib.idxFunc
   rw [key]
   constructor
   ·intro h b hb
    obtain ⟨i, hi, rfl⟩ := List.mem_iff_getElem.1 hb
    exact h i (Nat.zero_le _) (by simpa using hi)
   ·intro h i _ hi
    exact h _ (by
     have : (s[i]'hi) = s.data.toList[i]'(by simpa using hi) := rfl
     rw [this]; exact List.getElem_mem _)
  ·rw [if_neg h2, decide_eq_false (by omega : ¬ s.size ≤ 32), Bool.false_and]
theorem y7H (s : ByteArray) (hs : s.size ≤ maxLen) : Evt (fun k => z0x.f k s) (z9P s) := by
 unfold maxLen at hs
 have hsz : s.size = s.data.toList.length := by simp
 have loop : ∀ (r pre : List UInt8), s.data.toList = pre ++ r → Evt (fun k => z0x.l0 k s (pre.length : Int)) (r.all z4T && (decide (1 ≤ s.size) && decide (s.size ≤ 32))) := by
  intro r
  induction r with
  | nil =>
   intro pre e
   have : pre.length = s.size := by rw [hsz, e]; simp
   refine Evt.succ (fun k => by rw [z0x.l0]) ?_
   refine Evt.no (by omega) ?_
   rw [List.all_nil, Bool.true_and]
   by_cases h1 : (s.size : Int) ≥ 1
   ·refine Evt.yes h1 ?_
    rw [decide_eq_true (by omega : 1 ≤ s.size), Bool.true_and]
    have e2 : decide ((s.size : Int) ≤ 32) = decide (s.size ≤ 32) := by
     by_cases h : s.size ≤ 32
     ·rw [decide_eq_true h, decide_eq_true (by omega)]
     ·rw [decide_eq_false h, decide_eq_false (by omega)]
    rw [e2]
    exact Evt.const _
   ·rw [decide_eq_false (by omega : ¬ 1 ≤ s.size), Bool.false_and]
    exact Evt.no h1 (Evt.const _)
  | cons x r ih =>
   intro pre e
   have hlt : pre.length < s.size := by rw [hsz, e]; simp
   have hx : bt s (pre.length : Int) = (x.toNat : Int) := by
    rw [x6i s _ hlt]
    congr 2
    simp [e]
   have ih' := ih (pre ++ [x]) (by rw [e]; simp)
   rw [List.length_append] at ih'
   refine Evt.succ (fun k => by rw [z0x.l0]) ?_
   refine Evt.yes (by omega) (Evt.yes (by omega) ?_)
   rw [hx, z1S (by omega) (by omega), List.all_cons]
   have yes : z4T x = true → Evt (fun k => z0x.l0 k s ((pre.length : Int) + 1)) (z4T x && r.all z4T && (decide (1 ≤ s.size) && decide (s.size ≤ 32))) := fun h => by
    rw [h, Bool.true_and]; exact ih'
   have no : z4T x = false → Evt (fun _ => some false) (z4T x && r.all z4T && (decide (1 ≤ s.size) && decide (s.size ≤ 32))) := fun h => by
    rw [h, Bool.false_and, Bool.false_and]; exact Evt.const _
   have st : ∀ {p : Prop}, (p → z4T x = true) → p → z4T x = true := fun h => h
   have sT : ((97 ≤ x.toNat ∧ x.toNat ≤ 122) ∨ (48 ≤ x.toNat ∧ x.toNat ≤ 57) ∨ x.toNat = 45) → z4T x = true := fun h => by
    unfold z4T; simp only [Bool.or_eq_true, Bool.and_eq_true, decide_eq_true_eq]; omega
   have sF : ¬ ((97 ≤ x.toNat ∧ x.toNat ≤ 122) ∨ (48 ≤ x.toNat ∧ x.toNat ≤ 57) ∨ x.toNat = 45) → z4T x = false := fun h => by
    have : ¬ z4T x = true := fun e => by
     unfold z4T at e; simp only [Bool.or_eq_true, Bool.and_eq_true, decide_eq_true_eq] at e; omega
    simpa using this
   have tail : ¬ (97 ≤ x.toNat ∧ x.toNat ≤ 122) → Evt (fun k => if (x.toNat : Int) < 48 then (if (x.toNat : Int) = 45 then z0x.l0 k s ((pre.length : Int) + 1) else some false) else if (x.toNat : Int) > 57 then (if (x.toNat : Int) = 45 then z0x.l0 k s ((pre.length : Int) + 1) else some false) else z0x.l0 k s ((pre.length : Int) + 1)) (z4T x && r.all z4T && (decide (1 ≤ s.size) && decide (s.size ≤ 32))) := fun hno => by
    by_cases h1 : (x.toNat : Int) < 48
    ·refine Evt.yes h1 ?_
     by_cases h2 : (x.toNat : Int) = 45
     ·exact Evt.yes h2 (yes (sT (by omega)))
     ·exact Evt.no h2 (no (sF (by omega)))
    ·refine Evt.no h1 ?_
     by_cases h2 : (x.toNat : Int) > 57
     ·refine Evt.yes h2 ?_
      by_cases h3 : (x.toNat : Int) = 45
      ·exact Evt.yes h3 (yes (sT (by omega)))
      ·exact Evt.no h3 (no (sF (by omega)))
     ·exact Evt.no h2 (yes (sT (by omega)))
   by_cases h1 : (x.toNat : Int) < 97
   ·exact Evt.yes h1 (tail (by omega))
   ·refine Evt.no h1 ?_
    by_cases h2 : (x.toNat : Int) > 122
    ·exact Evt.yes h2 (tail (by omega))
    ·exact Evt.no h2 (yes (sT (by omega)))
 unfold z0x.f z9P
 have := loop s.data.toList [] rfl
 rw [Bool.and_comm, Bool.and_assoc] at this
 exact this
def z3U : Nat → List ByteArray → List S81 → Bool
 | _, _, [] => true
 | i, seen, b :: r => z9P b.f0 && (!(decide (0 < i) && decide (b.f1 < 0 ∨ (i : Int) ≤ b.f1)) && (!y1a seen b.f0 && z3U (i + 1) (seen ++ [b.f0]) r))
def y1l (l : List S81) : Bool := match l with
 | [] => false
 | b :: r => decide ((b :: r).length ≤ 32) && (decide (b.f1 = -1) && (decide (b.f2.length = 0) && z3U 0 [] (b :: r)))
theorem y0k : ∀ (l : List S81) (i : Nat) (seen : List ByteArray), z3W i seen l = some (z3U i seen l)
 | [], _, _ => rfl
 | b :: r, i, seen => by
  unfold z3W z3U
  rw [y7G, Option.bind_some]
  cases y1a seen b.f0 with
  | true => rw [if_pos rfl]; simp
  | false =>
   rw [if_neg (by decide)]
   cases z9P b.f0 with
   | false => rfl
   | true =>
    rw [if_pos rfl, Bool.true_and]
    by_cases hc : 0 < i ∧ (b.f1 < 0 ∨ (i : Int) ≤ b.f1)
    ·rw [if_pos hc, decide_eq_true hc.1, decide_eq_true hc.2]; rfl
    ·rw [if_neg hc, y0k r]
     have : (decide (0 < i) && decide (b.f1 < 0 ∨ (i : Int) ≤ b.f1)) = false := by
      rw [Bool.and_eq_false_iff]
      by_cases h0 : 0 < i
      ·right; exact decide_eq_false (fun h => hc ⟨h0, h⟩)
      ·left; exact decide_eq_false h0
     rw [this]; rfl
theorem z8O (l : List S81) : z2h.f l = some (y1l l) := by
 cases l with
 | nil => rfl
 | cons b r =>
  simp only [z2h.f, y1l]
  by_cases h1 : (b :: r).length > 32
  ·rw [if_pos h1, decide_eq_false (by omega)]; rfl
  rw [if_neg h1, decide_eq_true (by omega : (b :: r).length ≤ 32), Bool.true_and]
  by_cases h2 : b.f1 ≠ -1
  ·rw [if_pos h2, decide_eq_false h2]; rfl
  rw [if_neg h2, decide_eq_true (by simpa using h2), Bool.true_and]
  by_cases h3 : b.f2.length > 0
  ·rw [if_pos h3, decide_eq_false (by omega)]; rfl
  rw [if_neg h3, decide_eq_true (by omega : b.f2.length = 0), Bool.true_and]
  exact y0k _ _ _
noncomputable def z3V (fs : List ByteArray) (ls : List z1J) : List S81 → Int
 | [] => 0
 | b :: r => if y6w fs ls b.f2 = 0 then z3V fs ls r else y6w fs ls b.f2
noncomputable def x7x (fs : List ByteArray) (ls : List z1J) (l : List S81) : Int := if z3A fs ls = true then (if y1l l = true then z3V fs ls l else 270) else 7
theorem y7I (fs : List ByteArray) (ls : List z1J) (h : z2M ls) (l : List S81) (hv : Rows y3U l) : Evt (fun k => z0S.f k fs ls l) (x7x fs ls l) := by
 unfold z0S.f x7x
 rw [z4t fs ls h, z8O]
 cases ha : z3A fs ls with
 | false => exact Evt.const _
 | true =>
  simp only [if_true, Option.bind_some]
  cases hs : y1l l with
  | false => exact Evt.no (by decide) (Evt.const _)
  | true =>
   refine Evt.yes rfl ?_
   rw [if_pos rfl]
   have hlen := (z6f (l := l) (by rw [z8O, hs])).len
   have loop : ∀ (r pre : List S81), l = pre ++ r → Evt (fun k => z0S.l0 k l (l.length : Int) (pre.length : Int) fs ls l) (z3V fs ls r) := by
    intro r
    induction r with
    | nil =>
     intro pre e
     have : pre.length = l.length := by rw [e]; simp
     refine Evt.succ (fun k => by rw [z0S.l0]) ?_
     exact Evt.no (by omega) (Evt.const _)
    | cons x r ih =>
     intro pre e
     have hlt : pre.length < l.length := by rw [e]; simp
     have hx : z0s l (pre.length : Int) = x := by rw [e]; exact z6u pre r x
     have ih' := ih (pre ++ [x]) (by rw [e]; simp)
     rw [List.length_append] at ih'
     refine Evt.succ (fun k => by rw [z0S.l0]) ?_
     refine Evt.yes (by omega) (Evt.yes (by omega) (Evt.yes (by omega) ?_))
     rw [hx, z1S (by omega) (by omega)]
     refine Evt.bind (x0f fs ls h ha x.f2 (hv.2 x (by rw [e]; simp)).2.2) ?_
     unfold z3V
     exact Evt.x1s (fun _ => ih') fun _ => Evt.const _
   exact loop l [] rfl
theorem y6x (fs : List ByteArray) (ls : List z1J) (h : z2M ls) (l : List S81) (hv : Rows y3U l) : Evt (fun k => z0d.f k fs ls l) (x7x fs ls l) := by
 unfold z0d.f x7x
 refine Evt.bind (y1i fs ls h) ?_
 cases ha : z3A fs ls with
 | false => exact Evt.no (by decide) (Evt.const _)
 | true =>
  refine Evt.yes rfl ?_
  rw [if_pos rfl]
  have laws : l.length ≤ 32 → Evt (fun k => z0d.l2 k 0 fs ls l) (z3V fs ls l) := by
   intro hlen
   have loop : ∀ (r pre : List S81), l = pre ++ r → Evt (fun k => z0d.l2 k (pre.length : Int) fs ls l) (z3V fs ls r) := by
    intro r
    induction r with
    | nil =>
     intro pre e
     have : pre.length = l.length := by rw [e]; simp
     refine Evt.succ (fun k => by rw [z0d.l2]) ?_
     exact Evt.no (by omega) (Evt.const _)
    | cons x r ih =>
     intro pre e
     have hlt : pre.length < l.length := by rw [e]; simp
     have hx : z0s l (pre.length : Int) = x := by rw [e]; exact z6u pre r x
     have ih' := ih (pre ++ [x]) (by rw [e]; simp)
     rw [List.length_append] at ih'
     refine Evt.succ (fun k => by rw [z0d.l2]) ?_
     refine Evt.yes (by omega) (Evt.yes (by omega) ?_)
     rw [hx, z1S (by omega) (by omega)]
     refine Evt.bind (x0g fs ls h ha x.f2 (hv.2 x (by rw [e]; simp)).2.2) ?_
     unfold z3V
     exact Evt.x1s (fun _ => ih') fun _ => Evt.const _
   exact loop l [] rfl
  have names : l.length ≤ 32 → ∀ (r pre : List S81), l = pre ++ r → Evt (fun k => z0d.l0 k (pre.length : Int) fs ls l) (if z3U pre.length (pre.map (·.f0)) r = true then z3V fs ls l else 270) := by
   intro hlen r
   induction r with
   | nil =>
    intro pre e
    have : pre.length = l.length := by rw [e]; simp
    refine Evt.succ (fun k => by rw [z0d.l0]) ?_
    exact Evt.no (by omega) (by simpa [z3U] using laws hlen)
   | cons x r ih =>
    intro pre e
    have hlt : pre.length < l.length := by rw [e]; simp
    have hx : z0s l (pre.length : Int) = x := by rw [e]; exact z6u pre r x
    have hvx := hv.2 x (by rw [e]; simp)
    have ih' := ih (pre ++ [x]) (by rw [e]; simp)
    rw [List.length_append, List.map_append] at ih'
    have dup : ∀ (p2 p1 : List S81), pre = p1 ++ p2 → Evt (fun k => z0d.l1 k (pre.length : Int) (p1.length : Int) fs ls l x.f0 x.f1 x.f2) (if (!y1a (p2.map (·.f0)) x.f0 && z3U (pre.length + 1) (pre.map (·.f0) ++ [x.f0]) r) = true then z3V fs ls l else 270) := by
     intro p2
     induction p2 with
     | nil =>
      intro p1 e1
      have : p1.length = pre.length := by rw [e1]; simp
      refine Evt.succ (fun k => by rw [z0d.l1]) ?_
      refine Evt.no (by omega) ?_
      rw [z1S (by omega) (by omega)]
      exact ih'
     | cons y p2 ihp =>
      intro p1 e1
      have hlt1 : p1.length < pre.length := by rw [e1]; simp
      have hy : z0s l (p1.length : Int) = y := by rw [e, e1, List.append_assoc]; exact z6u p1 _ y
      have next := ihp (p1 ++ [y]) (by rw [e1]; simp)
      simp only [List.length_append] at next
      refine Evt.succ (fun k => by rw [z0d.l1]) ?_
      refine Evt.yes (by omega) (Evt.yes (by omega) (Evt.yes (by omega) ?_))
      rw [hy, z1S (by omega) (by omega), List.map_cons, y3W, ByteArray.toList_eq, ByteArray.toList_eq]
      by_cases hxy : x.f0 = y.f0
      ·rw [decide_eq_true hxy, Bool.true_or]
       exact Evt.yes (by rw [hxy]) (Evt.const _)
      ·rw [decide_eq_false hxy, Bool.false_or]
       refine Evt.no (fun he => hxy (ByteArray.ext ?_)) next
       have := congrArg List.toArray he
       simpa using this.symm
    have j2 : ∀ b : Bool, Evt (fun k => z0d.j2 k (pre.length : Int) b fs ls l x.f0 x.f1 x.f2) (if (!b && (!y1a (pre.map (·.f0)) x.f0 && z3U (pre.length + 1) (pre.map (·.f0) ++ [x.f0]) r)) = true then z3V fs ls l else 270) := fun b => by
     refine Evt.succ (fun k => by rw [z0d.j2]) ?_
     cases b with
     | true => exact Evt.yes rfl (Evt.const _)
     | false => exact Evt.no (by decide) (by simpa using dup pre [] rfl)
    refine Evt.succ (fun k => by rw [z0d.l0]) ?_
    refine Evt.yes (by omega) (Evt.yes (by omega) ?_)
    rw [hx]
    refine Evt.bind (y7H x.f0 hvx.1) ?_
    unfold z3U
    cases z9P x.f0 with
    | false => exact Evt.no (by decide) (by simpa using j2 true)
    | true =>
     refine Evt.yes rfl ?_
     rw [Bool.true_and]
     by_cases h0 : (pre.length : Int) > 0
     ·refine Evt.yes h0 ?_
      rw [decide_eq_true (by omega : 0 < pre.length), Bool.true_and]
      by_cases h1 : x.f1 < 0
      ·rw [decide_eq_true (Or.inl h1)]
       exact Evt.yes h1 (by simpa using j2 true)
      ·refine Evt.no h1 ?_
       have := j2 (decide (x.f1 ≥ (pre.length : Int)))
       have e2 : decide (x.f1 < 0 ∨ (pre.length : Int) ≤ x.f1) = decide (x.f1 ≥ (pre.length : Int)) := by
        by_cases h2 : x.f1 ≥ (pre.length : Int)
        ·rw [decide_eq_true h2, decide_eq_true (Or.inr h2)]
        ·rw [decide_eq_false h2, decide_eq_false (fun h => h.elim h1 h2)]
       rw [e2]
       exact this
     ·refine Evt.no h0 ?_
      rw [decide_eq_false (by omega : ¬ 0 < pre.length), Bool.false_and]
      exact j2 false
  have j0 : ∀ b : Bool, (b = false → l.length ≤ 32) → Evt (fun k => z0d.j0 k b fs ls l) (if (!b && z3U 0 [] l) = true then z3V fs ls l else 270) := fun b hb => by
   refine Evt.succ (fun k => by rw [z0d.j0]) ?_
   cases b with
   | true => exact Evt.yes rfl (Evt.const _)
   | false => exact Evt.no (by decide) (by simpa using names (hb rfl) l [] rfl)
  cases l with
  | nil => exact Evt.yes (by decide) (by simpa [y1l] using j0 true (by simp))
  | cons b r =>
   refine Evt.no (by simp only [List.length_cons]; omega) ?_
   rw [show y1l (b :: r) = (decide ((b :: r).length ≤ 32) && (decide (b.f1 = -1) && (decide (b.f2.length = 0) && z3U 0 [] (b :: r)))) from rfl]
   by_cases h1 : ((b :: r).length : Int) > 32
   ·rw [decide_eq_false (by omega : ¬ (b :: r).length ≤ 32)]
    exact Evt.yes h1 (by simpa using j0 true (by simp))
   refine Evt.no h1 (Evt.yes (by simp only [List.length_cons]; omega) ?_)
   rw [decide_eq_true (by omega : (b :: r).length ≤ 32), Bool.true_and, show z0s (b :: r) 0 = b from rfl]
   by_cases h2 : b.f1 = -1
   ·refine Evt.yes h2 ?_
    rw [decide_eq_true h2, Bool.true_and]
    have := j0 (decide ((b.f2.length : Int) > 0)) (fun _ => by omega)
    have e2 : (!decide ((b.f2.length : Int) > 0)) = decide (b.f2.length = 0) := by
     by_cases h3 : b.f2.length = 0
     ·rw [decide_eq_true h3, decide_eq_false (by omega)]; rfl
     ·rw [decide_eq_false h3, decide_eq_true (by omega)]; rfl
    rw [e2] at this
    exact this
   ·rw [decide_eq_false h2, Bool.false_and]
    exact Evt.no h2 (by simpa using j0 true (by simp))
abbrev x1x (l : List S81) (t : Int) : Int := (z0s l t).f1
theorem x0M (l : List S81) {t : Int} (h : 0 ≤ t) : x1x l t = par l t.toNat := by
 unfold x1x par
 rw [Int.toNat_of_nonneg h]
section
variable {l : List S81}
theorem Tree.down (h : Tree l) {t : Int} (h0 : 0 ≤ t) (h1 : t < l.length) : x1x l t < t := by
 rw [x0M l h0]
 have := h.lt t.toNat (by omega)
 omega
theorem Tree.nn (h : Tree l) {t : Int} (h0 : 0 < t) (h1 : t < l.length) : 0 ≤ x1x l t := by
 rw [x0M l (by omega)]
 exact (h.up t.toNat (by omega) (by omega)).1
theorem Tree.x7y (h : Tree l) : x1x l 0 = -1 := h.root
def upL (l : List S81) : Nat → Int → List Int
 | 0, _ => []
 | n + 1, t => if 0 ≤ t then t :: upL l n (x1x l t) else []
theorem y3Y {t : Int} (h : t < 0) : ∀ n, upL l n t = []
 | 0 => rfl
 | n + 1 => by rw [upL, if_neg (by omega)]
theorem x0N (h : Tree l) : ∀ (n m : Nat) (t : Int), t < l.length → t < n → t < m → upL l n t = upL l m t
 | 0, m, t, _, hn, _ => by rw [y3Y (by omega), y3Y (by omega)]
 | n + 1, 0, t, _, _, hm => by rw [y3Y (by omega), y3Y (by omega)]
 | n + 1, m + 1, t, hl, hn, hm => by
  rw [upL, upL]
  by_cases h0 : 0 ≤ t
  ·have := h.down h0 hl
   rw [if_pos h0, if_pos h0, x0N h n m _ (by omega) (by omega) (by omega)]
  ·rw [if_neg h0, if_neg h0]
def U (l : List S81) (t : Int) : List Int := upL l (t + 1).toNat t
theorem x0h {t : Int} (h : t < 0) : U l t = [] := y3Y h _
theorem z5N (h : Tree l) {t : Int} (h0 : 0 ≤ t) (h1 : t < l.length) : U l t = t :: U l (x1x l t) := by
 have hd := h.down h0 h1
 unfold U
 rw [show (t + 1).toNat = t.toNat + 1 from by omega, upL, if_pos h0, x0N h t.toNat (x1x l t + 1).toNat _ (by omega) (by omega) (by omega)]
theorem y3Z (h : Tree l) {C : Int → Prop} (hneg : C (-1)) (hs : ∀ t : Int, 0 ≤ t → t < l.length → C (x1x l t) → C t) : ∀ t : Int, -1 ≤ t → t < l.length → C t := by
 have key : ∀ (n : Nat) (t : Int), t < n → -1 ≤ t → t < l.length → C t := by
  intro n
  induction n with
  | zero => intro t hn h0 h1; rw [show t = -1 from by omega]; exact hneg
  | succ n ih =>
   intro t hn h0 h1
   by_cases ht : 0 ≤ t
   ·have hd := h.down ht h1
    refine hs t ht h1 (ih _ (by omega) ?_ (by omega))
    rcases Int.lt_or_eq_of_le ht with h2 | h2
    ·have := h.nn h2 h1; omega
    ·rw [← h2, h.x7y]; decide
   ·rw [show t = -1 from by omega]; exact hneg
 exact fun t h0 h1 => key (t + 1).toNat t (by omega) h0 h1
theorem w3y (h : Tree l) {t : Int} (h0 : 0 ≤ t) (h1 : t < l.length) : -1 ≤ x1x l t := by
 rcases Int.lt_or_eq_of_le h0 with h2 | h2
 ·have := h.nn h2 h1; omega
 ·rw [← h2, h.x7y]; decide
theorem x7W (h : Tree l) : ∀ t : Int, -1 ≤ t → t < l.length → ∀ z ∈ U l t, 0 ≤ z ∧ z ≤ t :=
 y3Z h (by rw [x0h (by decide)]; simp) fun t h0 h1 ih z hz => by
  have hd := h.down h0 h1
  rw [z5N h h0 h1] at hz
  rcases List.mem_cons.1 hz with rfl | hz
  ·exact ⟨h0, Int.le_refl _⟩
  ·have := ih z hz; omega
theorem x7X (h : Tree l) {t : Int} (h0 : 0 ≤ t) (h1 : t < l.length) : t ∈ U l t := by rw [z5N h h0 h1]; simp
theorem x7z (h : Tree l) : ∀ t : Int, -1 ≤ t → t < l.length → (U l t).Pairwise (fun a b => b < a) :=
 y3Z h (by rw [x0h (by decide)]; simp) fun t h0 h1 ih => by
  have hd := h.down h0 h1
  rw [z5N h h0 h1, List.pairwise_cons]
  exact ⟨fun z hz => by have := x7W h _ (w3y h h0 h1) (by omega) z hz; omega, ih⟩
theorem w3z (h : Tree l) : ∀ t : Int, -1 ≤ t → t < l.length → 0 ≤ t → (U l t).getLast? = some 0 :=
 y3Z h (fun h => absurd h (by decide)) fun t h0 h1 ih _ => by
  have hd := h.down h0 h1
  rw [z5N h h0 h1]
  rcases Int.lt_or_eq_of_le h0 with h2 | h2
  ·have hn := h.nn h2 h1
   have := ih hn
   rw [List.getLast?_cons, this]
   rfl
  ·subst h2
   rw [h.x7y, x0h (by decide)]
   rfl
theorem y0l (h : Tree l) : ∀ t : Int, -1 ≤ t → t < l.length → ((U l t).length : Int) ≤ t + 1 :=
 y3Z h (by rw [x0h (by decide)]; simp) fun t h0 h1 ih => by
  have hd := h.down h0 h1
  rw [z5N h h0 h1]
  simp only [List.length_cons]
  omega
def askd (n : Nat) (ts : List Int) : Int := if ts.all (fun z => decide (0 ≤ z) && decide (z < n)) = true then 0 else 8
theorem x0O (ts : List Int) (hts : ts.length ≤ 1000) (l0 : List ByteArray) (l1 : List z1J) (l : List S81) : ∀ (e : Nat) (j : Nat), ts.length ≤ j + e → Evt (fun k => z0L.l0 k ts (ts.length : Int) (j : Int) l0 l1 l) (askd l.length (ts.drop j))
 | e, j, he => by
  refine Evt.succ (fun k => by rw [z0L.l0]) ?_
  by_cases hlt : j < ts.length
  ·refine Evt.yes (by omega) (Evt.yes (by omega) (Evt.yes (by omega) ?_))
   have hr : rd ts (j : Int) = ts[j] := by simp [rd, List.getD_eq_getElem?_getD, hlt]
   rw [hr, List.drop_eq_getElem_cons hlt]
   by_cases h1 : ts[j] < 0
   ·have e8 : askd l.length (ts[j] :: ts.drop (j + 1)) = 8 := by
     unfold askd
     rw [List.all_cons, decide_eq_false (p := 0 ≤ ts[j]) (by omega)]
     rfl
    rw [e8]
    exact Evt.yes h1 (Evt.const _)
   ·refine Evt.no h1 ?_
    by_cases h2 : ts[j] ≥ (l.length : Int)
    ·have e8 : askd l.length (ts[j] :: ts.drop (j + 1)) = 8 := by
      unfold askd
      rw [List.all_cons, decide_eq_false (p := ts[j] < (l.length : Int)) (by omega), Bool.and_false, Bool.false_and]
      rfl
     rw [e8]
     exact Evt.yes h2 (Evt.const _)
    ·refine Evt.no h2 ?_
     have e1 : askd l.length (ts[j] :: ts.drop (j + 1)) = askd l.length (ts.drop (j + 1)) := by
      unfold askd
      rw [List.all_cons, decide_eq_true (by omega), decide_eq_true (by omega)]
      rfl
     rw [e1, z1S (by omega) (by omega)]
     match e, he with
     | 0, he => omega
     | e + 1, he => exact x0O ts hts l0 l1 l e (j + 1) (by omega)
  ·refine Evt.no (by omega) ?_
   rw [List.drop_of_length_le (by omega)]
   exact Evt.const _
theorem z3c {l0 : List ByteArray} {l1 : List z1J} {q : Int} (hq : Evt (fun k => z0S.f k l0 l1 l) q) (ts : List Int) (hts : ts.length ≤ 1000) :
  Evt (fun k => z0L.f k l0 l1 l ts) (if q = 0 then askd l.length ts else q) := by
 unfold z0L.f
 refine Evt.bind hq ?_
 by_cases h0 : q = 0
 ·rw [if_pos h0]
  exact Evt.yes h0 (x0O ts hts l0 l1 l ts.length 0 (by omega))
 ·rw [if_neg h0]
  exact Evt.no h0 (Evt.const _)
theorem x7Y (l : List Int) (hl : l.length ≤ 1000) : ∀ (e i : Nat) (x : List Int), l.length ≤ 2 * (i + e) → i ≤ l.length → x.length = l.length → (∀ j, j < l.length → x[j]? = if j < i ∨ l.length - i ≤ j then l[l.length - 1 - j]? else l[j]?) →
  Evt (fun k => z0r.l0 k x (i : Int) ((l.length : Int) - 1 - i)) l.reverse
 | e, i, x, he, hi, hx, hc => by
  refine Evt.succ (fun k => by rw [z0r.l0]) ?_
  by_cases hlt : 2 * i + 1 < l.length
  ·refine Evt.yes (by omega) (Evt.yes (by omega) (Evt.yes (by omega) (Evt.yes (by omega) (Evt.yes (by omega) ?_))))
   rw [z1S (by omega) (by omega), z1S (by omega) (by omega)]
   match e, he with
   | 0, he => omega
   | e + 1, he =>
    have e1 : ((l.length : Int) - 1 - i).toNat = l.length - 1 - i := by omega
    have e2 : (i : Int).toNat = i := by omega
    have e3 : (l.length : Int) - 1 - i - 1 = (l.length : Int) - 1 - ((i + 1 : Nat) : Int) := by omega
    rw [e3]
    refine x7Y l hl e (i + 1) _ (by omega) (by omega) (by simp [hx]) fun j hj => ?_
    have hxi := hc i (by omega)
    rw [if_neg (by omega)] at hxi
    have hxk := hc (l.length - 1 - i) (by omega)
    rw [if_neg (by omega)] at hxk
    simp only [rd, e1, e2, List.getD_eq_getElem?_getD, hxi, hxk, List.getElem?_set, List.length_set, hx]
    by_cases h1 : l.length - 1 - i = j
    ·rw [if_pos h1, if_pos (by omega), if_pos (by omega), List.getElem?_eq_getElem (by omega), List.getElem?_eq_getElem (by omega)]
     simp only [Option.getD_some, Option.some.injEq]
     congr 1
     omega
    ·rw [if_neg h1]
     by_cases h2 : i = j
     ·subst h2
      rw [if_pos rfl, if_pos (by omega), if_pos (by omega), List.getElem?_eq_getElem (by omega)]
      rfl
     ·rw [if_neg h2, hc j hj]
      by_cases h3 : j < i ∨ l.length - i ≤ j
      ·rw [if_pos h3, if_pos (by omega)]
      ·rw [if_neg h3, if_neg (by omega)]
  ·refine Evt.no (by omega) ?_
   have : x = l.reverse := by
    apply List.ext_getElem?
    intro j
    by_cases hj : j < l.length
    ·rw [hc j hj, List.getElem?_reverse hj]
     by_cases h3 : j < i ∨ l.length - i ≤ j
     ·rw [if_pos h3]
     ·rw [if_neg h3]
      congr 1
      omega
    ·rw [List.getElem?_eq_none (by omega), List.getElem?_eq_none (by simp; omega)]
   rw [this]
   exact Evt.const _
theorem x6r (l : List Int) (hl : l.length ≤ 1000) : Evt (fun k => z0r.f k l) l.reverse := by
 unfold z0r.f
 rw [z1S (by omega) (by omega)]
 have := x7Y l hl l.length 0 l (by omega) (by omega) rfl fun j hj => by rw [if_neg (by omega)]
 simpa using this
theorem x6s (h : Tree l) (l0 : List ByteArray) (l1 : List z1J) : ∀ t : Int, -1 ≤ t → t < l.length → ∀ acc : List Int, (acc.length : Int) + t ≤ 900 → Evt (fun k => z1f.l0 k t acc l0 l1 l) ((acc ++ U l t).reverse) :=
 y3Z h (fun acc ha => by
  refine Evt.succ (fun k => by rw [z1f.l0]) (Evt.no (by decide) ?_)
  rw [x0h (by decide), List.append_nil]
  exact Evt.bind (x6r acc (by omega)) (Evt.const _)) fun t h0 h1 ih acc ha => by
  have hd := h.down h0 h1
  refine Evt.succ (fun k => by rw [z1f.l0]) (Evt.yes h0 (Evt.yes (by omega) (Evt.yes h0 (Evt.yes h1 ?_))))
  have := ih (acc ++ [t]) (by simp; omega)
  rw [z5N h h0 h1]
  simpa using this
theorem x1y {l0 : List ByteArray} {l1 : List z1J} {q : Int} (hq : Evt (fun k => z0S.f k l0 l1 l) q) (ht : q = 0 → Tree l) (a : Int) :
  Evt (fun k => z2V.f k l0 l1 l a) (if q = 0 then (if 0 ≤ a ∧ a < l.length then ((U l a).reverse, 0) else ([], 8)) else ([], q)) := by
 unfold z2V.f
 refine Evt.bind (z3c hq [a] (by simp)) ?_
 by_cases h0 : q = 0
 ·have h := ht h0
  have hl := h.len
  rw [if_pos h0, if_pos h0]
  by_cases ha : 0 ≤ a ∧ a < l.length
  ·rw [if_pos ha]
   refine Evt.yes (by simp [askd, ha.1, ha.2]) (Evt.bind (?_ : Evt _ (U l a).reverse) (Evt.const _))
   unfold z1f.f
   exact x6s h l0 l1 a (by omega) ha.2 [] (by simp; omega)
  ·rw [if_neg ha]
   have : askd l.length [a] = 8 := by
    unfold askd
    rw [if_neg (by simpa using ha)]
   rw [this]
   exact Evt.no (by decide) (Evt.const _)
 ·rw [if_neg h0, if_neg h0]
  exact Evt.no h0 (Evt.const _)
def Meet (l : List S81) (x y m : Int) : Prop := m ∈ U l x ∧ m ∈ U l y ∧ ∀ z ∈ U l x, z ∈ U l y → z ≤ m
theorem Meet.uniq {x y m m' : Int} (h : Meet l x y m) (h' : Meet l x y m') : m = m' := by
 have := h.2.2 m' h'.1 h'.2.1
 have := h'.2.2 m h.1 h.2.1
 omega
theorem Meet.symm {x y m : Int} (h : Meet l x y m) : Meet l y x m := ⟨h.2.1, h.1, fun z h1 h2 => h.2.2 z h2 h1⟩
theorem x0i (h : Tree l) (l0 : List ByteArray) (l1 : List z1J) : ∀ (s : Nat) (x y : Int), 0 ≤ x → x < l.length → 0 ≤ y → y < l.length → x + y < s → ∃ m, Evt (fun k => z1k.l0 k x y l0 l1 l) (m, 0) ∧ Meet l x y m
 | 0, x, y, hx0, hx1, hy0, hy1, hs => by omega
 | s + 1, x, y, hx0, hx1, hy0, hy1, hs => by
  by_cases he : x = y
  ·subst he
   exact ⟨x, Evt.succ (fun k => by rw [z1k.l0]) (Evt.yes rfl (Evt.const _)), x7X h hx0 hx1, x7X h hx0 hx1, fun z hz _ => (x7W h x (by omega) hx1 z hz).2⟩
  ·by_cases hgt : x > y
   ·have hd := h.down hx0 hx1
    have hn := h.nn (by omega) hx1
    obtain ⟨m, h1, h2, h3, h4⟩ := x0i h l0 l1 s (x1x l x) y hn (by omega) hy0 hy1 (by omega)
    refine ⟨m, Evt.succ (fun k => by rw [z1k.l0]) (Evt.no he (Evt.yes hgt (Evt.yes hx0 (Evt.yes hx1 h1)))), ?_, h3, fun z hz hz2 => ?_⟩
    ·rw [z5N h hx0 hx1]; exact List.mem_cons_of_mem _ h2
    ·rw [z5N h hx0 hx1] at hz
     rcases List.mem_cons.1 hz with rfl | hz
     ·have := x7W h y (by omega) hy1 z hz2; omega
     ·exact h4 z hz hz2
   ·have hd := h.down hy0 hy1
    have hn := h.nn (by omega) hy1
    obtain ⟨m, h1, h2, h3, h4⟩ := x0i h l0 l1 s x (x1x l y) hx0 hx1 hn (by omega) (by omega)
    refine ⟨m, Evt.succ (fun k => by rw [z1k.l0]) (Evt.no he (Evt.no hgt (Evt.yes hy0 (Evt.yes hy1 h1)))), h2, ?_, fun z hz hz2 => ?_⟩
    ·rw [z5N h hy0 hy1]; exact List.mem_cons_of_mem _ h3
    ·rw [z5N h hy0 hy1] at hz2
     rcases List.mem_cons.1 hz2 with rfl | hz2
     ·have := x7W h x (by omega) hx1 z hz; omega
     ·exact h4 z hz hz2
theorem x1z {l0 : List ByteArray} {l1 : List z1J} {q : Int} (hq : Evt (fun k => z0S.f k l0 l1 l) q) (ht : q = 0 → Tree l) (x y : Int) :
  ∃ m e, Evt (fun k => z1k.f k l0 l1 l x y) (m, e) ∧ ((q = 0 ∧ (0 ≤ x ∧ x < l.length) ∧ (0 ≤ y ∧ y < l.length)) → e = 0 ∧ Meet l x y m) ∧ (¬ (q = 0 ∧ (0 ≤ x ∧ x < l.length) ∧ (0 ≤ y ∧ y < l.length)) → e ≠ 0 ∧ m = 0) := by
 unfold z1k.f
 by_cases h0 : q = 0
 ·have h := ht h0
  by_cases hb : (0 ≤ x ∧ x < l.length) ∧ (0 ≤ y ∧ y < l.length)
  ·obtain ⟨m, h1, h2⟩ := x0i h l0 l1 (x + y + 1).toNat x y hb.1.1 hb.1.2 hb.2.1 hb.2.2 (by omega)
   refine ⟨m, 0, Evt.bind (z3c hq [x, y] (by simp)) ?_, fun _ => ⟨rfl, h2⟩, fun hn => absurd ⟨h0, hb⟩ hn⟩
   rw [if_pos h0]
   refine Evt.yes ?_ h1
   unfold askd
   rw [if_pos (by simp [hb.1.1, hb.1.2, hb.2.1, hb.2.2])]
  ·refine ⟨0, 8, Evt.bind (z3c hq [x, y] (by simp)) ?_, fun hn => absurd hn.2 hb, fun _ => ⟨by decide, rfl⟩⟩
   rw [if_pos h0]
   have : askd l.length [x, y] = 8 := by
    unfold askd
    rw [if_neg (by simp; omega)]
   rw [this]
   exact Evt.no (by decide) (Evt.const _)
 ·refine ⟨0, q, Evt.bind (z3c hq [x, y] (by simp)) ?_, fun hn => absurd hn.1 h0, fun _ => ⟨h0, rfl⟩⟩
  rw [if_neg h0]
  exact Evt.no h0 (Evt.const _)
theorem y7J {l0 : List ByteArray} {l1 : List z1J} (hq : Evt (fun k => z0S.f k l0 l1 l) 0) (ht : Tree l) : Evt (fun k => z1Z.f k l0 l1 l) (z2l l 0 l.length, 0) := by
 unfold z1Z.f
 refine Evt.bind (z3c hq [] (by simp)) ?_
 exact Evt.yes rfl (Evt.yes ht.len (Evt.const _))
theorem x1A {l0 : List ByteArray} {l1 : List z1J} (hq : Evt (fun k => z0S.f k l0 l1 l) 0) : Evt (fun k => z1T.f k l0 l1 l) (⟨(z5P l l.length 0 0).toArray⟩, 0) := by
 unfold z1T.f
 refine Evt.bind (z3c hq [] (by simp)) ?_
 exact Evt.yes rfl (Evt.const _)
end
section
variable {l : List S81} {fs : List ByteArray} {ls : List z1J} {q : Int}
theorem x0P (h : Tree l) : ∀ t : Int, -1 ≤ t → t < l.length → 0 ≤ t → Evt (fun k => z0w.f k fs ls l t) (U l t).reverse :=
 y3Z h (fun h => absurd h (by decide)) fun t h0 h1 ih _ => by
  refine Evt.succ (fun k => by rw [z0w.f]) ?_
  have hlen := h.len
  by_cases ht : t = 0
  ·subst ht
   rw [z5N h h0 h1, h.x7y, x0h (by decide)]
   exact Evt.yes rfl (Evt.const _)
  ·have hd := h.down h0 h1
   have hn := h.nn (by omega) h1
   refine Evt.no ht (Evt.yes h0 (Evt.yes h1 (Evt.bind (ih hn) ?_)))
   have hul := y0l h (x1x l t) (by omega) (by omega)
   refine Evt.yes (by rw [List.length_reverse]; omega) ?_
   rw [z5N h h0 h1, List.reverse_cons]
   exact Evt.const _
theorem z5X (hq : Evt (fun k => z0d.f k fs ls l) q) (a : Int) : Evt (fun k => z0I.f k fs ls l a) (if q = 0 then (if 0 ≤ a ∧ a < l.length then 0 else 8) else q) := by
 unfold z0I.f
 refine Evt.bind hq ?_
 by_cases h0 : q = 0
 ·rw [if_pos h0, if_pos h0]
  by_cases h1 : a < 0
  ·rw [show (if 0 ≤ a ∧ a < (l.length : Int) then (0 : Int) else 8) = 8 from if_neg (by omega)]
   exact Evt.yes h1 (Evt.const _)
  ·refine Evt.no h1 ?_
   by_cases h2 : a ≥ (l.length : Int)
   ·rw [show (if 0 ≤ a ∧ a < (l.length : Int) then (0 : Int) else 8) = 8 from if_neg (by omega)]
    exact Evt.yes h2 (Evt.const _)
   ·rw [show (if 0 ≤ a ∧ a < (l.length : Int) then (0 : Int) else 8) = 0 from if_pos (by omega)]
    exact Evt.no h2 (Evt.const _)
 ·rw [if_neg h0, if_neg h0]
  exact Evt.const _
theorem x0j (hq : Evt (fun k => z0d.f k fs ls l) q) (ht : q = 0 → Tree l) (a : Int) :
  Evt (fun k => z1U.f k fs ls l a) (if q = 0 then (if 0 ≤ a ∧ a < l.length then ((U l a).reverse, 0) else ([], 8)) else ([], q)) := by
 unfold z1U.f
 refine Evt.bind (z5X hq a) ?_
 by_cases h0 : q = 0
 ·rw [if_pos h0, if_pos h0]
  by_cases ha : 0 ≤ a ∧ a < l.length
  ·rw [if_pos ha, if_pos ha]
   exact Evt.yes rfl (Evt.bind (x0P (ht h0) a (by omega) ha.2 ha.1) (Evt.const _))
  ·rw [if_neg ha, if_neg ha]
   exact Evt.no (by decide) (Evt.const _)
 ·rw [if_neg h0, if_neg h0]
  exact Evt.no h0 (Evt.const _)
theorem x7A (h : Tree l) (z : Int) : ∀ t : Int, -1 ≤ t → t < l.length → z ∈ U l t → ∃ s, U l t = s ++ U l z :=
 y3Z h (fun hz => by rw [x0h (by decide)] at hz; cases hz) fun t h0 h1 ih hz => by
  rw [z5N h h0 h1] at hz
  rcases List.mem_cons.1 hz with rfl | hz
  ·exact ⟨[], rfl⟩
  ·obtain ⟨s, hs⟩ := ih hz
   exact ⟨t :: s, by rw [z5N h h0 h1, hs]; rfl⟩
theorem U_at (h : Tree l) {t z : Int} (h0 : 0 ≤ t) (h1 : t < l.length) (hz : z ∈ U l t) : ∃ hlt : (U l z).length - 1 < (U l t).reverse.length, (U l t).reverse[(U l z).length - 1] = z := by
 obtain ⟨s, hs⟩ := x7A h z t (by omega) h1 hz
 have hz0 := x7W h t (by omega) h1 z hz
 have hc := z5N h hz0.1 (by omega)
 have hpos : 0 < (U l z).length := by rw [hc]; simp
 have e : (U l t).reverse = (U l z).reverse ++ s.reverse := by rw [hs, List.reverse_append]
 refine ⟨by rw [e]; simp; omega, ?_⟩
 have : (U l t).reverse[(U l z).length - 1]? = some z := by
  rw [e, List.getElem?_append_left (by simp; omega), List.getElem?_reverse (by omega)]
  rw [show (U l z).length - 1 - ((U l z).length - 1) = 0 from by omega, hc]
  rfl
 obtain ⟨_, e2⟩ := List.getElem?_eq_some_iff.1 this
 exact e2
theorem y6y (p r : List Int) (hp : p.length ≤ 1000) (m : Int) (hs : p.Pairwise (fun a b => a < b)) (hm : ∀ z ∈ p, z ∈ r → z ≤ m) (d : Nat) (hd1 : d < p.length) (hd2 : d < r.length) (hdm : p[d] = m) (hdr : r[d] = m) :
  ∀ (e i : Nat) (n : Int), p.length ≤ i + e → (n ∈ p ∧ n ∈ r) → (∀ (j : Nat) (hj : j < p.length) (hr : j < r.length), j < i → p[j] = r[j] → p[j] ≤ n) → Evt (fun k => z0l.l0 k p r n (i : Int)) (m, 0)
 | e, i, n, he, hn, hi => by
  have done : (p.length ≤ i ∨ r.length ≤ i) → n = m := fun hge => by
   have h1 := hi d hd1 hd2 (by omega) (by rw [hdm, hdr])
   have h2 := hm n hn.1 hn.2
   omega
  have stop : (p.length ≤ i ∨ r.length ≤ i) → Evt (fun k => z0l.j2 k p r n (i : Int) false) (m, 0) := fun hge => by
   refine Evt.succ (fun k => by rw [z0l.j2]) ?_
   rw [done hge]
   exact Evt.no (by decide) (Evt.const _)
  refine Evt.succ (fun k => by rw [z0l.l0]) ?_
  by_cases h1 : i < p.length
  ·refine Evt.yes (by omega) ?_
   by_cases h2 : i < r.length
   ·rw [decide_eq_true (show (i : Int) < (r.length : Int) by omega)]
    refine Evt.succ (fun k => by rw [z0l.j2]) ?_
    refine Evt.yes rfl (Evt.yes (by omega) (Evt.yes (by omega) (Evt.yes (by omega) ?_)))
    have r1 : rd p (i : Int) = p[i] := by simp [rd, List.getD_eq_getElem?_getD, h1]
    have r2 : rd r (i : Int) = r[i] := by simp [rd, List.getD_eq_getElem?_getD, h2]
    rw [r1, r2, z1S (by omega) (by omega)]
    match e, he with
    | 0, he => omega
    | e + 1, he =>
     by_cases hpr : p[i] = r[i]
     ·refine Evt.yes hpr (y6y p r hp m hs hm d hd1 hd2 hdm hdr e (i + 1) _ (by omega) ⟨List.getElem_mem h1, by rw [hpr]; exact List.getElem_mem h2⟩ fun j hj hr hji hjr => ?_)
      by_cases hji2 : j < i
      ·exact Int.le_of_lt (List.pairwise_iff_getElem.1 hs j i hj h1 hji2)
      ·obtain rfl : j = i := by omega
       exact Int.le_refl _
     ·refine Evt.no hpr (y6y p r hp m hs hm d hd1 hd2 hdm hdr e (i + 1) n (by omega) hn fun j hj hr hji hjr => ?_)
      by_cases hji2 : j < i
      ·exact hi j hj hr hji2 hjr
      ·obtain rfl : j = i := by omega
       exact absurd hjr hpr
   ·rw [decide_eq_false (show ¬ (i : Int) < (r.length : Int) by omega)]
    exact stop (by omega)
  ·exact Evt.no (by omega) (stop (by omega))
theorem x0k (hq : Evt (fun k => z0d.f k fs ls l) q) (ht : q = 0 → Tree l) (x y m e : Int)
  (hn1 : (q = 0 ∧ (0 ≤ x ∧ x < l.length) ∧ (0 ≤ y ∧ y < l.length)) → e = 0 ∧ Meet l x y m) (hn2 : ¬ (q = 0 ∧ (0 ≤ x ∧ x < l.length) ∧ (0 ≤ y ∧ y < l.length)) → m = 0 ∧ e = (if q = 0 then 8 else q)) :
  Evt (fun k => z0l.f k fs ls l x y) (m, e) := by
 unfold z0l.f
 have no : ∀ c : Int, c ≠ 0 → Evt (fun k => z0l.j0 k x y c fs ls l) (0, c) := fun c hc => by
  refine Evt.succ (fun k => by rw [z0l.j0]) ?_
  exact Evt.no hc (Evt.const _)
 refine Evt.bind (z5X hq x) ?_
 by_cases h0 : q = 0
 ·rw [if_pos h0]
  by_cases hx : 0 ≤ x ∧ x < l.length
  ·rw [if_pos hx]
   refine Evt.yes rfl (Evt.bind (z5X hq y) ?_)
   rw [if_pos h0]
   by_cases hy : 0 ≤ y ∧ y < l.length
   ·rw [if_pos hy]
    obtain ⟨rfl, hme⟩ := hn1 ⟨h0, hx, hy⟩
    have h := ht h0
    have hlen := h.len
    refine Evt.succ (fun k => by rw [z0l.j0]) ?_
    refine Evt.yes rfl (Evt.bind (x0P h x (by omega) hx.2 hx.1) (Evt.bind (x0P h y (by omega) hy.2 hy.1) ?_))
    obtain ⟨hd1, e1⟩ := U_at h hx.1 hx.2 hme.1
    obtain ⟨hd2, e2⟩ := U_at h hy.1 hy.2 hme.2.1
    have hul := y0l h x (by omega) hx.2
    have root : ∀ t : Int, 0 ≤ t → t < l.length → (0 : Int) ∈ (U l t).reverse := fun t h0 h1 => List.mem_reverse.2 (List.mem_of_getLast? (w3z h t (by omega) h1 h0))
    exact y6y _ _ (by rw [List.length_reverse]; omega) m (List.pairwise_reverse.2 (x7z h x (by omega) hx.2)) (fun z h1 h2 => hme.2.2 z (List.mem_reverse.1 h1) (List.mem_reverse.1 h2)) _ hd1 hd2 e1 e2 (U l x).reverse.length 0 0 (by omega) ⟨root x hx.1 hx.2, root y hy.1 hy.2⟩ (fun j _ _ hj => by omega)
   ·rw [if_neg hy]
    obtain ⟨rfl, rfl⟩ := hn2 (fun hh => hy hh.2.2)
    rw [if_pos h0]
    exact no 8 (by decide)
  ·rw [if_neg hx]
   obtain ⟨rfl, rfl⟩ := hn2 (fun hh => hx hh.2.1)
   rw [if_pos h0]
   exact Evt.no (by decide) (no 8 (by decide))
 ·rw [if_neg h0]
  obtain ⟨rfl, rfl⟩ := hn2 (fun hh => h0 hh.1)
  rw [if_neg h0]
  exact Evt.no h0 (no q h0)
theorem x7B (hq : Evt (fun k => z0S.f k fs ls l) q) (x y m e : Int) (hn : ¬ (q = 0 ∧ (0 ≤ x ∧ x < l.length) ∧ (0 ≤ y ∧ y < l.length))) (hv : Evt (fun k => z1k.f k fs ls l x y) (m, e)) : m = 0 ∧ e = (if q = 0 then 8 else q) := by
 have : Evt (fun k => z1k.f k fs ls l x y) (0, if q = 0 then 8 else q) := by
  unfold z1k.f
  refine Evt.bind (z3c hq [x, y] (by simp)) ?_
  by_cases h0 : q = 0
  ·rw [if_pos h0, if_pos h0]
   have : askd l.length [x, y] = 8 := by
    unfold askd
    rw [if_neg (fun hh => hn ⟨h0, by simpa [and_assoc] using hh⟩)]
   rw [this]
   exact Evt.no (by decide) (Evt.const _)
  ·rw [if_neg h0, if_neg h0]
   exact Evt.no h0 (Evt.const _)
 have e2 := hv.uniq this
 simp only [Prod.mk.injEq] at e2
 exact e2
theorem x0b.kids {t : List S58} (h : x0b t) : ∀ x ∈ t, x.f4.length ≤ 256 := by
 intro x hx
 obtain ⟨i, hi⟩ := List.mem_iff_getElem?.1 hx
 have h1 := y0U t.length x.f4 (fun k hk => by have := h.up i x hi k hk; omega) (fun k hk => by
  have hm : k ∈ z1E t := List.mem_flatMap.2 ⟨x, hx, hk⟩
  have hc := h.nodup k hm
  have hsub : x.f4.count k ≤ (z1E t).count k := by
   unfold z1E
   obtain ⟨a, b, rfl⟩ := List.append_of_mem hx
   rw [List.flatMap_append, List.flatMap_cons, List.count_append, List.count_append]
   omega
  omega)
 have := h.len
 omega
theorem x0Q {t : List S58} (h : y0V fs ls t = true) : t.length ≤ 256 ∧ ∀ x ∈ t, x.f4.length ≤ 256 := by
 unfold y0V at h
 rw [Bool.and_eq_true] at h
 have ht := (z8N t).1 h.1
 exact ⟨ht.len, ht.kids⟩
theorem x6t {x : S51} (h : z9O fs ls x = true) : y0B x = true := by
 unfold z9O at h
 simp only [Bool.and_eq_true, decide_eq_true_eq] at h
 obtain ⟨_, ⟨_, _, h1, h2, _⟩, _, _, h3, h4⟩ := h
 obtain ⟨a3, b3⟩ := x0Q h3
 obtain ⟨a4, b4⟩ := x0Q h4
 unfold y0B
 simp only [Bool.and_eq_true, decide_eq_true_eq, List.all_eq_true]
 exact ⟨⟨⟨⟨⟨h1, h2⟩, a3⟩, a4⟩, b3⟩, b4⟩
theorem z9Q : ∀ (l : List S81), z3V fs ls l = 0 → ∀ b ∈ l, b.f2.length ≤ 64 ∧ ∀ r ∈ b.f2, z9O fs ls r = true
 | [], _ => fun _ h => by cases h
 | x :: r, h => by
  unfold z3V at h
  have hx : y6w fs ls x.f2 = 0 := by
   by_cases h0 : y6w fs ls x.f2 = 0
   ·exact h0
   ·rw [if_neg h0] at h; exact h
  rw [if_pos hx] at h
  intro b hb
  rcases List.mem_cons.1 hb with rfl | hb
  ·unfold y6w at hx
   by_cases hl : b.f2.length ≤ 64
   ·rw [if_pos hl] at hx
    refine ⟨hl, ?_⟩
    by_cases ha : b.f2.all (z9O fs ls) = true
    ·exact List.all_eq_true.1 ha
    ·rw [if_neg ha] at hx; exact absurd hx (by decide)
   ·rw [if_neg hl] at hx; exact absurd hx (by decide)
  ·exact z9Q r h b hb
theorem x0R (h : x7x fs ls l = 0) : z3A fs ls = true ∧ y1l l = true ∧ z3V fs ls l = 0 := by
 unfold x7x at h
 by_cases h1 : z3A fs ls = true
 ·rw [if_pos h1] at h
  by_cases h2 : y1l l = true
  ·rw [if_pos h2] at h
   exact ⟨h1, h2, h⟩
  ·rw [if_neg h2] at h; exact absurd h (by decide)
 ·rw [if_neg h1] at h; exact absurd h (by decide)
theorem x1B (hq : Evt (fun k => z0S.f k fs ls l) q) (ht : q = 0 → Tree l) (hb : q = 0 → z3V fs ls l = 0) (a : Int) :
  Evt (fun k => z2C.f k fs ls l a) (if q = 0 then (if 0 ≤ a ∧ a < l.length then (z9h l (U l a).reverse, 0) else ([], 8)) else ([], q)) := by
 unfold z2C.f
 refine Evt.bind (z3c hq [a] (by simp)) ?_
 by_cases h0 : q = 0
 ·have h := ht h0
  have hl := h.len
  rw [if_pos h0, if_pos h0]
  by_cases ha : 0 ≤ a ∧ a < l.length
  ·rw [if_pos ha]
   refine Evt.yes (by simp [askd, ha.1, ha.2]) (Evt.bind (?_ : Evt _ (U l a).reverse) ?_)
   ·unfold z1f.f
    exact x6s h fs ls a (by omega) ha.2 [] (by simp; omega)
   ·have hul := y0l h a (by omega) ha.2
    refine Evt.yes ?_ (Evt.const _)
    unfold y2T
    simp only [Bool.and_eq_true, decide_eq_true_eq, List.all_eq_true, List.length_reverse]
    refine ⟨fun n hn => ?_, by omega⟩
    have hn' := x7W h a (by omega) ha.2 n (List.mem_reverse.1 hn)
    have hm : z0s l n ∈ l := by
     have hj : n.toNat < l.length := by omega
     simp [z0s, List.getD_eq_getElem?_getD, hj]
    obtain ⟨g1, g2⟩ := z9Q l (hb h0) _ hm
    exact ⟨⟨⟨hn'.1, by omega⟩, g1⟩, fun r hr => x6t (g2 r hr)⟩
  ·rw [if_neg ha]
   have : askd l.length [a] = 8 := by
    unfold askd
    rw [if_neg (by simpa using ha)]
   rw [this]
   exact Evt.no (by decide) (Evt.const _)
 ·rw [if_neg h0, if_neg h0]
  exact Evt.no h0 (Evt.const _)
theorem x0l (hq : Evt (fun k => z0d.f k fs ls l) q) (ht : q = 0 → Tree l) (hb : q = 0 → z3V fs ls l = 0) (a : Int) :
  Evt (fun k => z0E.f k fs ls l a) (if q = 0 then (if 0 ≤ a ∧ a < l.length then (z9h l (U l a).reverse, 0) else ([], 8)) else ([], q)) := by
 unfold z0E.f
 refine Evt.bind (z5X hq a) ?_
 by_cases h0 : q = 0
 ·have h := ht h0
  have hl := h.len
  rw [if_pos h0, if_pos h0]
  by_cases ha : 0 ≤ a ∧ a < l.length
  ·rw [if_pos ha, if_pos ha]
   refine Evt.yes rfl (Evt.bind (x0P h a (by omega) ha.2 ha.1) ?_)
   have hul := y0l h a (by omega) ha.2
   have hin : ∀ n ∈ (U l a).reverse, 0 ≤ n ∧ n < (l.length : Int) := fun n hn => by
    have := x7W h a (by omega) ha.2 n (List.mem_reverse.1 hn); omega
   have hlen : (U l a).reverse.length ≤ 40 := by rw [List.length_reverse]; omega
   generalize (U l a).reverse = p at hin hlen
   have loop : ∀ (r pre : List Int) (acc : List S51), p = pre ++ r → acc.length ≤ 64 * pre.length → Evt (fun k => z0E.l0 k acc p (pre.length : Int) fs ls l) (acc ++ z9h l r, 0) := by
    intro r
    induction r with
    | nil =>
     intro pre acc e _
     have : pre.length = p.length := by rw [e]; simp
     refine Evt.succ (fun k => by rw [z0E.l0]) ?_
     rw [show z9h l [] = [] from rfl, List.append_nil]
     exact Evt.no (by omega) (Evt.const _)
    | cons n r ih =>
     intro pre acc e hacc
     have hlt : pre.length < p.length := by rw [e]; simp
     have hx : rd p (pre.length : Int) = n := by rw [e]; exact x6j pre r n
     obtain ⟨n0, n1⟩ := hin n (by rw [e]; simp)
     have hm : z0s l n ∈ l := by
      have hj : n.toNat < l.length := by omega
      simp [z0s, List.getD_eq_getElem?_getD, hj]
     have g1 := (z9Q l (hb h0) _ hm).1
     refine Evt.succ (fun k => by rw [z0E.l0]) ?_
     rw [hx]
     refine Evt.yes (by omega) (Evt.yes (by omega) (Evt.yes n0 (Evt.yes n1 (Evt.yes (by omega) ?_))))
     have ih' := ih (pre ++ [n]) (acc ++ (z0s l n).f2) (by rw [e]; simp) (by simp; omega)
     rw [List.length_append, List.append_assoc] at ih'
     rw [z1S (by omega) (by omega)]
     exact ih'
   simpa using loop p [] [] rfl (by simp)
  ·rw [if_neg ha, if_neg ha]
   exact Evt.no (by decide) (Evt.const _)
 ·rw [if_neg h0, if_neg h0]
  exact Evt.no h0 (Evt.const _)
theorem y0X (hlen : l.length ≤ 1000) : ∀ (e i : Nat) (acc : List Int), l.length = i + e → acc.length ≤ i → Evt (fun k => z0q.l0 k acc (i : Int) fs ls l) (acc ++ z2l l i e, 0)
 | 0, i, acc, he, _ => by
  refine Evt.succ (fun k => by rw [z0q.l0]) ?_
  rw [show z2l l i 0 = [] from rfl, List.append_nil]
  exact Evt.no (by omega) (Evt.const _)
 | e + 1, i, acc, he, ha => by
  refine Evt.succ (fun k => by rw [z0q.l0]) ?_
  refine Evt.yes (by omega) ?_
  have inner : ∀ (r pre : List S81) (b : Bool), l = pre ++ r → Evt (fun k => z0q.l1 k acc (i : Int) b (pre.length : Int) fs ls l) (acc ++ (if (b && !(r.any fun b => decide (b.f1 = (i : Int)))) = true then (i : Int) :: z2l l (i + 1) e else z2l l (i + 1) e), 0) := by
   intro r
   induction r with
   | nil =>
    intro pre b ep
    have hpl : pre.length = l.length := by rw [ep]; simp
    refine Evt.succ (fun k => by rw [z0q.l1]) ?_
    refine Evt.no (by omega) ?_
    rw [z1S (by omega) (by omega)]
    cases b with
    | true =>
     refine Evt.yes rfl (Evt.yes (by omega) ?_)
     have := y0X hlen e (i + 1) (acc ++ [(i : Int)]) (by omega) (by simp; omega)
     simpa using this
    | false =>
     refine Evt.no (by decide) ?_
     have := y0X hlen e (i + 1) acc (by omega) (by omega)
     simpa using this
   | cons y r ih =>
    intro pre b ep
    have hlt : pre.length < l.length := by rw [ep]; simp
    have hy : z0s l (pre.length : Int) = y := by rw [ep]; exact z6u pre r y
    have ih' := fun b => ih (pre ++ [y]) b (by rw [ep]; simp)
    simp only [List.length_append] at ih'
    refine Evt.succ (fun k => by rw [z0q.l1]) ?_
    refine Evt.yes (by omega) ?_
    rw [z1S (by omega) (by omega), List.any_cons]
    cases b with
    | false =>
     refine Evt.no (by decide) ?_
     have := ih' false
     simpa using this
    | true =>
     refine Evt.yes rfl (Evt.yes (by omega) ?_)
     rw [hy]
     have := ih' (y.f1 != (i : Int))
     have e2 : (y.f1 != (i : Int)) = !decide (y.f1 = (i : Int)) := rfl
     rw [e2] at this ⊢
     rw [Bool.true_and, Bool.not_or]
     exact this
  have := inner l [] true rfl
  rw [Bool.true_and] at this
  rw [z2l]
  exact this
theorem y6z (hq : Evt (fun k => z0d.f k fs ls l) q) (ht : q = 0 → Tree l) : Evt (fun k => z0q.f k fs ls l) (if q = 0 then (z2l l 0 l.length, 0) else ([], q)) := by
 unfold z0q.f
 refine Evt.bind hq ?_
 by_cases h0 : q = 0
 ·rw [if_pos h0]
  have hl := (ht h0).len
  refine Evt.yes h0 ?_
  simpa using y0X (fs := fs) (ls := ls) (by omega) l.length 0 [] (by omega) (by simp)
 ·rw [if_neg h0]
  exact Evt.no h0 (Evt.const _)
theorem x1C (hq : Evt (fun k => z0S.f k fs ls l) q) (ht : q = 0 → Tree l) : Evt (fun k => z1Z.f k fs ls l) (if q = 0 then (z2l l 0 l.length, 0) else ([], q)) := by
 by_cases h0 : q = 0
 ·subst h0
  exact y7J hq (ht rfl)
 ·rw [if_neg h0]
  unfold z1Z.f
  refine Evt.bind (z3c hq [] (by simp)) ?_
  rw [if_neg h0]
  exact Evt.no h0 (Evt.const _)
theorem x0S (a b : List UInt8) : (⟨a.toArray⟩ ++ ⟨b.toArray⟩ : ByteArray) = ⟨(a ++ b).toArray⟩ := by
 apply ByteArray.ext
 simp
theorem ba_of (s : ByteArray) : s = ⟨s.data.toList.toArray⟩ := by
 apply ByteArray.ext
 simp
theorem y0Y (a : List UInt8) : (⟨a.toArray⟩ : ByteArray).size = a.length := by
 show a.toArray.size = a.length
 simp
theorem cT_le (h : Tree l) (t : Nat) (ht : t < l.length) : cT l t ≤ l.length := by
 have := forest h (l.length - t) t (by omega)
 rw [show l.length - t = (l.length - t - 1) + 1 from by omega, List.range'_succ, List.map_cons, List.sum_cons, if_pos (h.lt t ht)] at this
 omega
theorem w3A (h : Tree l) {n t : Nat} (hn : l.length ≤ t + n) (ht : t < l.length) : y6C l n t = cT l t := by
 have := y5W h t ht (n - (l.length - t))
 rw [show l.length - t + (n - (l.length - t)) = n from by omega] at this
 exact this
theorem x1D (h : Tree l) {n t d : Nat} (hn : l.length ≤ t + n) (ht : t < l.length) (hd : d ≤ t) : (z5P l n t d).length ≤ 4000 := by
 have h1 := z8x h n t d hd ht
 rw [w3A h hn ht] at h1
 have h2 := cT_le h t ht
 have := h.len
 omega
theorem x0T (h : Tree l) : ∀ (n t d : Nat), l.length ≤ t + n → t < l.length → d ≤ t → Evt (fun k => z0C.f k fs ls l (t : Int) ⟨(List.replicate (2 * d) (32 : UInt8)).toArray⟩) ⟨(z5P l n t d).toArray⟩
 | 0, t, d, hn, ht, _ => by omega
 | n + 1, t, d, hn, ht, hd => by
  have hlen := h.len
  refine Evt.succ (fun k => by rw [z0C.f]) ?_
  obtain ⟨x, hx⟩ : ∃ x, x = z0s l (t : Int) := ⟨_, rfl⟩
  have hxm : x ∈ l := by rw [hx]; simp [z0s, List.getD_eq_getElem?_getD, ht]
  have hxs := z6N (h.named x hxm)
  have hsz : x.f0.size = x.f0.data.toList.length := by simp
  rw [← hx, ba_of x.f0, x0S, x0S, y0Y, y0Y, y0Y]
  have hll : y0C l t d = List.replicate (2 * d) 32 ++ x.f0.data.toList ++ [10] := by rw [y0C, hx]
  refine Evt.yes (by omega) (Evt.yes (by omega) (Evt.yes (by rw [List.length_replicate]; omega) (Evt.yes (by rw [List.length_append, List.length_replicate]; omega) ?_)))
  rw [← hll, z8T]
  have hall := x1D h (n := n + 1) hn ht hd
  rw [z8T, List.length_append] at hall
  have loop : ∀ (e i : Nat) (acc : List UInt8), l.length = i + e → acc.length + ((List.range' i e).flatMap (x4u l n t d)).length ≤ 4000 → Evt (fun k => z0C.l0 k (t : Int) ⟨(List.replicate (2 * d) (32 : UInt8)).toArray⟩ ⟨acc.toArray⟩ (i : Int) fs ls l) ⟨(acc ++ (List.range' i e).flatMap (x4u l n t d)).toArray⟩ := by
   intro e
   induction e with
   | zero =>
    intro i acc he _
    refine Evt.succ (fun k => by rw [z0C.l0]) ?_
    rw [show List.range' i 0 = [] from rfl, List.flatMap_nil, List.append_nil]
    exact Evt.no (by omega) (Evt.const _)
   | succ e ih =>
    intro i acc he hacc
    rw [List.range'_succ, List.flatMap_cons, List.length_append] at hacc
    rw [List.range'_succ, List.flatMap_cons]
    refine Evt.succ (fun k => by rw [z0C.l0]) ?_
    refine Evt.yes (by omega) (Evt.yes (by omega) ?_)
    rw [z1S (by omega) (by omega)]
    by_cases hp : (z0s l (i : Int)).f1 = (t : Int)
    ·have hkid : x4u l n t d i = z5P l n i (d + 1) := by unfold x4u; rw [if_pos hp]
     rw [hkid] at hacc ⊢
     have hlt : par l i < (i : Int) := h.lt i (by omega)
     have hti : t < i := by
      unfold par at hlt
      omega
     refine Evt.yes hp (Evt.yes (by rw [y0Y, List.length_replicate]; omega) ?_)
     have e1 : (⟨(List.replicate (2 * d) (32 : UInt8)).toArray⟩ ++ ⟨#[32, 32]⟩ : ByteArray) = ⟨(List.replicate (2 * (d + 1)) (32 : UInt8)).toArray⟩ := by
      rw [show (⟨#[32, 32]⟩ : ByteArray) = ⟨([32, 32] : List UInt8).toArray⟩ from rfl, x0S, show 2 * (d + 1) = 2 * d + 2 from by omega, ← List.replicate_append_replicate]
      rfl
     rw [e1]
     refine Evt.bind (x0T h n i (d + 1) (by omega) (by omega) (by omega)) ?_
     rw [y0Y, y0Y, x0S]
     refine Evt.yes (by omega) ?_
     have := ih (i + 1) (acc ++ z5P l n i (d + 1)) (by omega) (by rw [List.length_append]; omega)
     rw [List.append_assoc] at this
     exact this
    ·have hkid : x4u l n t d i = [] := by unfold x4u; rw [if_neg hp]
     rw [hkid] at hacc ⊢
     refine Evt.no hp ?_
     exact ih (i + 1) acc (by omega) (by simpa using hacc)
  exact loop l.length 0 (y0C l t d) (by omega) hall
theorem x0m (hq : Evt (fun k => z0d.f k fs ls l) q) (ht : q = 0 → Tree l) : Evt (fun k => z1V.f k fs ls l) (if q = 0 then (⟨(z5P l l.length 0 0).toArray⟩, 0) else (⟨#[]⟩, q)) := by
 unfold z1V.f
 refine Evt.bind hq ?_
 by_cases h0 : q = 0
 ·rw [if_pos h0]
  have h := ht h0
  refine Evt.yes h0 (Evt.bind (x0T h l.length 0 0 (by omega) h.pos (Nat.le_refl _)) (Evt.const _))
 ·rw [if_neg h0]
  exact Evt.no h0 (Evt.const _)
theorem x7C (hq : Evt (fun k => z0S.f k fs ls l) q) : Evt (fun k => z1T.f k fs ls l) (if q = 0 then (⟨(z5P l l.length 0 0).toArray⟩, 0) else (⟨#[]⟩, q)) := by
 by_cases h0 : q = 0
 ·subst h0
  exact x1A hq
 ·rw [if_neg h0]
  unfold z1T.f
  refine Evt.bind (z3c hq [] (by simp)) ?_
  rw [if_neg h0]
  exact Evt.no h0 (Evt.const _)
end
theorem y7K (p : List Int) (hp : p.length ≤ maxLen) : Evt (fun k => z0D.f k p p) true := by
 unfold maxLen at hp
 unfold z0D.f
 refine Evt.yes rfl ?_
 have loop : ∀ (e i : Nat), p.length = i + e → Evt (fun k => z0D.l0 k p p (i : Int)) true := by
  intro e
  induction e with
  | zero =>
   intro i he
   refine Evt.succ (fun k => by rw [z0D.l0]) ?_
   exact Evt.no (by omega) (Evt.const _)
  | succ e ih =>
   intro i he
   refine Evt.succ (fun k => by rw [z0D.l0]) ?_
   rw [z1S (by omega) (by omega)]
   exact Evt.yes (by omega) (Evt.yes (by omega) (Evt.yes (by omega) (Evt.yes rfl (ih (i + 1) (by omega)))))
 exact loop p.length 0 (by omega)
set_option maxRecDepth 100000 in
theorem x1E : Evt (fun k => z1H.f k) true := Evt.w2h (fun k => z1H.mono k) 12 (by kernel_rfl)
theorem x0n (l0 : List ByteArray) (l1 : List z1J) (l : List S81) : Tells (fun k => z0u.f k l0 l1 l) := by
 unfold z0u.f
 have key : ∀ (e : Nat) (c i : Int), 0 ≤ i → 40 ≤ i + e → Tells (fun k => z0u.l0 k c i l0 l1 l) := by
  intro e
  induction e with
  | zero =>
   intro c i h0 h1
   refine Tells.succ (fun k => by rw [z0u.l0]) (Tells.ite (fun _ => ?_) fun _ => ?_)
   ·rw [decide_eq_false (by omega)]
    exact Tells.succ (fun k => by rw [z0u.j1]) (Tells.ite (fun h => by cases h) fun _ => Tells.const _)
   ·exact Tells.succ (fun k => by rw [z0u.j1]) (Tells.ite (fun h => by cases h) fun _ => Tells.const _)
  | succ e ih =>
   intro c i h0 h1
   refine Tells.succ (fun k => by rw [z0u.l0]) (Tells.ite (fun hlt => ?_) fun _ => ?_)
   ·refine Tells.succ (fun k => by rw [z0u.j1]) (Tells.ite (fun hd => Tells.ite (fun _ => Tells.ite (fun _ => ?_) fun h => Tells.absurd hlt h) fun h => Tells.absurd h0 h) fun _ => Tells.const _)
    have : i < 40 := by simpa using hd
    rw [z1S (n := i + 1) (by omega) (by omega)]
    exact Tells.ite (fun _ => ih _ (i + 1) (by omega) (by omega)) fun _ => ih _ (i + 1) (by omega) (by omega)
   ·exact Tells.succ (fun k => by rw [z0u.j1]) (Tells.ite (fun h => by cases h) fun _ => Tells.const _)
 exact key 40 0 0 (Int.le_refl 0) (by omega)
theorem x1F {ls : List z1J} (h : Rows y9W ls) : z2M ls := fun x hx => ⟨(h.2 x hx).2.1, (h.2 x hx).2.2⟩
theorem y4a (x : S28) (a b : Int) (hx : x6g x) : ∃ k, z1H.f k = some true ∧ (z0u.f k x.f0.f0 x.f0.f1 x.f1 = some true ∨ (z0u.f k x.f0.f0 x.f0.f1 x.f1 = some false ∧
  ∃ p e1 n e2 L e3 m e4 s e5, z2V.f k x.f0.f0 x.f0.f1 x.f1 a = some (p, e1) ∧ z1U.f k x.f0.f0 x.f0.f1 x.f1 a = some (p, e1) ∧ z1k.f k x.f0.f0 x.f0.f1 x.f1 a b = some (n, e2) ∧ z0l.f k x.f0.f0 x.f0.f1 x.f1 a b = some (n, e2) ∧
   z2C.f k x.f0.f0 x.f0.f1 x.f1 a = some (L, e3) ∧ z0E.f k x.f0.f0 x.f0.f1 x.f1 a = some (L, e3) ∧ z1Z.f k x.f0.f0 x.f0.f1 x.f1 = some (m, e4) ∧ z0q.f k x.f0.f0 x.f0.f1 x.f1 = some (m, e4) ∧
   z1T.f k x.f0.f0 x.f0.f1 x.f1 = some (s, e5) ∧ z1V.f k x.f0.f0 x.f0.f1 x.f1 = some (s, e5) ∧ z0D.f k p p = some true ∧ z0D.f k m m = some true)) := by
 have hl : Rows y3U x.f1 := hx.2
 have hle := x1F hx.1.2
 obtain ⟨ka, ha⟩ := x1E
 obtain ⟨v, kl, hla⟩ := x0n x.f0.f0 x.f0.f1 x.f1
 cases v with
 | true => exact ⟨ka + kl, ha _ (by omega), .inl (hla _ (by omega))⟩
 | false =>
  have hq := y7I x.f0.f0 x.f0.f1 hle x.f1 hl
  have hr := y6x x.f0.f0 x.f0.f1 hle x.f1 hl
  have ht : x7x x.f0.f0 x.f0.f1 x.f1 = 0 → Tree x.f1 := fun e => z6f (by rw [z8O, (x0R e).2.1])
  have hb : x7x x.f0.f0 x.f0.f1 x.f1 = 0 → z3V x.f0.f0 x.f0.f1 x.f1 = 0 := fun e => (x0R e).2.2
  generalize x7x x.f0.f0 x.f0.f1 x.f1 = q at *
  obtain ⟨m, e, hn, hn1, hn2⟩ := x1z hq ht a b
  have hnr := x0k hr ht a b m e hn1 (fun hno => x7B hq a b m e hno hn)
  have up : q = 0 → 0 ≤ a ∧ a < (x.f1.length : Int) → (U x.f1 a).reverse.length ≤ 1000 ∧ ∀ n ∈ (U x.f1 a).reverse, 0 ≤ n ∧ n < (x.f1.length : Int) := fun h0 hai => by
   have h := ht h0
   have hul := y0l h a (by omega) hai.2
   have := h.len
   exact ⟨by rw [List.length_reverse]; omega, fun n hn => by have := x7W h a (by omega) hai.2 n (List.mem_reverse.1 hn); omega⟩
  obtain ⟨p, e1, hpe⟩ : ∃ p e1, (if q = 0 then (if 0 ≤ a ∧ a < (x.f1.length : Int) then ((U x.f1 a).reverse, (0 : Int)) else ([], 8)) else ([], q)) = (p, e1) := ⟨_, _, rfl⟩
  obtain ⟨L, e3, hLe⟩ : ∃ L e3, (if q = 0 then (if 0 ≤ a ∧ a < (x.f1.length : Int) then (z9h x.f1 (U x.f1 a).reverse, (0 : Int)) else ([], 8)) else ([], q)) = (L, e3) := ⟨_, _, rfl⟩
  obtain ⟨d, e4, hde⟩ : ∃ d e4, (if q = 0 then (z2l x.f1 0 x.f1.length, (0 : Int)) else ([], q)) = (d, e4) := ⟨_, _, rfl⟩
  obtain ⟨s, e5, hse⟩ : ∃ (s : ByteArray) (e5 : Int), (if q = 0 then (⟨(z5P x.f1 x.f1.length 0 0).toArray⟩, (0 : Int)) else (⟨#[]⟩, q)) = (s, e5) := ⟨_, _, rfl⟩
  have p1 := x1y hq ht a
  have p2 := x0j hr ht a
  rw [hpe] at p1 p2
  have l1 := x1B hq ht hb a
  have l2 := x0l hr ht hb a
  rw [hLe] at l1 l2
  have d1 := x1C hq ht
  have d2 := y6z hr ht
  rw [hde] at d1 d2
  have s1 := x7C hq
  have s2 := x0m hr ht
  rw [hse] at s1 s2
  have hp : p.length ≤ maxLen := by
   unfold maxLen
   by_cases h0 : q = 0
   ·rw [if_pos h0] at hpe
    by_cases hai : 0 ≤ a ∧ a < (x.f1.length : Int)
    ·rw [if_pos hai] at hpe
     have := (up h0 hai).1
     cases hpe
     omega
    ·rw [if_neg hai] at hpe; cases hpe; simp
   ·rw [if_neg h0] at hpe; cases hpe; simp
  have hd : d.length ≤ maxLen := by
   unfold maxLen
   by_cases h0 : q = 0
   ·rw [if_pos h0] at hde
    have h := (ht h0).len
    have short : ∀ (n j : Nat), (z2l x.f1 j n).length ≤ n := by
     intro n
     induction n with
     | zero => intro j; exact Nat.le_refl _
     | succ n ih =>
      intro j
      have := ih (j + 1)
      rw [z2l]
      split
      ·simp; omega
      ·omega
    have := short x.f1.length 0
    cases hde
    omega
   ·rw [if_neg h0] at hde; cases hde; simp
  obtain ⟨k1, p1⟩ := p1
  obtain ⟨k2, p2⟩ := p2
  obtain ⟨k3, n1⟩ := hn
  obtain ⟨k4, n2⟩ := hnr
  obtain ⟨k5, l1⟩ := l1
  obtain ⟨k6, l2⟩ := l2
  obtain ⟨k7, d1⟩ := d1
  obtain ⟨k8, d2⟩ := d2
  obtain ⟨k9, s1⟩ := s1
  obtain ⟨k10, s2⟩ := s2
  obtain ⟨k11, q1⟩ := y7K p hp
  obtain ⟨k12, q2⟩ := y7K d hd
  refine ⟨ka + kl + k1 + k2 + k3 + k4 + k5 + k6 + k7 + k8 + k9 + k10 + k11 + k12, ha _ (by omega), .inr ⟨hla _ (by omega), p, e1, m, e, L, e3, d, e4, s, e5, p1 _ (by omega), p2 _ (by omega), n1 _ (by omega), n2 _ (by omega), l1 _ (by omega), l2 _ (by omega), d1 _ (by omega), d2 _ (by omega), s1 _ (by omega), s2 _ (by omega), q1 _ (by omega), q2 _ (by omega)⟩⟩
end Go.Proofs.YtplkoabikliagaaGreatDoor.K
