/- Part 2 of a proof: walks and plain laws, merged by wip/tools/pack.py. -/
import Derived.Test.YtplkoabikliagaaDoorZ1
import Derived.Maps.OwnOps
import Derived.Handy
namespace Go.Proofs.YtplkoabikliagaaDoor.K
open Go.RowKit Go.Proofs.YtplkoabikliagaaDoorW.PrintWords Go.Proofs.YtplkoabikliagaaDoorW.PrintLast Go.Proofs.YtplkoabikliagaaDoorW.PrintMore
attribute [local go_sem] max2_int min2_int max_two min_two max_three min_three max_four min_four
set_option linter.unusedVariables false
set_option linter.unusedSimpArgs false
mutual
def feature_lettered.j0 : Nat → Int → Bool → Option (Bool)
 | 0, _, _ => none
 | k + 1, x0, x3 => if x3 = true then (feature_lettered.j1 k x0 x3) else (if 65 ≤ x0 then (feature_lettered.j1 k x0 (decide (x0 ≤ 90))) else (feature_lettered.j1 k x0 false))
def feature_lettered.j1 : Nat → Int → Bool → Option (Bool)
 | 0, _, _ => none
 | k + 1, x0, x3 => if x3 = true then (some true) else (if x0 < 161 then (some false) else (if x0 > 1114111 then (some false) else (if x0 = 65533 then (some false) else (if (x0 / 2048) = 27 then (some false) else (some true)))))
end
def feature_lettered.f (k : Nat) (a0 : Int) : Option (Bool) := if 97 ≤ a0 then (feature_lettered.j0 k a0 (decide (a0 ≤ 122))) else (feature_lettered.j0 k a0 false)
theorem feature_lettered.mono_l : ∀ k, (∀ y0 y1, LeO (feature_lettered.j0 k y0 y1) (feature_lettered.j0 (k + 1) y0 y1)) ∧ (∀ y0 y1, LeO (feature_lettered.j1 k y0 y1) (feature_lettered.j1 (k + 1) y0 y1))
 | 0 => ⟨fun _ _ r h => by simp [feature_lettered.j0] at h, fun _ _ r h => by simp [feature_lettered.j1] at h⟩
 | k + 1 => by
  obtain ⟨ih0, ih1⟩ := feature_lettered.mono_l k
  refine ⟨?_, ?_⟩
  ·intro y0 y1
   unfold feature_lettered.j0
   repeat' first
   | (with_reducible exact ih0 _ _)
   | (with_reducible exact ih1 _ _)
   | (with_reducible exact LeO.refl _)
   | (with_reducible exact LeO.none _)
   | (with_reducible refine LeO.ite ?_ ?_)
   | (with_reducible refine LeO.bind ?_ (fun _ => ?_))
   | exact ih0 _ _
   | exact ih1 _ _
   | exact LeO.none _
   | refine LeO.ite ?_ ?_
   | refine LeO.bind ?_ (fun _ => ?_)
  ·intro y0 y1
   unfold feature_lettered.j1
   repeat' first
   | (with_reducible exact ih0 _ _)
   | (with_reducible exact ih1 _ _)
   | (with_reducible exact LeO.refl _)
   | (with_reducible exact LeO.none _)
   | (with_reducible refine LeO.ite ?_ ?_)
   | (with_reducible refine LeO.bind ?_ (fun _ => ?_))
   | exact ih0 _ _
   | exact ih1 _ _
   | exact LeO.none _
   | refine LeO.ite ?_ ?_
   | refine LeO.bind ?_ (fun _ => ?_)
theorem feature_lettered.mono : ∀ a0 k, LeO (feature_lettered.f k a0) (feature_lettered.f (k + 1) a0) := by
 intro a0 k
 obtain ⟨ih0, ih1⟩ := feature_lettered.mono_l k
 unfold feature_lettered.f
 repeat' first
   | (with_reducible exact ih0 _ _)
   | (with_reducible exact ih1 _ _)
   | (with_reducible exact LeO.refl _)
   | (with_reducible exact LeO.none _)
   | (with_reducible refine LeO.ite ?_ ?_)
   | (with_reducible refine LeO.bind ?_ (fun _ => ?_))
   | exact ih0 _ _
   | exact ih1 _ _
   | exact LeO.none _
   | refine LeO.ite ?_ ?_
   | refine LeO.bind ?_ (fun _ => ?_)
set_option maxHeartbeats 8000000 in
set_option maxRecDepth 100000 in
theorem feature_lettered.calls (k : Nat) (a0 : Int) (r : Bool) (w : World) (h : feature_lettered.f k a0 = some r) :
  Calls Tryd.prog 60 #[.int .i32 a0] w fun e w' => e = .returned (.bool r) ∧ Drawn0 w w' := by
 have H : (if 97 ≤ a0 then (feature_lettered.j0 k a0 (decide (a0 ≤ 122))) else (feature_lettered.j0 k a0 false)) = some r := h
 clear h
 have HC2 := Aside0.mk H
 clear H
 go_enter Tryd.func60, Tryd.ntmps60
 go_upto_region 1 with (fail)
 go_cut [3] (fun v3 wc => ∃ (kq : Nat) (x3_1 : Bool), v3 = .bool x3_1 ∧ Aside0 (feature_lettered.j0 kq a0 x3_1 = some r) ∧ Aside0 (kq ≤ k) ∧ Drawn0 w wc)
 case first =>
  have H := HC2.out
  clear HC2
  by_cases c3 : 97 ≤ a0
  ·rw [if_pos c3] at H
   have c3b0 : decide (97 ≤ a0) = true := decide_eq_true c3
   clear c3
   (first | rw [c3b0] | (simp only [i64_w, i32_w]; rw [c3b0]) | skip)
   have H' := Aside0.mk H
   clear H
   go_wp2
   go_meet
   case rel => exact ⟨_, (decide (a0 ≤ 122)), (by first | rfl | (simp; done) | (simp [*]; done)), H', ⟨by first | omega | exact Nat.le_refl _⟩, by repeat (first | exact Drawn0.refl _ | apply Drawn0.step)⟩
  ·rw [if_neg c3] at H
   have c3b0 : decide (97 ≤ a0) = false := decide_eq_false c3
   clear c3
   (first | rw [c3b0] | (simp only [i64_w, i32_w]; rw [c3b0]) | skip)
   have H' := Aside0.mk H
   clear H
   go_wp2
   go_meet
   case rel => exact ⟨_, (false), (by first | rfl | (simp; done) | (simp [*]; done)), H', ⟨by first | omega | exact Nat.le_refl _⟩, by repeat (first | exact Drawn0.refl _ | apply Drawn0.step)⟩
 case rest =>
  clear HC2
  try clear p2
  try clear c3
  try clear c3b0
  obtain ⟨kq, x3_1, rfl, HA, HJ1, ⟨mc1, rfl⟩⟩ := hcut
  cases kq with
  | zero => exact absurd HA.out (by simp [feature_lettered.j0])
  | succ kj1 =>
   have H := HA.out
   clear HA
   simp only [feature_lettered.j0] at H
   have HC4 := Aside0.mk H
   clear H
   go_upto_if 3 with (fail)
   go_cut [3] (fun v3 wc => ∃ (kq : Nat) (x3_3 : Bool), v3 = .bool x3_3 ∧ Aside0 (feature_lettered.j1 kq a0 x3_3 = some r) ∧ Aside0 (kq ≤ kj1) ∧ Drawn0 w wc)
   case first =>
    have H := HC4.out
    clear HC4
    by_cases c5 : x3_1 = true
    ·subst c5
     have H1 : (feature_lettered.j1 kj1 a0 true) = some r := by rw [if_pos rfl] at H; exact H
     clear H
     have H := H1
     clear H1
     have H' := Aside0.mk H
     clear H
     go_wp2
     go_meet
     case rel => exact ⟨_, (true), (by first | rfl | (simp; done) | (simp [*]; done)), H', ⟨by have := HJ1.out; first | omega | exact Nat.le_refl _⟩, by repeat (first | exact Drawn0.refl _ | apply Drawn0.step)⟩
    ·replace c5 := Bool.eq_false_iff.mpr c5
     subst c5
     have H1 : (if 65 ≤ a0 then (feature_lettered.j1 kj1 a0 (decide (a0 ≤ 90))) else (feature_lettered.j1 kj1 a0 false)) = some r := by rw [if_neg (show ¬ (false = true) by decide)] at H; exact H
     clear H
     have H := H1
     clear H1
     by_cases c6 : 65 ≤ a0
     ·rw [if_pos c6] at H
      have c6b0 : decide (65 ≤ a0) = true := decide_eq_true c6
      clear c6
      (first | rw [c6b0] | (simp only [i64_w, i32_w]; rw [c6b0]) | skip)
      have H' := Aside0.mk H
      clear H
      go_wp2
      go_meet
      case rel => exact ⟨_, (decide (a0 ≤ 90)), (by first | rfl | (simp; done) | (simp [*]; done)), H', ⟨by have := HJ1.out; first | omega | exact Nat.le_refl _⟩, by repeat (first | exact Drawn0.refl _ | apply Drawn0.step)⟩
     ·rw [if_neg c6] at H
      have c6b0 : decide (65 ≤ a0) = false := decide_eq_false c6
      clear c6
      (first | rw [c6b0] | (simp only [i64_w, i32_w]; rw [c6b0]) | skip)
      have H' := Aside0.mk H
      clear H
      go_wp2
      go_meet
      case rel => exact ⟨_, (false), (by first | rfl | (simp; done) | (simp [*]; done)), H', ⟨by have := HJ1.out; first | omega | exact Nat.le_refl _⟩, by repeat (first | exact Drawn0.refl _ | apply Drawn0.step)⟩
   case rest =>
    clear HC4
    try clear c1
    try clear p2
    try clear c3
    try clear c3b0
    try clear c5
    try clear c6
    try clear c6b0
    try clear p2
    obtain ⟨kq, x3_3, rfl, HA, HJ3, ⟨mc3, rfl⟩⟩ := hcut
    cases kq with
    | zero => exact absurd HA.out (by simp [feature_lettered.j1])
    | succ kj3 =>
     have H := HA.out
     clear HA
     simp only [feature_lettered.j1] at H
     by_cases c7 : x3_3 = true
     ·subst c7
      have H1 : (some true) = some r := by rw [if_pos rfl] at H; exact H
      clear H
      have H := H1
      clear H1
      obtain rfl := Option.some.inj H
      go_wp2
      go_ret
      exact ⟨by first | rfl | (simp; done) | (simp [*]; done), by repeat (first | exact Drawn0.refl _ | apply Drawn0.step)⟩
     ·replace c7 := Bool.eq_false_iff.mpr c7
      subst c7
      have H1 : (if a0 < 161 then (some false) else (if a0 > 1114111 then (some false) else (if a0 = 65533 then (some false) else (if (a0 / 2048) = 27 then (some false) else (some true))))) = some r := by rw [if_neg (show ¬ (false = true) by decide)] at H; exact H
      clear H
      have H := H1
      clear H1
      by_cases c8 : a0 < 161
      ·rw [if_pos c8] at H
       have c8b0 : decide (a0 < 161) = true := decide_eq_true c8
       clear c8
       obtain rfl := Option.some.inj H
       go_wp2
       go_ret
       exact ⟨by first | rfl | (simp; done) | (simp [*]; done), by repeat (first | exact Drawn0.refl _ | apply Drawn0.step)⟩
      ·rw [if_neg c8] at H
       have c8b0 : decide (a0 < 161) = false := decide_eq_false c8
       clear c8
       by_cases c9 : a0 > 1114111
       ·rw [if_pos c9] at H
        have c9b0 : decide (1114111 < a0) = true := decide_eq_true c9
        clear c9
        obtain rfl := Option.some.inj H
        go_wp2
        go_ret
        exact ⟨by first | rfl | (simp; done) | (simp [*]; done), by repeat (first | exact Drawn0.refl _ | apply Drawn0.step)⟩
       ·rw [if_neg c9] at H
        have c9b0 : decide (1114111 < a0) = false := decide_eq_false c9
        clear c9
        by_cases c10 : a0 = 65533
        ·rw [if_pos c10] at H
         have c10b0 : (a0 == 65533) = true := beq_iff_eq.mpr c10
         have c10b1 : (a0 != 65533) = false := bne_eq_false_iff_eq.mpr c10
         clear c10
         obtain rfl := Option.some.inj H
         go_wp2
         go_ret
         exact ⟨by first | rfl | (simp; done) | (simp [*]; done), by repeat (first | exact Drawn0.refl _ | apply Drawn0.step)⟩
        ·rw [if_neg c10] at H
         have c10b0 : (a0 == 65533) = false := beq_eq_false_iff_ne.mpr c10
         have c10b1 : (a0 != 65533) = true := bne_iff_ne.mpr c10
         by_cases c11 : (a0 / 2048) = 27
         ·rw [if_pos c11] at H
          have c11b0 : ((a0 / 2048) == 27) = true := beq_iff_eq.mpr c11
          have c11b1 : ((a0 / 2048) != 27) = false := bne_eq_false_iff_eq.mpr c11
          clear c11
          obtain rfl := Option.some.inj H
          go_wp2
          go_ret
          exact ⟨by first | rfl | (simp; done) | (simp [*]; done), by repeat (first | exact Drawn0.refl _ | apply Drawn0.step)⟩
         ·rw [if_neg c11] at H
          have c11b0 : ((a0 / 2048) == 27) = false := beq_eq_false_iff_ne.mpr c11
          have c11b1 : ((a0 / 2048) != 27) = true := bne_iff_ne.mpr c11
          obtain rfl := Option.some.inj H
          go_wp2
          go_ret
          exact ⟨by first | rfl | (simp; done) | (simp [*]; done), by repeat (first | exact Drawn0.refl _ | apply Drawn0.step)⟩
end Go.Proofs.YtplkoabikliagaaDoor.K
namespace Go.Proofs.YtplkoabikliagaaDoor.K
open Go.RowKit Go.Proofs.YtplkoabikliagaaDoorW.PrintWords Go.Proofs.YtplkoabikliagaaDoorW.PrintLast Go.Proofs.YtplkoabikliagaaDoorW.PrintMore
attribute [local go_sem] max2_int min2_int max_two min_two max_three min_three max_four min_four
set_option linter.unusedVariables false
set_option linter.unusedSimpArgs false
def feature_within.f (l0_0 : List ByteArray) (l0_1 : List (S99)) (a1 : Int) (a2 : Int) : Option (Bool) := if (shr .u32 (Go.bits .or .u32 a1 a2) (l0_0.length : Int)) = 0 then (some ((Go.bits .and .u32 a1 a2) == 0)) else (some false)
set_option maxHeartbeats 8000000 in
set_option maxRecDepth 100000 in
theorem feature_within.calls (A0_0 : Option Addr) (c0_0 : Nat) (l0_0 : List ByteArray) (A0_1 : Option Addr) (c0_1 : Nat) (l0_1 : List (S99)) (a1 : Int) (a2 : Int) (r : Bool) (w : World) (hr0_0 : Kd.C Kd.string w A0_0 l0_0.length l0_0) (hc0_0 : l0_0.length ≤ c0_0) (hr0_1 : Kd.C k99 w A0_1 l0_1.length l0_1) (hc0_1 : l0_1.length ≤ c0_1) (h : feature_within.f l0_0 l0_1 a1 a2 = some r) :
  Calls Tryd.prog 61 #[.agg #[.slice A0_0 l0_0.length c0_0, .slice A0_1 l0_1.length c0_1], .int .u32 a1, .int .u32 a2] w fun e w' => e = .returned (.bool r) ∧ Below w.heap.size w w' := by
 have hu25 := Tryd.underlying25
 have HR0_0 := Aside0.mk hr0_0
 have HC0_0 := Aside0.mk hc0_0
 clear hr0_0 hc0_0
 have HR0_1 := Aside0.mk hr0_1
 have HC0_1 := Aside0.mk hc0_1
 clear hr0_1 hc0_1
 have HB := Aside0.mk (Below.refl w.heap.size w)
 have H : (if (shr .u32 (Go.bits .or .u32 a1 a2) (l0_0.length : Int)) = 0 then (some ((Go.bits .and .u32 a1 a2) == 0)) else (some false)) = some r := h
 clear h
 obtain ⟨ji4, hji4⟩ : ∃ j_ : Int, (shr .u32 (Go.bits .or .u32 a1 a2) (l0_0.length : Int)) = j_ := ⟨_, rfl⟩
 replace H : (if (ji4) = 0 then (some ((Go.bits .and .u32 a1 a2) == 0)) else (some false)) = some r := by first | (rw [hji4] at H; exact H) | (simp only [hji4] at H ⊢; exact H)
 have hji4_ : ((Go.bits .or .u32 a1 a2) / 2 ^ min (l0_0.length : Int).toNat 32) = ji4 := hji4
 have hji4z : (l0_0.length : Int) ≤ 32 → ((Go.bits .or .u32 a1 a2) / 2 ^ (l0_0.length : Int).toNat) = ji4 := shr_small hji4
 have hji4p : ((Go.bits .or .u32 a1 a2) / 2 ^ min l0_0.length 32) = ji4 := hji4_
 have hji4q : (l0_0.length : Int) ≤ 32 → ((Go.bits .or .u32 a1 a2) / 2 ^ l0_0.length) = ji4 := hji4z
 by_cases c5 : (ji4) = 0
 ·rw [if_pos c5] at H
  have c5b0 : ((ji4) == 0) = true := beq_iff_eq.mpr c5
  have c5b1 : ((ji4) != 0) = false := bne_eq_false_iff_eq.mpr c5
  clear c5
  obtain rfl := Option.some.inj H
  go_enter Tryd.func61, Tryd.ntmps61
  go_wp2_with (first | ((with_reducible refine gate_dst (N := 3) rfl ?_); refine box_event ?hg (N := 3) ?hd (cs := #[.slice A0_0 l0_0.length c0_0, .slice A0_1 l0_1.length c0_1]) (t := 25) ?hr ?_; (case hd => rfl); (case hg => rfl); (case hr => first | (go_simp; done) | (go_simp; rfl)); intro gb103 hg w6 hbox hb; have n0_ := Aside0.mk (below_step (by repeat (first | (with_reducible first | exact HB.out | apply below_alloc | apply pw_below_drewN | apply below_drew1) | exact HB.out)) hb); have n1_ := Aside0.mk (hbox); have n2_ := Aside0.mk ((by rw [hg]; exact (below_size (by repeat (first | (with_reducible first | exact HB.out | apply below_alloc | apply pw_below_drewN | apply below_drew1) | exact HB.out))) : w.heap.size ≤ gb103)); have n3_ := Aside0.mk ((by rw [hg]; exact (below_size (by repeat (first | (with_reducible first | exact HB.out | apply below_alloc | apply pw_below_drewN | apply below_drew1) | exact HB.out))) : w.heap.size ≤ gb103)); clear HB; have HB := n0_; have BK103 := n1_; have GW103 := n2_; have GE103 := n3_; clear n0_ n1_ n2_ n3_; clear hb hbox hg; have hcz7_0 : w6.cell? ⟨gb103, 0, none⟩ = some (.slice A0_0 l0_0.length c0_0) := (blk_cell BK103.out 0).trans rfl; have hcz7_1 : w6.cell? ⟨gb103, 1, none⟩ = some (.slice A0_1 l0_1.length c0_1) := (blk_cell BK103.out 1).trans rfl; have hfz7_0 := blk_frozen BK103.out 0; have hfz7_1 := blk_frozen BK103.out 1))
  go_ret
  exact ⟨by first | rfl | (simp [errW_none, errW_some] <;> rfl) | (simp only [← hji4]; first | rfl | (simp [errW_none, errW_some] <;> rfl)) | (simp [*, errW_none, errW_some] <;> rfl), by repeat (first | (with_reducible first | exact HB.out | apply below_alloc | apply pw_below_drewN | apply below_drew1 | refine below_set ?_ GE103.out) | exact HB.out)⟩
 ·rw [if_neg c5] at H
  have c5b0 : ((ji4) == 0) = false := beq_eq_false_iff_ne.mpr c5
  have c5b1 : ((ji4) != 0) = true := bne_iff_ne.mpr c5
  obtain rfl := Option.some.inj H
  go_enter Tryd.func61, Tryd.ntmps61
  go_wp2_with (first | ((with_reducible refine gate_dst (N := 3) rfl ?_); refine box_event ?hg (N := 3) ?hd (cs := #[.slice A0_0 l0_0.length c0_0, .slice A0_1 l0_1.length c0_1]) (t := 25) ?hr ?_; (case hd => rfl); (case hg => rfl); (case hr => first | (go_simp; done) | (go_simp; rfl)); intro gb103 hg w8 hbox hb; have n0_ := Aside0.mk (below_step (by repeat (first | (with_reducible first | exact HB.out | apply below_alloc | apply pw_below_drewN | apply below_drew1) | exact HB.out)) hb); have n1_ := Aside0.mk (hbox); have n2_ := Aside0.mk ((by rw [hg]; exact (below_size (by repeat (first | (with_reducible first | exact HB.out | apply below_alloc | apply pw_below_drewN | apply below_drew1) | exact HB.out))) : w.heap.size ≤ gb103)); have n3_ := Aside0.mk ((by rw [hg]; exact (below_size (by repeat (first | (with_reducible first | exact HB.out | apply below_alloc | apply pw_below_drewN | apply below_drew1) | exact HB.out))) : w.heap.size ≤ gb103)); clear HB; have HB := n0_; have BK103 := n1_; have GW103 := n2_; have GE103 := n3_; clear n0_ n1_ n2_ n3_; clear hb hbox hg; have hcz9_0 : w8.cell? ⟨gb103, 0, none⟩ = some (.slice A0_0 l0_0.length c0_0) := (blk_cell BK103.out 0).trans rfl; have hcz9_1 : w8.cell? ⟨gb103, 1, none⟩ = some (.slice A0_1 l0_1.length c0_1) := (blk_cell BK103.out 1).trans rfl; have hfz9_0 := blk_frozen BK103.out 0; have hfz9_1 := blk_frozen BK103.out 1))
  go_ret
  exact ⟨by first | rfl | (simp [errW_none, errW_some] <;> rfl) | (simp only [← hji4]; first | rfl | (simp [errW_none, errW_some] <;> rfl)) | (simp [*, errW_none, errW_some] <;> rfl), by repeat (first | (with_reducible first | exact HB.out | apply below_alloc | apply pw_below_drewN | apply below_drew1 | refine below_set ?_ GE103.out) | exact HB.out)⟩
end Go.Proofs.YtplkoabikliagaaDoor.K
namespace Go.Proofs.YtplkoabikliagaaDoor.K
open Go.RowKit Go.Proofs.YtplkoabikliagaaDoorW.PrintWords Go.Proofs.YtplkoabikliagaaDoorW.PrintLast Go.Proofs.YtplkoabikliagaaDoorW.PrintMore
open Go.Proofs.YtplkoabikliagaaDoor.L
def featNames : List ByteArray → List ByteArray → Option Bool
 | _, [] => some true
 | seen, f :: r => (feature_named.f f).bind fun b => if b = true then (if memB seen f = true then some false else featNames (seen ++ [f]) r) else some false
def featLetters (fs : List ByteArray) (all : List S99) : List Int → List S99 → Option Bool
 | _, [] => some true
 | seen, x :: r => (feature_lettered.f 3 x.f0).bind fun b => if b = true then (if memB seen x.f0 = true then some false else (feature_within.f fs all x.f1 x.f2).bind fun c => if c = true then featLetters fs all (seen ++ [x.f0]) r else some false) else some false
def feature_Check.f (l0_0 : List ByteArray) (l0_1 : List S99) : Option (Int) :=
 if l0_0.length > 24 then some 7 else if l0_1.length < 1 then some 7 else if l0_1.length > 128 then some 7 else
  (featNames [] l0_0).bind fun b => if b = true then (featLetters l0_0 l0_1 [] l0_1).bind fun c => if c = true then some 0 else some 7 else some 7
theorem zero_bool (w : World) : (zeroValue 4).run Tryd.prog w = .ok (.bool false) w := by kernel_rfl
theorem kstr : KeyK Tryd.prog 9 Value.string := key_string Tryd.underlying9
theorem krune : KeyK Tryd.prog 21 (Value.int .i32) := key_int .i32 Tryd.underlying21
set_option maxHeartbeats 8000000 in
set_option maxRecDepth 100000 in
theorem feature_Check.calls (A0_0 : Option Addr) (c0_0 : Nat) (l0_0 : List ByteArray) (A0_1 : Option Addr) (c0_1 : Nat) (l0_1 : List S99) (r : Int) (w : World) (hr0_0 : Kd.C Kd.string w A0_0 l0_0.length l0_0) (hc0_0 : l0_0.length ≤ c0_0) (hr0_1 : Kd.C k99 w A0_1 l0_1.length l0_1) (hc0_1 : l0_1.length ≤ c0_1) (h : feature_Check.f l0_0 l0_1 = some r) :
  Calls Tryd.prog 43 #[.agg #[.slice A0_0 l0_0.length c0_0, .slice A0_1 l0_1.length c0_1]] w fun e w' => e = .returned (.int .i64 r) ∧ Below w.heap.size w w' := by
 have HR0 := Aside0.mk hr0_0
 have HR1 := Aside0.mk hr0_1
 clear hr0_0 hr0_1
 have hu25 := Tryd.underlying25
 unfold feature_Check.f at h
 by_cases h1 : l0_0.length > 24
 ·rw [if_pos h1] at h
  obtain rfl := Option.some.inj h
  have hd : decide (24 < l0_0.length) = true := decide_eq_true h1
  go_enter Tryd.func43, Tryd.ntmps43
  go_wp2
  go_ret
  exact ⟨rfl, (Below.refl _ _).alloc (Nat.le_refl _) _⟩
 rw [if_neg h1] at h
 have hd1 : decide (24 < l0_0.length) = false := decide_eq_false h1
 by_cases h2 : l0_1.length < 1
 ·rw [if_pos h2] at h
  obtain rfl := Option.some.inj h
  have hd : decide (l0_1.length < 1) = true := decide_eq_true h2
  go_enter Tryd.func43, Tryd.ntmps43
  go_wp2
  go_ret
  exact ⟨rfl, (Below.refl _ _).alloc (Nat.le_refl _) _⟩
 rw [if_neg h2] at h
 have hd2 : decide (l0_1.length < 1) = false := decide_eq_false h2
 by_cases h3 : l0_1.length > 128
 ·rw [if_pos h3] at h
  obtain rfl := Option.some.inj h
  have hd : decide (128 < l0_1.length) = true := decide_eq_true h3
  go_enter Tryd.func43, Tryd.ntmps43
  go_wp2
  go_ret
  exact ⟨rfl, (Below.refl _ _).alloc (Nat.le_refl _) _⟩
 rw [if_neg h3] at h
 have hd3 : decide (128 < l0_1.length) = false := decide_eq_false h3
 have H := Aside0.mk h
 clear h
 have hmm := @run_makeMap Tryd.prog
 have hn1 : l0_0.length ≤ 24 := by omega
 have hn2 : l0_1.length ≤ 128 := by omega
 have hn3 : 1 ≤ l0_1.length := by omega
 clear hd1 hd2 hd3 h1 h2 h3
 obtain ⟨b, hb⟩ : ∃ b, featNames [] l0_0 = some b := by
  have h' := H.out
  cases hb : featNames [] l0_0 with
  | none => rw [hb] at h'; simp at h'
  | some b => exact ⟨b, rfl⟩
 have HN := Aside0.mk hb
 clear hb
 have HR7 := Aside0.mk (show b = false → r = 7 from by
  intro hb'
  have h' := H.out
  rw [HN.out, hb'] at h'
  simp at h'
  exact h'.symm)
 go_enter Tryd.func43, Tryd.ntmps43
 go_wp2
 go_loopw [29] (fun i wr => ∃ k : Nat, ∃ seen : List ByteArray, k ≤ l0_0.length ∧ i = .int .i64 k ∧ Aside0 (MpAt Value.string Value.bool wr (w.heap.size + 1) (setOf true seen)) ∧ Aside0 (Below (w.heap.size + 1) (w.alloc (.cells #[.slice A0_0 l0_0.length c0_0, .slice A0_1 l0_1.length c0_1] 25)) wr) ∧ Aside0 (featNames seen (l0_0.drop k) = some b)) (fun i _ => l0_0.length - (intOf i).toNat)
 case atStart =>
  refine ⟨0, [], Nat.zero_le _, rfl, ⟨?_⟩, ⟨?_⟩, ⟨by simpa using HN.out⟩⟩
  ·have := MpAt.made Value.string Value.bool (w.alloc (.cells #[.slice A0_0 l0_0.length c0_0, .slice A0_1 l0_1.length c0_1] 25))
   simpa [setOf] using this
  ·exact (Below.refl _ _).alloc (by simp) _
 case round =>
  obtain ⟨k, seen, hk, rfl, HM, HBW, HF⟩ := hrel
  have hbw := HBW.out
  have hbox : wr.cell? ⟨w.heap.size, 0, none⟩ = some (.slice A0_0 l0_0.length c0_0) := by
   rw [hbw.cell (by simp)]; simp
  have hbox1 : wr.cell? ⟨w.heap.size, 1, none⟩ = some (.slice A0_1 l0_1.length c0_1) := by
   rw [hbw.cell (by simp)]; simp
  have hb0 : Below w.heap.size w wr := (Below.refl w.heap.size w).alloc (Nat.le_refl _) _ |>.trans (hbw.mono (by omega))
  have hsz : w.heap.size + 1 ≤ wr.heap.size := by have := hbw.size; simpa using this
  by_cases hlt : k < l0_0.length
  ·obtain ⟨ad, hA, hcell⟩ := Kd.at_string (Kd.C_below HR0.out hb0) (k : Int) (by omega) (by omega)
   subst hA
   rw [Int.toNat_natCast] at hcell
   obtain ⟨s, hs⟩ : ∃ s, s = rdOf ByteArray.empty l0_0 (k : Int) := ⟨_, rfl⟩
   rw [← hs] at hcell
   have hcons : l0_0.drop k = s :: l0_0.drop (k + 1) := by
    rw [hs, List.drop_eq_getElem_cons hlt]
    simp [rdOf, List.getD_eq_getElem?_getD, hlt]
   have hF := HF.out
   rw [hcons] at hF
   unfold featNames at hF
   clear HF hs hcons
   have HB := Aside0.mk hbw
   have HB0 := Aside0.mk hb0
   clear hbw HBW hb0
   cases hfn : feature_named.f s with
   | none => rw [hfn] at hF; simp at hF
   | some q =>
    rw [hfn] at hF
    have HFN := Aside0.mk hfn
    clear hfn
    have HF2 := Aside0.mk hF
    clear hF
    cases q with
    | false =>
     go_wp2_with (go_at_call 59; refine (feature_named.calls s false _ HFN.out).mono ?_; rintro e w1 ⟨rfl, hb1⟩; have HB1 := Aside0.mk hb1; clear hb1)
     go_ret
     have hq : b = false := by have := HF2.out; simp at this; exact this
     refine ⟨by rw [HR7.out hq]; rfl, HB0.out.trans (HB1.out.mono (by omega))⟩
    | true =>
     go_wp2_with (first | (go_at_call 59; refine (feature_named.calls s true _ HFN.out).mono ?_; rintro e w1 ⟨rfl, hb1⟩; have HB1 := Aside0.mk hb1; clear hb1) | (at_lookup; refine wpl_look kstr Tryd.underlying132 false (zero_bool _) (HM.out.below HB1.out) s rfl _ _ false rfl rfl rfl ?_) | (at_mapUpdate; refine wpl_put kstr Tryd.underlying132 (HM.out.below HB1.out) s true rfl _ _ _ rfl rfl rfl rfl ?_; intro w2 hm2 hg2 hz2; have HM2 := Aside0.mk hm2; have HG2 := Aside0.mk hg2; clear hm2 hg2))
     ·go_ret
      have hm : mget (setOf true seen) s false = true := by assumption
      rw [mget_set] at hm
      have hq : b = false := by have := HF2.out; simp [hm] at this; exact this
      refine ⟨by rw [HR7.out hq]; rfl, HB0.out.trans (HB1.out.mono (by omega))⟩
     ·have hm : mget (setOf true seen) s false = false := by assumption
      rw [mget_set] at hm
      have h1s := HB1.out.size
      go_roundw
      case rel =>
       refine ⟨k + 1, seen ++ [s], by omega, by go_num, ⟨?_⟩, ⟨?_⟩, ⟨?_⟩⟩
       ·have := HM2.out
        rwa [mput_set _ _ _ hm] at this
       ·exact (HB.out.trans (HB1.out.mono (by omega))).grown HG2.out (by omega) (fun j hj => by cases hj; exact Nat.le_refl _)
       ·have := HF2.out
        simpa [hm] using this
      case measure => simp [intOf]; omega
  ·have hke : k = l0_0.length := by omega
   have hFb := HF.out
   rw [hke] at hFb
   simp [featNames] at hFb
   subst hFb
   obtain ⟨c, hc⟩ : ∃ c, featLetters l0_0 l0_1 [] l0_1 = some c := by
    have h' := H.out
    rw [HN.out] at h'
    cases hb : featLetters l0_0 l0_1 [] l0_1 with
    | none => rw [hb] at h'; simp at h'
    | some c => exact ⟨c, rfl⟩
   have hrc : r = if c = true then 0 else 7 := by
    have h' := H.out
    rw [HN.out] at h'
    simp only [Option.bind_some, if_true] at h'
    rw [hc] at h'
    cases c <;> simp at h' <;> simp [h']
   have HC := Aside0.mk hc
   have HRC := Aside0.mk hrc
   have HB0 := Aside0.mk hb0
   clear hc hrc hb0 hbw HBW HF HM HN HR7 H hke
   obtain ⟨wo, rfl⟩ : ∃ wo : World, wo = wr := ⟨_, rfl⟩
   have hbox1' : ∀ o, (wo.alloc o).cell? ⟨w.heap.size, 1, none⟩ = some (.slice A0_1 l0_1.length c0_1) := fun o => by
    rw [World.cell?_of_block (w := wo) (Below.heap_alloc _ _ _ (by simp; omega))]; exact hbox1
   go_wp2
   go_loopw [48] (fun i wr => ∃ k : Nat, ∃ seen : List Int, k ≤ l0_1.length ∧ i = .int .i64 k ∧ Aside0 (MpAt (Value.int .i32) Value.bool wr wo.heap.size (setOf true seen)) ∧ Aside0 (Below wo.heap.size wo wr) ∧ Aside0 (featLetters l0_0 l0_1 seen (l0_1.drop k) = some c)) (fun i _ => l0_1.length - (intOf i).toNat)
   case atStart =>
    refine ⟨0, [], Nat.zero_le _, rfl, ⟨?_⟩, ⟨?_⟩, ⟨by simpa using HC.out⟩⟩
    ·exact MpAt.made (Value.int .i32) Value.bool wo
    ·exact (Below.refl _ _).alloc (by simp) _
   case round =>
    obtain ⟨k2, seen2, hk2, rfl, HM, HBW, HF⟩ := hrel
    have hbw := HBW.out
    have hs2 : wo.heap.size ≤ wr.heap.size := hbw.size
    have hs3 : wo.heap.size < wr.heap.size := HM.out.lt
    by_cases hlt : k2 < l0_1.length
    ·obtain ⟨ad, hA, hc0, hc1, hc2⟩ := at_T99 (Kd.C_below HR1.out (HB0.out.trans (hbw.mono (by omega)))) (k2 : Int) (by omega) (by omega)
     subst hA
     rw [Int.toNat_natCast] at hc0 hc1 hc2
     obtain ⟨x, hx⟩ : ∃ x, x = rd_T99 l0_1 (k2 : Int) := ⟨_, rfl⟩
     rw [← hx] at hc0 hc1 hc2
     have hcons : l0_1.drop k2 = x :: l0_1.drop (k2 + 1) := by
      rw [hx, List.drop_eq_getElem_cons hlt]
      simp [rd_T99, List.getD_eq_getElem?_getD, hlt]
     have hF := HF.out
     rw [hcons] at hF
     unfold featLetters at hF
     clear HF hx hcons
     have HB := Aside0.mk hbw
     clear HBW
     cases hfn : feature_lettered.f 3 x.f0 with
     | none => rw [hfn] at hF; simp at hF
     | some q =>
      rw [hfn] at hF
      have HFN := Aside0.mk hfn
      clear hfn
      have HF2 := Aside0.mk hF
      clear hF
      have hboxA : ∀ o, (wr.alloc o).cell? ⟨w.heap.size, 0, none⟩ = some (.slice A0_0 l0_0.length c0_0) := fun o => by
       rw [World.cell?_of_block (w := wr) (Below.heap_alloc _ _ _ (by simp; omega)), hbw.cell (by simp; omega)]; exact hbox
      have hboxB : ∀ o, (wr.alloc o).cell? ⟨w.heap.size, 1, none⟩ = some (.slice (some ad) l0_1.length c0_1) := fun o => by
       rw [World.cell?_of_block (w := wr) (Below.heap_alloc _ _ _ (by simp; omega)), hbw.cell (by simp; omega)]; exact hbox1
      have HBE := Aside0.mk (fun (o : Obj) => show Below w.heap.size w (wr.alloc o) from (HB0.out.trans (hbw.mono (by omega))).alloc (by omega) o)
      have HRA := Aside0.mk (fun (o : Obj) (m : Nat) => show Kd.C Kd.string ((wr.alloc o).drewN m) A0_0 l0_0.length l0_0 from Kd.C_below HR0.out ⟨(HBE.out o).os, (HBE.out o).tape, (HBE.out o).output, (HBE.out o).size, (HBE.out o).block⟩)
      have HRB := Aside0.mk (fun (o : Obj) (m : Nat) => show Kd.C k99 ((wr.alloc o).drewN m) (some ad) l0_1.length l0_1 from Kd.C_below HR1.out ⟨(HBE.out o).os, (HBE.out o).tape, (HBE.out o).output, (HBE.out o).size, (HBE.out o).block⟩)
      clear hbw
      cases q with
      | false =>
       go_wp2_with (go_at_call 60; refine (feature_lettered.calls 3 x.f0 false _ HFN.out).mono ?_; rintro e w3 ⟨rfl, ⟨m, rfl⟩⟩)
       go_ret
       have hq : c = false := by have := HF2.out; simp at this; exact this
       refine ⟨by rw [HRC.out, hq]; rfl, ?_⟩
       have hE := HBE.out (.cells #[.int .i32 x.f0, .int .u32 x.f1, .int .u32 x.f2] 99)
       exact ⟨hE.os, hE.tape, hE.output, hE.size, hE.block⟩
      | true =>
       by_cases hmem : memB seen2 x.f0 = true
       ·have hg : mget (setOf true seen2) x.f0 false = true := by rw [mget_set]; exact hmem
        have HME := Aside0.mk hmem
        clear hmem
        go_wp2_with (first | (go_at_call 60; refine (feature_lettered.calls 3 x.f0 true _ HFN.out).mono ?_; rintro e w3 ⟨rfl, ⟨m, rfl⟩⟩) | (at_lookup; refine wpl_look krune Tryd.underlying134 false (zero_bool _) ((HM.out.alloc _).drewN m) x.f0 rfl _ _ false rfl rfl rfl ?_))
        go_ret
        have hq : c = false := by have := HF2.out; simp [HME.out] at this; exact this
        refine ⟨by rw [HRC.out, hq]; rfl, ?_⟩
        have hE := HBE.out (.cells #[.int .i32 x.f0, .int .u32 x.f1, .int .u32 x.f2] 99)
        exact ⟨hE.os, hE.tape, hE.output, hE.size, hE.block⟩
       ·have hm : memB seen2 x.f0 = false := by simpa using hmem
        have hg : mget (setOf true seen2) x.f0 false = false := by rw [mget_set]; exact hm
        have HME := Aside0.mk hm
        clear hmem hm
        cases hw : feature_within.f l0_0 l0_1 x.f1 x.f2 with
        | none => have := HF2.out; simp [HME.out, hw] at this
        | some q2 =>
         have HF3 := Aside0.mk (show (if q2 = true then featLetters l0_0 l0_1 (seen2 ++ [x.f0]) (l0_1.drop (k2 + 1)) else some false) = some c by
          have := HF2.out
          simpa [HME.out, hw] using this)
         have HW := Aside0.mk hw
         clear hw HF2
         cases q2 with
         | false =>
          go_wp2_with (first | (go_at_call 60; refine (feature_lettered.calls 3 x.f0 true _ HFN.out).mono ?_; rintro e w3 ⟨rfl, ⟨m, rfl⟩⟩) | (at_lookup; refine wpl_look krune Tryd.underlying134 false (zero_bool _) ((HM.out.alloc _).drewN m) x.f0 rfl _ _ false rfl rfl rfl ?_) | (go_at_call 61; refine (feature_within.calls _ _ _ _ _ _ _ _ false _ (HRA.out _ _) hc0_0 (HRB.out _ _) hc0_1 HW.out).mono ?_; rintro e w4 ⟨rfl, hb4⟩; have HB4 := Aside0.mk hb4; have hl4 : w4.cell? ⟨wr.heap.size, 0, none⟩ = some (.int .i32 x.f0) := (hb4.cell (by simp [World.drewN])).trans (by simp); clear hb4))
          go_ret
          have hq : c = false := by have := HF3.out; simp at this; exact this
          refine ⟨by rw [HRC.out, hq]; rfl, ?_⟩
          have hE := HBE.out (.cells #[.int .i32 x.f0, .int .u32 x.f1, .int .u32 x.f2] 99)
          have hE2 : Below w.heap.size w ((wr.alloc (.cells #[.int .i32 x.f0, .int .u32 x.f1, .int .u32 x.f2] 99)).drewN m) := ⟨hE.os, hE.tape, hE.output, hE.size, hE.block⟩
          exact hE2.trans (HB4.out.mono (by have := hE2.size; simpa using this))
         | true =>
          go_wp2_with (first | (go_at_call 60; refine (feature_lettered.calls 3 x.f0 true _ HFN.out).mono ?_; rintro e w3 ⟨rfl, ⟨m, rfl⟩⟩) | (at_lookup; refine wpl_look krune Tryd.underlying134 false (zero_bool _) ((HM.out.alloc _).drewN m) x.f0 rfl _ _ false rfl rfl rfl ?_) | (go_at_call 61; refine (feature_within.calls _ _ _ _ _ _ _ _ true _ (HRA.out _ _) hc0_0 (HRB.out _ _) hc0_1 HW.out).mono ?_; rintro e w4 ⟨rfl, hb4⟩; have HB4 := Aside0.mk hb4; have hl4 : w4.cell? ⟨wr.heap.size, 0, none⟩ = some (.int .i32 x.f0) := (hb4.cell (by simp [World.drewN])).trans (by simp); clear hb4) | (at_mapUpdate; refine wpl_put krune Tryd.underlying134 (((HM.out.alloc _).drewN m).below HB4.out) x.f0 true rfl _ _ _ rfl rfl rfl rfl ?_; intro w5 hm5 hg5 hz5; have HM5 := Aside0.mk hm5; have HG5 := Aside0.mk hg5; clear hm5 hg5))
          have h4s := HB4.out.size
          have h4t : wr.heap.size + 1 ≤ w4.heap.size := by simpa [World.drewN] using h4s
          go_roundw
          case rel =>
           refine ⟨k2 + 1, seen2 ++ [x.f0], by omega, by go_num, ⟨?_⟩, ⟨?_⟩, ⟨?_⟩⟩
           ·have := HM5.out
            rwa [mput_set _ _ _ HME.out] at this
           ·have hE : Below wo.heap.size wo (wr.alloc (.cells #[.int .i32 x.f0, .int .u32 x.f1, .int .u32 x.f2] 99)) := HB.out.alloc hs2 _
            have hE2 : Below wo.heap.size wo ((wr.alloc (.cells #[.int .i32 x.f0, .int .u32 x.f1, .int .u32 x.f2] 99)).drewN m) := ⟨hE.os, hE.tape, hE.output, hE.size, hE.block⟩
            exact (hE2.trans (HB4.out.mono (by simp [World.drewN]; omega))).grown HG5.out (by omega) (fun j hj => by cases hj; exact Nat.le_refl _)
           ·have := HF3.out
            simpa using this
          case measure => simp [intOf]; omega
    ·have hke : k2 = l0_1.length := by omega
     have hFb := HF.out
     rw [hke] at hFb
     simp [featLetters] at hFb
     subst hFb
     go_wp2
     go_ret
     refine ⟨by rw [HRC.out]; rfl, HB0.out.trans (HBW.out.mono (by omega))⟩
end Go.Proofs.YtplkoabikliagaaDoor.K
namespace Go.Proofs.YtplkoabikliagaaDoor.K
open Go.RowKit Go.Proofs.YtplkoabikliagaaDoorW.PrintWords Go.Proofs.YtplkoabikliagaaDoorW.PrintLast Go.Proofs.YtplkoabikliagaaDoorW.PrintMore
open Go.Proofs.YtplkoabikliagaaDoor.L
def feature_Of.f (l0_0 : List ByteArray) (l0_1 : List S99) (a1 : Int) : Option (Int × Int × Int × Int) :=
 (feature_Check.f l0_0 l0_1).bind fun e => if e = 0 then
  (match l0_1.find? (fun x => decide (x.f0 = a1)) with
  | none => some (0, 0, 0, 5)
  | some x => some (x.f0, x.f1, x.f2, 0)) else some (0, 0, 0, e)
set_option maxRecDepth 100000 in
theorem featOf_lit (x0 x1 x2 r : Int) (b : Nat) (w : World) (hc : w.cell? ⟨b, 0, none⟩ = some (.int .i32 r)) (hb : b < w.heap.size) :
  Calls Tryd.prog 105 #[.agg #[.int .i32 x0, .int .u32 x1, .int .u32 x2], .pointer (some ⟨b, 0, none⟩)] w fun e w' => e = .returned (.bool (decide (x0 = r))) ∧ Below w.heap.size w w' := by
 have hu := Tryd.underlying99
 have hc' : ∀ o, (w.alloc o).cell? ⟨b, 0, none⟩ = some (.int .i32 r) := fun o => (World.cell?_of_block (w := w) (Below.heap_alloc _ _ _ hb)).trans hc
 go_enter Tryd.func105, Tryd.ntmps105
 go_wp2
 go_ret
 exact ⟨rfl, (Below.refl _ _).alloc (Nat.le_refl _) _⟩
def idxL (r : Int) : List S99 → Nat → Int
 | [], _ => -1
 | x :: l, k => if x.f0 = r then k else idxL r l (k + 1)
set_option maxHeartbeats 4000000 in
set_option maxRecDepth 100000 in
theorem featOf_index (A : Option Addr) (c : Nat) (l : List S99) (r : Int) (b : Nat) (w : World) (hr : Kd.C k99 w A l.length l) (hlen : l.length ≤ 128) (hc : w.cell? ⟨b, 0, none⟩ = some (.int .i32 r)) (hb : b < w.heap.size) :
  Calls Tryd.prog 104 #[.slice A l.length c, .func (.func 105) #[] #[.pointer (some ⟨b, 0, none⟩)]] w fun e w' => e = .returned (.int .i64 (idxL r l 0)) ∧ Below w.heap.size w w' := by
 have HR := Aside0.mk hr
 clear hr
 have HC := Aside0.mk hc
 clear hc
 go_enter Tryd.func104, Tryd.ntmps104
 go_wp2
 go_loopw [8] (fun i wr => ∃ k : Nat, k ≤ l.length ∧ i = .int .i64 k ∧ Aside0 (Below w.heap.size w wr) ∧ Aside0 (idxL r l 0 = idxL r (l.drop k) k)) (fun i _ => l.length - (intOf i).toNat)
 case atStart => exact ⟨0, Nat.zero_le _, rfl, ⟨Below.refl _ _⟩, ⟨rfl⟩⟩
 case round =>
  obtain ⟨k, hk, rfl, HB, HI⟩ := hrel
  by_cases hlt : k < l.length
  ·obtain ⟨ad, hA, hc0, hc1, hc2⟩ := at_T99 (Kd.C_below HR.out HB.out) (k : Int) (by omega) (by omega)
   subst hA
   rw [Int.toNat_natCast] at hc0 hc1 hc2
   obtain ⟨x, hx⟩ : ∃ x, x = rd_T99 l (k : Int) := ⟨_, rfl⟩
   rw [← hx] at hc0 hc1 hc2
   have hcons : l.drop k = x :: l.drop (k + 1) := by
    rw [hx, List.drop_eq_getElem_cons hlt]
    simp [rd_T99, List.getD_eq_getElem?_getD, hlt]
   have hF := HI.out
   rw [hcons, idxL] at hF
   have HF := Aside0.mk hF
   have hs := HB.out.size
   have hcc := (HB.out.cell (p := ⟨b, 0, none⟩) hb).trans HC.out
   have HCC := Aside0.mk hcc
   clear hF hcons HI hx hcc
   by_cases he : x.f0 = r
   ·have hd : decide (x.f0 = r) = true := decide_eq_true he
    have HE := Aside0.mk he
    clear he
    go_wp2_with (go_at_call 105; refine (featOf_lit x.f0 x.f1 x.f2 r b _ HCC.out (by omega)).mono ?_; rintro e w1 ⟨rfl, hb1⟩; have HB1 := Aside0.mk hb1; clear hb1)
    go_ret
    refine ⟨by rw [HF.out, if_pos HE.out]; rfl, HB.out.trans (HB1.out.mono hs)⟩
   ·have hd : decide (x.f0 = r) = false := decide_eq_false he
    have HE := Aside0.mk he
    clear he
    go_wp2_with (go_at_call 105; refine (featOf_lit x.f0 x.f1 x.f2 r b _ HCC.out (by omega)).mono ?_; rintro e w1 ⟨rfl, hb1⟩; have HB1 := Aside0.mk hb1; clear hb1)
    go_roundw
    case rel => exact ⟨k + 1, by omega, by go_num, ⟨HB.out.trans (HB1.out.mono hs)⟩, ⟨by rw [HF.out, if_neg HE.out]⟩⟩
    case measure => simp [intOf]; omega
  ·have hke : k = l.length := by omega
   have hF := HI.out
   rw [hke] at hF
   simp [idxL] at hF
   have HF := Aside0.mk hF
   clear hF HI hke
   go_wp2
   go_ret
   exact ⟨by rw [HF.out]; rfl, HB.out⟩
theorem idxL_find (r : Int) : ∀ (l : List S99) (k : Nat), (l.find? (fun x => decide (x.f0 = r)) = none ∧ idxL r l k = -1) ∨ ∃ j, j < l.length ∧ idxL r l k = ((k + j : Nat) : Int) ∧ l.find? (fun x => decide (x.f0 = r)) = some (rd_T99 l (j : Int))
 | [], k => .inl ⟨rfl, rfl⟩
 | x :: l, k => by
  by_cases h : x.f0 = r
  ·refine .inr ⟨0, by simp, ?_, ?_⟩
   ·simp [idxL, h]
   ·simp [h, rd_T99]
  ·rcases idxL_find r l (k + 1) with ⟨h1, h2⟩ | ⟨j, hj, h2, h3⟩
   ·exact .inl ⟨by simp [h, h1], by simp [idxL, h, h2]⟩
   ·refine .inr ⟨j + 1, by simpa using hj, ?_, ?_⟩
    ·simp only [idxL, h, if_false, h2]
     congr 1; omega
    ·simp only [List.find?_cons, h, decide_false, h3]
     simp [rd_T99, List.getD_eq_getElem?_getD]
theorem featCheck_len {fs : List ByteArray} {ls : List S99} (h : feature_Check.f fs ls = some 0) : ls.length ≤ 128 := by
 unfold feature_Check.f at h
 by_cases h1 : fs.length > 24
 ·rw [if_pos h1] at h; simp at h
 rw [if_neg h1] at h
 by_cases h2 : ls.length < 1
 ·rw [if_pos h2] at h; simp at h
 rw [if_neg h2] at h
 by_cases h3 : ls.length > 128
 ·rw [if_pos h3] at h; simp at h
 omega
theorem named_size {s : ByteArray} (h : feature_named.f s = some true) : s.size ≤ 32 := by
 unfold feature_named.f at h
 by_cases h1 : s.toList = ([] : List UInt8)
 ·rw [if_pos h1] at h; simp at h
 ·rw [if_neg h1] at h
  by_cases h2 : (s.size : Int) ≤ 32
  ·omega
  ·rw [if_neg h2] at h; simp at h
theorem featNames_size : ∀ (l seen : List ByteArray), featNames seen l = some true → ∀ s ∈ l, s.size ≤ 32
 | [], _, _, s, hs => by simp at hs
 | f :: r, seen, h, s, hs => by
  unfold featNames at h
  cases hf : feature_named.f f with
  | none => rw [hf] at h; simp at h
  | some b =>
   rw [hf] at h
   cases b with
   | false => simp at h
   | true =>
    simp only [Option.bind_some, if_true] at h
    by_cases hm : memB seen f = true
    ·rw [if_pos hm] at h; simp at h
    ·rw [if_neg hm] at h
     rcases List.mem_cons.1 hs with rfl | hs
     ·exact named_size hf
     ·exact featNames_size r _ h s hs
theorem featCheck_names {fs : List ByteArray} {ls : List S99} (h : feature_Check.f fs ls = some 0) : featNames [] fs = some true ∧ featLetters fs ls [] ls = some true := by
 unfold feature_Check.f at h
 by_cases h1 : fs.length > 24
 ·rw [if_pos h1] at h; simp at h
 rw [if_neg h1] at h
 by_cases h2 : ls.length < 1
 ·rw [if_pos h2] at h; simp at h
 rw [if_neg h2] at h
 by_cases h3 : ls.length > 128
 ·rw [if_pos h3] at h; simp at h
 rw [if_neg h3] at h
 cases hf : featNames [] fs with
 | none => rw [hf] at h; simp at h
 | some b =>
  rw [hf] at h
  cases b with
  | false => simp at h
  | true =>
   simp only [Option.bind_some, if_true] at h
   cases hl : featLetters fs ls [] ls with
   | none => rw [hl] at h; simp at h
   | some c =>
    rw [hl] at h
    cases c with
    | false => simp at h
    | true => exact ⟨rfl, rfl⟩
theorem featCheck_len2 {fs : List ByteArray} {ls : List S99} (h : feature_Check.f fs ls = some 0) : fs.length ≤ 24 := by
 unfold feature_Check.f at h
 by_cases h1 : fs.length > 24
 ·rw [if_pos h1] at h; simp at h
 omega
set_option maxHeartbeats 4000000 in
set_option maxRecDepth 100000 in
theorem feature_Of.calls (A0_0 : Option Addr) (c0_0 : Nat) (l0_0 : List ByteArray) (A0_1 : Option Addr) (c0_1 : Nat) (l0_1 : List S99) (a1 : Int) (r1 : Int) (r2 : Int) (r3 : Int) (r4 : Int) (w : World) (hr0_0 : Kd.C Kd.string w A0_0 l0_0.length l0_0) (hc0_0 : l0_0.length ≤ c0_0) (hr0_1 : Kd.C k99 w A0_1 l0_1.length l0_1) (hc0_1 : l0_1.length ≤ c0_1) (h : feature_Of.f l0_0 l0_1 a1 = some (r1, r2, r3, r4)) :
  Calls Tryd.prog 76 #[.agg #[.slice A0_0 l0_0.length c0_0, .slice A0_1 l0_1.length c0_1], .int .i32 a1] w fun e w' => e = .returned (.tuple #[.agg #[.int .i32 r1, .int .u32 r2, .int .u32 r3], .int .i64 r4]) ∧ Below w.heap.size w w' := by
 have HR0 := Aside0.mk hr0_0
 have HR1 := Aside0.mk hr0_1
 clear hr0_0 hr0_1
 have hu25 := Tryd.underlying25
 have hu99 := Tryd.underlying99
 have HS := Aside0.mk (St.start w)
 unfold feature_Of.f at h
 cases hfc : feature_Check.f l0_0 l0_1 with
 | none => rw [hfc] at h; simp at h
 | some q =>
  rw [hfc] at h
  simp only [Option.bind_some] at h
  have HFC := Aside0.mk hfc
  clear hfc
  by_cases hq : q = 0
  ·subst hq
   rw [if_pos rfl] at h
   have hlen := featCheck_len HFC.out
   have hix := idxL_find a1 l0_1 0
   have H := Aside0.mk h
   have HIX := Aside0.mk hix
   clear h hix
   rcases HIX.out with ⟨hf, hi⟩ | ⟨j, hj, hi, hf⟩
   ·rw [hf] at H
    have H' := H.out
    simp only [Option.some.injEq, Prod.mk.injEq] at H'
    obtain ⟨rfl, rfl, rfl, rfl⟩ := H'
    clear H HIX hf
    have HI := Aside0.mk hi
    clear hi
    go_enter Tryd.func76, Tryd.ntmps76
    go_wp2_with (first | ((with_reducible refine gate_dst (N := 2) rfl ?_); refine wpl_box HS.out rfl (cs := #[.slice A0_0 l0_0.length c0_0, .slice A0_1 l0_1.length c0_1]) (t := 25) ?hr ?_; (case hr => first | (go_simp; done) | (go_simp; rfl)); clear HS; intro g2 w_g2 hs hb; have HS := Aside0.mk hs; clear hs hb; (try clear hc_g2 hf_g2); obtain ⟨hc_g2, hf_g2⟩ := HS.out.cell 0 rfl) | ((with_reducible refine gate_dst (N := 3) rfl ?_); refine wpl_box HS.out rfl (cs := #[.int .i32 a1]) (t := 21) ?hr ?_; (case hr => first | (go_simp; done) | (go_simp; rfl)); clear HS; intro g3 w_g3 hs hb; have HS := Aside0.mk hs; clear hs hb; (try clear hc_g3 hf_g3); obtain ⟨hc_g3, hf_g3⟩ := HS.out.cell 0 rfl; (try clear hc_g2 hf_g2); obtain ⟨hc_g2, hf_g2⟩ := HS.out.cell 1 rfl) | ((with_reducible refine gate_dst (N := 4) rfl ?_); refine wpl_box HS.out rfl (cs := #[.int .i32 0, .int .u32 0, .int .u32 0]) (t := 99) ?hr ?_; (case hr => first | (go_simp; done) | (go_simp; rfl)); clear HS; intro g4 w_g4 hs hb; have HS := Aside0.mk hs; clear hs hb; (try clear hc_g4 hf_g4); obtain ⟨hc_g4, hf_g4⟩ := HS.out.cell 0 rfl; (try clear hc_g3 hf_g3); obtain ⟨hc_g3, hf_g3⟩ := HS.out.cell 1 rfl; (try clear hc_g2 hf_g2); obtain ⟨hc_g2, hf_g2⟩ := HS.out.cell 2 rfl) | (go_at_call 43; refine (feature_Check.calls _ _ _ _ _ _ _ _ (Kd.C_below HR0.out HS.out.below) hc0_0 (Kd.C_below HR1.out HS.out.below) hc0_1 HFC.out).mono ?_; rintro e w1 ⟨rfl, hb⟩; have hs := HS.out.down hb; clear HS; have HS := Aside0.mk hs; clear hs hb; (try clear hc_g4 hf_g4); obtain ⟨hc_g4, hf_g4⟩ := HS.out.cell 0 rfl; (try clear hc_g3 hf_g3); obtain ⟨hc_g3, hf_g3⟩ := HS.out.cell 1 rfl; (try clear hc_g2 hf_g2); obtain ⟨hc_g2, hf_g2⟩ := HS.out.cell 2 rfl) | (go_at_call 104; refine (featOf_index A0_1 c0_1 l0_1 a1 g3 _ (Kd.C_below HR1.out HS.out.below) hlen ((hc_g3 0).trans rfl) (HS.out.lt 1 rfl)).mono ?_; rintro e w2 ⟨he, hb⟩; have hs := HS.out.down hb; clear HS; have HS := Aside0.mk hs; clear hs hb; (try clear hc_g4 hf_g4); obtain ⟨hc_g4, hf_g4⟩ := HS.out.cell 0 rfl; (try clear hc_g3 hf_g3); obtain ⟨hc_g3, hf_g3⟩ := HS.out.cell 1 rfl; (try clear hc_g2 hf_g2); obtain ⟨hc_g2, hf_g2⟩ := HS.out.cell 2 rfl; (rw [HI.out] at he; subst he)))
    have HE := ((HS.out.put 0 rfl 0 (.int .i32 (0))).put 0 rfl 1 (.int .u32 (0))).put 0 rfl 2 (.int .u32 (0))
    refine bodyPost_ret (results_ct (t := 99) (cs := #[.int .i32 (0), .int .u32 (0), .int .u32 (0)]) rfl _ _ g4 (fr := (0, 0)) _ rfl (HE.get 0 rfl) hu99 rfl (by kernel_rfl)) rfl ⟨rfl, HE.below⟩
   ·rw [hf] at H
    have H' := H.out
    simp only [Option.some.injEq, Prod.mk.injEq] at H'
    obtain ⟨rfl, rfl, rfl, rfl⟩ := H'
    rw [Nat.zero_add] at hi
    clear H HIX hf
    have HI := Aside0.mk hi
    clear hi
    go_enter Tryd.func76, Tryd.ntmps76
    go_wp2_with (first | ((with_reducible refine gate_dst (N := 2) rfl ?_); refine wpl_box HS.out rfl (cs := #[.slice A0_0 l0_0.length c0_0, .slice A0_1 l0_1.length c0_1]) (t := 25) ?hr ?_; (case hr => first | (go_simp; done) | (go_simp; rfl)); clear HS; intro g2 w_g2 hs hb; have HS := Aside0.mk hs; clear hs hb; (try clear hc_g2 hf_g2); obtain ⟨hc_g2, hf_g2⟩ := HS.out.cell 0 rfl) | ((with_reducible refine gate_dst (N := 3) rfl ?_); refine wpl_box HS.out rfl (cs := #[.int .i32 a1]) (t := 21) ?hr ?_; (case hr => first | (go_simp; done) | (go_simp; rfl)); clear HS; intro g3 w_g3 hs hb; have HS := Aside0.mk hs; clear hs hb; (try clear hc_g3 hf_g3); obtain ⟨hc_g3, hf_g3⟩ := HS.out.cell 0 rfl; (try clear hc_g2 hf_g2); obtain ⟨hc_g2, hf_g2⟩ := HS.out.cell 1 rfl) | ((with_reducible refine gate_dst (N := 4) rfl ?_); refine wpl_box HS.out rfl (cs := #[.int .i32 0, .int .u32 0, .int .u32 0]) (t := 99) ?hr ?_; (case hr => first | (go_simp; done) | (go_simp; rfl)); clear HS; intro g4 w_g4 hs hb; have HS := Aside0.mk hs; clear hs hb; (try clear hc_g4 hf_g4); obtain ⟨hc_g4, hf_g4⟩ := HS.out.cell 0 rfl; (try clear hc_g3 hf_g3); obtain ⟨hc_g3, hf_g3⟩ := HS.out.cell 1 rfl; (try clear hc_g2 hf_g2); obtain ⟨hc_g2, hf_g2⟩ := HS.out.cell 2 rfl) | (go_at_call 43; refine (feature_Check.calls _ _ _ _ _ _ _ _ (Kd.C_below HR0.out HS.out.below) hc0_0 (Kd.C_below HR1.out HS.out.below) hc0_1 HFC.out).mono ?_; rintro e w1 ⟨rfl, hb⟩; have hs := HS.out.down hb; clear HS; have HS := Aside0.mk hs; clear hs hb; (try clear hc_g4 hf_g4); obtain ⟨hc_g4, hf_g4⟩ := HS.out.cell 0 rfl; (try clear hc_g3 hf_g3); obtain ⟨hc_g3, hf_g3⟩ := HS.out.cell 1 rfl; (try clear hc_g2 hf_g2); obtain ⟨hc_g2, hf_g2⟩ := HS.out.cell 2 rfl) | (go_at_call 104; refine (featOf_index A0_1 c0_1 l0_1 a1 g3 _ (Kd.C_below HR1.out HS.out.below) hlen ((hc_g3 0).trans rfl) (HS.out.lt 1 rfl)).mono ?_; rintro e w2 ⟨he, hb⟩; have hs := HS.out.down hb; clear HS; have HS := Aside0.mk hs; clear hs hb; (try clear hc_g4 hf_g4); obtain ⟨hc_g4, hf_g4⟩ := HS.out.cell 0 rfl; (try clear hc_g3 hf_g3); obtain ⟨hc_g3, hf_g3⟩ := HS.out.cell 1 rfl; (try clear hc_g2 hf_g2); obtain ⟨hc_g2, hf_g2⟩ := HS.out.cell 2 rfl; (rw [HI.out] at he; subst he; obtain ⟨ad, hA, hx0, hx1, hx2⟩ := at_T99 (Kd.C_below HR1.out HS.out.below) (j : Int) (by omega) (by omega); subst hA; rw [Int.toNat_natCast] at hx0 hx1 hx2)))
    have HE := ((HS.out.put 0 rfl 0 (.int .i32 ((rd_T99 l0_1 (j : Int)).f0))).put 0 rfl 1 (.int .u32 ((rd_T99 l0_1 (j : Int)).f1))).put 0 rfl 2 (.int .u32 ((rd_T99 l0_1 (j : Int)).f2))
    refine bodyPost_ret (results_ct (t := 99) (cs := #[.int .i32 ((rd_T99 l0_1 (j : Int)).f0), .int .u32 ((rd_T99 l0_1 (j : Int)).f1), .int .u32 ((rd_T99 l0_1 (j : Int)).f2)]) rfl _ _ g4 (fr := (0, 0)) _ rfl (HE.get 0 rfl) hu99 rfl (by kernel_rfl)) rfl ⟨rfl, HE.below⟩
  ·rw [if_neg hq] at h
   simp only [Option.some.injEq, Prod.mk.injEq] at h
   obtain ⟨rfl, rfl, rfl, rfl⟩ := h
   have hq1 : (q == 0) = false := by simpa using hq
   have hq2 : (q != 0) = true := by simpa using hq
   clear hq
   go_enter Tryd.func76, Tryd.ntmps76
   go_wp2_with (first | ((with_reducible refine gate_dst (N := 2) rfl ?_); refine wpl_box HS.out rfl (cs := #[.slice A0_0 l0_0.length c0_0, .slice A0_1 l0_1.length c0_1]) (t := 25) ?hr ?_; (case hr => first | (go_simp; done) | (go_simp; rfl)); clear HS; intro g2 w_g2 hs hb; have HS := Aside0.mk hs; clear hs hb; (try clear hc_g2 hf_g2); obtain ⟨hc_g2, hf_g2⟩ := HS.out.cell 0 rfl) | ((with_reducible refine gate_dst (N := 3) rfl ?_); refine wpl_box HS.out rfl (cs := #[.int .i32 a1]) (t := 21) ?hr ?_; (case hr => first | (go_simp; done) | (go_simp; rfl)); clear HS; intro g3 w_g3 hs hb; have HS := Aside0.mk hs; clear hs hb; (try clear hc_g3 hf_g3); obtain ⟨hc_g3, hf_g3⟩ := HS.out.cell 0 rfl; (try clear hc_g2 hf_g2); obtain ⟨hc_g2, hf_g2⟩ := HS.out.cell 1 rfl) | ((with_reducible refine gate_dst (N := 4) rfl ?_); refine wpl_box HS.out rfl (cs := #[.int .i32 0, .int .u32 0, .int .u32 0]) (t := 99) ?hr ?_; (case hr => first | (go_simp; done) | (go_simp; rfl)); clear HS; intro g4 w_g4 hs hb; have HS := Aside0.mk hs; clear hs hb; (try clear hc_g4 hf_g4); obtain ⟨hc_g4, hf_g4⟩ := HS.out.cell 0 rfl; (try clear hc_g3 hf_g3); obtain ⟨hc_g3, hf_g3⟩ := HS.out.cell 1 rfl; (try clear hc_g2 hf_g2); obtain ⟨hc_g2, hf_g2⟩ := HS.out.cell 2 rfl) | (go_at_call 43; refine (feature_Check.calls _ _ _ _ _ _ _ _ (Kd.C_below HR0.out HS.out.below) hc0_0 (Kd.C_below HR1.out HS.out.below) hc0_1 HFC.out).mono ?_; rintro e w1 ⟨rfl, hb⟩; have hs := HS.out.down hb; clear HS; have HS := Aside0.mk hs; clear hs hb; (try clear hc_g4 hf_g4); obtain ⟨hc_g4, hf_g4⟩ := HS.out.cell 0 rfl; (try clear hc_g3 hf_g3); obtain ⟨hc_g3, hf_g3⟩ := HS.out.cell 1 rfl; (try clear hc_g2 hf_g2); obtain ⟨hc_g2, hf_g2⟩ := HS.out.cell 2 rfl))
   have HE := ((HS.out.put 0 rfl 0 (.int .i32 (0))).put 0 rfl 1 (.int .u32 (0))).put 0 rfl 2 (.int .u32 (0))
   refine bodyPost_ret (results_ct (t := 99) (cs := #[.int .i32 (0), .int .u32 (0), .int .u32 (0)]) rfl _ _ g4 (fr := (0, 0)) _ rfl (HE.get 0 rfl) hu99 rfl (by kernel_rfl)) rfl ⟨rfl, HE.below⟩
end Go.Proofs.YtplkoabikliagaaDoor.K
namespace Go.Proofs.YtplkoabikliagaaDoor.K
open Go.RowKit Go.Proofs.YtplkoabikliagaaDoorW.PrintWords Go.Proofs.YtplkoabikliagaaDoorW.PrintLast Go.Proofs.YtplkoabikliagaaDoorW.PrintMore
attribute [local go_sem] max2_int min2_int max_two min_two max_three min_three max_four min_four
set_option linter.unusedVariables false
set_option linter.unusedSimpArgs false
def rule_letter.f (l0_0 : List ByteArray) (l0_1 : List (S99)) (a1 : Int) : Option (Bool) := (feature_Of.f l0_0 l0_1 a1).bind fun bt106 => (some (bt106.2.2.2 == 0))
set_option maxHeartbeats 8000000 in
set_option maxRecDepth 100000 in
theorem rule_letter.calls (A0_0 : Option Addr) (c0_0 : Nat) (l0_0 : List ByteArray) (A0_1 : Option Addr) (c0_1 : Nat) (l0_1 : List (S99)) (a1 : Int) (r : Bool) (w : World) (hr0_0 : Kd.C Kd.string w A0_0 l0_0.length l0_0) (hc0_0 : l0_0.length ≤ c0_0) (hr0_1 : Kd.C k99 w A0_1 l0_1.length l0_1) (hc0_1 : l0_1.length ≤ c0_1) (h : rule_letter.f l0_0 l0_1 a1 = some r) :
  Calls Tryd.prog 108 #[.agg #[.slice A0_0 l0_0.length c0_0, .slice A0_1 l0_1.length c0_1], .int .i32 a1] w fun e w' => e = .returned (.bool r) ∧ Below w.heap.size w w' := by
 have hu25 := Tryd.underlying25
 have hu99 := Tryd.underlying99
 have HR0_0 := Aside0.mk hr0_0
 have HC0_0 := Aside0.mk hc0_0
 clear hr0_0 hc0_0
 have HR0_1 := Aside0.mk hr0_1
 have HC0_1 := Aside0.mk hc0_1
 clear hr0_1 hc0_1
 have HB := Aside0.mk (Below.refl w.heap.size w)
 have H : ((feature_Of.f l0_0 l0_1 a1).bind fun bt106 => (some (bt106.2.2.2 == 0))) = some r := h
 clear h
 replace H := Option.bind_eq_some_iff.mp H
 obtain ⟨⟨t106, t107, t108, t109⟩, A30, H⟩ := H
 replace H : (some (t109 == 0)) = some r := H
 have A3 := Aside0.mk A30
 clear A30
 obtain rfl := Option.some.inj H
 go_enter Tryd.func108, Tryd.ntmps108
 go_wp2_with (first | ((with_reducible refine gate_dst (N := 2) rfl ?_); refine box_event ?hg (N := 2) ?hd (cs := #[.slice A0_0 l0_0.length c0_0, .slice A0_1 l0_1.length c0_1]) (t := 25) ?hr ?_; (case hd => rfl); (case hg => rfl); (case hr => first | (go_simp; done) | (go_simp; rfl)); intro gb105 hg w4 hbox hb; have n0_ := Aside0.mk (below_step (by repeat (first | (with_reducible first | exact HB.out | apply below_alloc | apply pw_below_drewN | apply below_drew1) | exact HB.out)) hb); have n1_ := Aside0.mk (hbox); have n2_ := Aside0.mk ((by rw [hg]; exact (below_size (by repeat (first | (with_reducible first | exact HB.out | apply below_alloc | apply pw_below_drewN | apply below_drew1) | exact HB.out))) : w.heap.size ≤ gb105)); have n3_ := Aside0.mk ((by rw [hg]; exact (below_size (by repeat (first | (with_reducible first | exact HB.out | apply below_alloc | apply pw_below_drewN | apply below_drew1) | exact HB.out))) : w.heap.size ≤ gb105)); clear HB; have HB := n0_; have BK105 := n1_; have GW105 := n2_; have GE105 := n3_; clear n0_ n1_ n2_ n3_; clear hb hbox hg; have hcz5_0 : w4.cell? ⟨gb105, 0, none⟩ = some (.slice A0_0 l0_0.length c0_0) := (blk_cell BK105.out 0).trans rfl; have hcz5_1 : w4.cell? ⟨gb105, 1, none⟩ = some (.slice A0_1 l0_1.length c0_1) := (blk_cell BK105.out 1).trans rfl; have hfz5_0 := blk_frozen BK105.out 0; have hfz5_1 := blk_frozen BK105.out 1) | ((with_reducible refine gate_callee (f := 76) rfl ?_); refine goesL_ (some 10) rfl rfl Tryd.func76 (by kernel_rfl) rfl #[.agg #[.slice A0_0 l0_0.length c0_0, .slice A0_1 l0_1.length c0_1], .int .i32 a1] rfl (by (try simp only [List.map_toArray, List.map_cons, List.map_nil]); first | done | rfl | (simp only [List.length_drop, List.length_take]; rfl)) ?_; (with_reducible refine (feature_Of.calls _ _ l0_0 _ _ l0_1 a1 t106 t107 t108 t109 _ ?side1 ?side2 ?side3 ?side4 A3.out).mono ?_); (case side1 => repeat (first | exact (Kd.C_below HR0_0.out HB.out) | (with_reducible refine Kd.C_alloc ?_ _) | (with_reducible refine Kd.C_drewN ?_ _) | (with_reducible refine Kd.C_drew ?_))); (case side2 => exact HC0_0.out); (case side3 => repeat (first | exact (Kd.C_below HR0_1.out HB.out) | (with_reducible refine Kd.C_alloc ?_ _) | (with_reducible refine Kd.C_drewN ?_ _) | (with_reducible refine Kd.C_drew ?_))); (case side4 => exact HC0_1.out); rintro e w6 ⟨rfl, hb⟩; refine ⟨_, rfl, ?_⟩; have n0_ := Aside0.mk (blk_below (g := gb105) (o := .cells #[.slice A0_0 l0_0.length c0_0, .slice A0_1 l0_1.length c0_1] 25 (0, 0)) (by (with_reducible repeat (first | refine blk_drewN ?_ _ | refine blk_drew ?_ | refine blk_alloc ?_ _)); exact BK105.out) hb); have n1_ := Aside0.mk (below_step (by repeat (first | (with_reducible first | exact HB.out | apply below_alloc | apply pw_below_drewN | apply below_drew1 | refine below_set ?_ GE105.out) | exact HB.out)) hb); clear BK105; clear HB; have BK105 := n0_; have HB := n1_; clear n0_ n1_; (try clear hb); (try clear hb2); (try clear hk); (try clear hi)) | ((with_reducible refine gate_dst (N := 5) rfl ?_); refine box_event ?hg (N := 5) ?hd (cs := #[.int .i32 0, .int .u32 0, .int .u32 0]) (t := 99) ?hr ?_; (case hd => rfl); (case hg => rfl); (case hr => first | (go_simp; done) | (go_simp; rfl)); intro gb110 hg w7 hbox hb; have n0_ := Aside0.mk (blk_below (g := gb105) (o := .cells #[.slice A0_0 l0_0.length c0_0, .slice A0_1 l0_1.length c0_1] 25 (0, 0)) (by (with_reducible repeat (first | refine blk_drewN ?_ _ | refine blk_drew ?_ | refine blk_alloc ?_ _)); exact BK105.out) hb); have n1_ := Aside0.mk (below_step (by repeat (first | (with_reducible first | exact HB.out | apply below_alloc | apply pw_below_drewN | apply below_drew1 | refine below_set ?_ GE105.out) | exact HB.out)) hb); have n2_ := Aside0.mk (hbox); have n3_ := Aside0.mk ((by rw [hg]; exact (below_size (by repeat (first | (with_reducible first | exact HB.out | apply below_alloc | apply pw_below_drewN | apply below_drew1 | refine below_set ?_ GE105.out) | exact HB.out))) : w.heap.size ≤ gb110)); have n4_ := Aside0.mk ((by rw [hg]; exact (below_size (by repeat (first | (with_reducible first | exact HB.out | apply below_alloc | apply pw_below_drewN | apply below_drew1 | refine below_set ?_ GE105.out) | exact HB.out))) : w.heap.size ≤ gb110)); have n5_ := Aside0.mk ((by rw [hg]; exact Nat.ne_of_lt (blk_lt (g := gb105) (o := .cells #[.slice A0_0 l0_0.length c0_0, .slice A0_1 l0_1.length c0_1] 25 (0, 0)) (by (with_reducible repeat (first | refine blk_drewN ?_ _ | refine blk_drew ?_ | refine blk_alloc ?_ _)); exact BK105.out)) : gb105 ≠ gb110)); have n6_ := Aside0.mk ((by rw [hg]; exact Nat.ne_of_gt (blk_lt (g := gb105) (o := .cells #[.slice A0_0 l0_0.length c0_0, .slice A0_1 l0_1.length c0_1] 25 (0, 0)) (by (with_reducible repeat (first | refine blk_drewN ?_ _ | refine blk_drew ?_ | refine blk_alloc ?_ _)); exact BK105.out)) : gb110 ≠ gb105)); clear BK105; clear HB; have BK105 := n0_; have HB := n1_; have BK110 := n2_; have GW110 := n3_; have GE110 := n4_; have NB105_110 := n5_; have NB110_105 := n6_; clear n0_ n1_ n2_ n3_ n4_ n5_ n6_; clear hb hbox hg; have hnb8 := NB110_105.out; have hnc8 := NB105_110.out; have hcz9_0 : w7.cell? ⟨gb110, 0, none⟩ = some (.int .i32 0) := (blk_cell BK110.out 0).trans rfl; have hcz9_1 : w7.cell? ⟨gb110, 1, none⟩ = some (.int .u32 0) := (blk_cell BK110.out 1).trans rfl; have hcz9_2 : w7.cell? ⟨gb110, 2, none⟩ = some (.int .u32 0) := (blk_cell BK110.out 2).trans rfl; have hfz9_0 := blk_frozen BK110.out 0; have hfz9_1 := blk_frozen BK110.out 1; have hfz9_2 := blk_frozen BK110.out 2))
 go_ret
 exact ⟨by first | rfl | (simp [errW_none, errW_some] <;> rfl) | (simp [*, errW_none, errW_some] <;> rfl), by repeat (first | (with_reducible first | exact HB.out | apply below_alloc | apply pw_below_drewN | apply below_drew1 | refine below_set ?_ GE105.out | refine below_set ?_ GE110.out) | exact HB.out)⟩
end Go.Proofs.YtplkoabikliagaaDoor.K
namespace Go.Proofs.YtplkoabikliagaaDoor.K
open Go.RowKit Go.Proofs.YtplkoabikliagaaDoorW.PrintWords Go.Proofs.YtplkoabikliagaaDoorW.PrintLast Go.Proofs.YtplkoabikliagaaDoorW.PrintMore
open Go.Proofs.YtplkoabikliagaaDoor.L
def bitAt (x : Int) (k : Nat) : Bool := Go.bits .and .u32 (x / 2 ^ k) 1 == 1
def clsText (p m : Int) : Nat → List ByteArray → List UInt8
 | _, [] => []
 | k, f :: r => (if bitAt p k = true then 43 :: f.data.toList else if bitAt m k = true then 45 :: f.data.toList else []) ++ clsText p m (k + 1) r
def feature_Text.f (l0_0 : List ByteArray) (l0_1 : List S99) (a1 : Int) (a2 : Int) : Option (ByteArray × Int) :=
 (feature_Check.f l0_0 l0_1).bind fun e => if e = 0 then (feature_within.f l0_0 l0_1 a1 a2).bind fun b => if b = true then some (⟨(clsText a1 a2 0 l0_0).toArray⟩, 0) else some (⟨#[]⟩, 20) else some (⟨#[]⟩, e)
set_option maxHeartbeats 8000000 in
set_option maxRecDepth 100000 in
theorem feature_Text.calls (A0_0 : Option Addr) (c0_0 : Nat) (l0_0 : List ByteArray) (A0_1 : Option Addr) (c0_1 : Nat) (l0_1 : List S99) (a1 : Int) (a2 : Int) (r1 : ByteArray) (r2 : Int) (w : World) (hr0_0 : Kd.C Kd.string w A0_0 l0_0.length l0_0) (hc0_0 : l0_0.length ≤ c0_0) (hr0_1 : Kd.C k99 w A0_1 l0_1.length l0_1) (hc0_1 : l0_1.length ≤ c0_1) (h : feature_Text.f l0_0 l0_1 a1 a2 = some (r1, r2)) :
  Calls Tryd.prog 111 #[.agg #[.slice A0_0 l0_0.length c0_0, .slice A0_1 l0_1.length c0_1], .int .u32 a1, .int .u32 a2] w fun e w' => e = .returned (.tuple #[.string r1, .int .i64 r2]) ∧ Below w.heap.size w w' := by
 have HR0 := Aside0.mk hr0_0
 have HR1 := Aside0.mk hr0_1
 clear hr0_0 hr0_1
 have hu25 := Tryd.underlying25
 have hu69 := Tryd.underlying69
 have HS := Aside0.mk (St.start w)
 unfold feature_Text.f at h
 cases hfc : feature_Check.f l0_0 l0_1 with
 | none => rw [hfc] at h; simp at h
 | some q =>
  rw [hfc] at h
  simp only [Option.bind_some] at h
  have HFC := Aside0.mk hfc
  clear hfc
  by_cases hq : q = 0
  ·subst hq
   rw [if_pos rfl] at h
   cases hw : feature_within.f l0_0 l0_1 a1 a2 with
   | none => rw [hw] at h; simp at h
   | some q2 =>
    rw [hw] at h
    simp only [Option.bind_some] at h
    have HW := Aside0.mk hw
    clear hw
    cases q2 with
    | false =>
     simp only [Bool.false_eq_true, if_false, Option.some.injEq, Prod.mk.injEq] at h
     obtain ⟨rfl, rfl⟩ := h
     go_enter Tryd.func111, Tryd.ntmps111
     go_wp2_with (first | ((with_reducible refine gate_dst (N := 3) rfl ?_); refine wpl_box HS.out rfl (cs := #[.slice A0_0 l0_0.length c0_0, .slice A0_1 l0_1.length c0_1]) (t := 25) ?hr ?_; (case hr => first | (go_simp; done) | (go_simp; rfl)); clear HS; intro g3 w_g3 hs hb; have HS := Aside0.mk hs; clear hs hb; (try clear hc_g3 hf_g3); obtain ⟨hc_g3, hf_g3⟩ := HS.out.cell 0 rfl) | (go_at_call 43; refine (feature_Check.calls _ _ _ _ _ _ _ _ (Kd.C_below HR0.out HS.out.below) hc0_0 (Kd.C_below HR1.out HS.out.below) hc0_1 HFC.out).mono ?_; rintro e w1 ⟨rfl, hb⟩; have hs := HS.out.down hb; clear HS; have HS := Aside0.mk hs; clear hs hb; (try clear hc_g3 hf_g3); obtain ⟨hc_g3, hf_g3⟩ := HS.out.cell 0 rfl) | (go_at_call 61; refine (feature_within.calls _ _ _ _ _ _ _ _ false _ (Kd.C_below HR0.out HS.out.below) hc0_0 (Kd.C_below HR1.out HS.out.below) hc0_1 HW.out).mono ?_; rintro e w2 ⟨rfl, hb⟩; have hs := HS.out.down hb; clear HS; have HS := Aside0.mk hs; clear hs hb; (try clear hc_g3 hf_g3); obtain ⟨hc_g3, hf_g3⟩ := HS.out.cell 0 rfl))
     go_ret2
     exact ⟨rfl, HS.out.below⟩
    | true =>
     simp only [if_true, Option.some.injEq, Prod.mk.injEq] at h
     obtain ⟨hr1, rfl⟩ := h
     have HR := Aside0.mk hr1
     clear hr1
     have hlen := featCheck_len2 HFC.out
     go_enter Tryd.func111, Tryd.ntmps111
     go_wp2_with (first | ((with_reducible refine gate_dst (N := 3) rfl ?_); refine wpl_box HS.out rfl (cs := #[.slice A0_0 l0_0.length c0_0, .slice A0_1 l0_1.length c0_1]) (t := 25) ?hr ?_; (case hr => first | (go_simp; done) | (go_simp; rfl)); clear HS; intro g3 w_g3 hs hb; have HS := Aside0.mk hs; clear hs hb; (try clear hc_g3 hf_g3); obtain ⟨hc_g3, hf_g3⟩ := HS.out.cell 0 rfl) | (go_at_call 43; refine (feature_Check.calls _ _ _ _ _ _ _ _ (Kd.C_below HR0.out HS.out.below) hc0_0 (Kd.C_below HR1.out HS.out.below) hc0_1 HFC.out).mono ?_; rintro e w1 ⟨rfl, hb⟩; have hs := HS.out.down hb; clear HS; have HS := Aside0.mk hs; clear hs hb; (try clear hc_g3 hf_g3); obtain ⟨hc_g3, hf_g3⟩ := HS.out.cell 0 rfl) | (go_at_call 61; refine (feature_within.calls _ _ _ _ _ _ _ _ true _ (Kd.C_below HR0.out HS.out.below) hc0_0 (Kd.C_below HR1.out HS.out.below) hc0_1 HW.out).mono ?_; rintro e w2 ⟨rfl, hb⟩; have hs := HS.out.down hb; clear HS; have HS := Aside0.mk hs; clear hs hb; (try clear hc_g3 hf_g3); obtain ⟨hc_g3, hf_g3⟩ := HS.out.cell 0 rfl) | ((with_reducible refine gate_dst (N := 9) rfl ?_); refine wpl_box HS.out rfl (cs := #[.pointer none, .slice none 0 0]) (t := 69) ?hr ?_; (case hr => first | (go_simp; done) | (go_simp; rfl)); clear HS; intro g9 w_g9 hs hb; have HS := Aside0.mk hs; clear hs hb; (try clear hc_g9 hf_g9); obtain ⟨hc_g9, hf_g9⟩ := HS.out.cell 0 rfl; (try clear hc_g3 hf_g3); obtain ⟨hc_g3, hf_g3⟩ := HS.out.cell 1 rfl))
     have hlt39 : g3 < g9 := by have := HS.out.apart; simpa using this
     have hsm := featNames_size _ _ (featCheck_names HFC.out).1
     have HSM := Aside0.mk hsm
     clear hsm
     have HSTA := HS
     obtain ⟨wo, hwo⟩ : ∃ wo : World, wo = w_g9 := ⟨_, rfl⟩
     subst hwo
     go_loopw [25] (fun i wr => ∃ k : Nat, ∃ acc : List UInt8, k ≤ l0_0.length ∧ acc.length ≤ 33 * k ∧ i = .int .i64 k ∧ Aside0 (Lib.IsBuilder 69 5 g9 g9 (Lib.byteCells acc) wr) ∧ Aside0 (Below g9 wo wr) ∧ Aside0 (acc ++ clsText a1 a2 k (l0_0.drop k) = clsText a1 a2 0 l0_0)) (fun i _ => l0_0.length - (intOf i).toNat)
     case atStart =>
      refine ⟨0, [], Nat.zero_le _, by simp, rfl, ⟨.inl ⟨Nat.le_refl _, .slice none 0 0, HS.out.get 0 rfl, World.ownsRow_nil _ _ _ _, by simp [Value.ownBlock]⟩⟩, ⟨Below.refl _ _⟩, ⟨by simp⟩⟩
     case round =>
      obtain ⟨k, acc, hk, hacc, rfl, HI, HBW, HT⟩ := hrel
      have hc3 : ∀ j, wr.cell? ⟨g3, j, none⟩ = #[Value.slice A0_0 l0_0.length c0_0, Value.slice A0_1 l0_1.length c0_1][j]? := fun j => (HBW.out.cell (p := ⟨g3, j, none⟩) hlt39).trans (hc_g3 j)
      have hge := HSTA.out.ge 0 rfl
      have hb0 : Below w.heap.size w wr := HSTA.out.below.trans (HBW.out.mono hge)
      have HB0 := Aside0.mk hb0
      have hs9 : g9 < wr.heap.size := Nat.lt_of_lt_of_le (HSTA.out.lt 0 rfl) HBW.out.size
      clear hb0 hc_g3 hf_g3 hc_g9 hf_g9
      by_cases hlt : k < l0_0.length
      ·obtain ⟨ad, hA, hcell⟩ := Kd.at_string (Kd.C_below HR0.out HB0.out) (k : Int) (by omega) (by omega)
       subst hA
       rw [Int.toNat_natCast] at hcell
       obtain ⟨s, hs⟩ : ∃ s, s = rdOf ByteArray.empty l0_0 (k : Int) := ⟨_, rfl⟩
       rw [← hs] at hcell
       have hcons : l0_0.drop k = s :: l0_0.drop (k + 1) := by
        rw [hs, List.drop_eq_getElem_cons hlt]
        simp [rdOf, List.getD_eq_getElem?_getD, hlt]
       have hsz : s.size ≤ 32 := HSM.out s (List.mem_of_mem_drop (by rw [hcons]; exact List.mem_cons_self))
       have hT := HT.out
       rw [hcons, clsText] at hT
       have HT2 := Aside0.mk hT
       clear hT HT hs hcons
       have HL := Aside0.mk (show ∀ c : UInt8, (Lib.byteCells acc).length + ((⟨#[c]⟩ : ByteArray) ++ s).size ≤ 140737488355328 from fun c => by
        have e : ((⟨#[c]⟩ : ByteArray) ++ s).size = 1 + s.size := by rw [ByteArray.size_append]; rfl
        rw [Lib.byteCells_length, e]
        omega)
       by_cases hp : bitAt a1 k = true
       ·have HP := Aside0.mk hp
        unfold bitAt at hp
        go_wp2_with (go_at_call 23; go_loud (with_reducible refine (writeString_any g9 g9 (Lib.byteCells acc) ((⟨#[43]⟩ : ByteArray) ++ s) _ HI.out (HL.out _) (by omega)).mono ?_); rintro e w3 ⟨rfl, hI3, hb3⟩; have HI3 := Aside0.mk hI3; have HB3 := Aside0.mk hb3; clear hI3 hb3)
        go_roundw
        case rel =>
         refine ⟨k + 1, acc ++ 43 :: s.data.toList, by omega, by simp; have : s.data.size = s.size := rfl; omega, by go_num, ⟨.inr ?_⟩, ⟨HBW.out.trans HB3.out⟩, ⟨?_⟩⟩
         ·have := HI3.out
          rw [Lib.byteCells_append]
          exact this
         ·have := HT2.out
          rw [if_pos HP.out] at this
          simpa using this
        case measure => simp [intOf]; omega
       ·have hp' : bitAt a1 k = false := by simpa using hp
        have HP := Aside0.mk hp
        unfold bitAt at hp'
        clear hp
        by_cases hm : bitAt a2 k = true
        ·have HM := Aside0.mk hm
         unfold bitAt at hm
         go_wp2_with (go_at_call 23; go_loud (with_reducible refine (writeString_any g9 g9 (Lib.byteCells acc) ((⟨#[45]⟩ : ByteArray) ++ s) _ HI.out (HL.out _) (by omega)).mono ?_); rintro e w3 ⟨rfl, hI3, hb3⟩; have HI3 := Aside0.mk hI3; have HB3 := Aside0.mk hb3; clear hI3 hb3)
         go_roundw
         case rel =>
          refine ⟨k + 1, acc ++ 45 :: s.data.toList, by omega, by simp; have : s.data.size = s.size := rfl; omega, by go_num, ⟨.inr ?_⟩, ⟨HBW.out.trans HB3.out⟩, ⟨?_⟩⟩
          ·have := HI3.out
           rw [Lib.byteCells_append]
           exact this
          ·have := HT2.out
           rw [if_neg HP.out, if_pos HM.out] at this
           simpa using this
         case measure => simp [intOf]; omega
        ·have hm' : bitAt a2 k = false := by simpa using hm
         have HM := Aside0.mk hm
         unfold bitAt at hm'
         clear hm
         go_wp2
         go_roundw
         case rel =>
          refine ⟨k + 1, acc, by omega, by omega, by go_num, ⟨HI.out⟩, ⟨HBW.out⟩, ⟨?_⟩⟩
          have := HT2.out
          rw [if_neg HP.out, if_neg HM.out] at this
          simpa using this
         case measure => simp [intOf]; omega
      ·have hke : k = l0_0.length := by omega
       have hT := HT.out
       rw [hke] at hT
       simp [clsText] at hT
       rw [← hT] at HR
       clear hT HT hke
       go_wp2_with (go_at_call 25; refine (Tryd.Builder_String_any g9 g9 acc _ HI.out (by omega)).mono ?_; rintro e w3 ⟨rfl, hb⟩)
       go_ret2
       exact ⟨by rw [← HR.out]; rfl, HB0.out.trans (hb.mono hge)⟩
  ·rw [if_neg hq] at h
   simp only [Option.some.injEq, Prod.mk.injEq] at h
   obtain ⟨rfl, rfl⟩ := h
   have hq1 : (q == 0) = false := by simpa using hq
   have hq2 : (q != 0) = true := by simpa using hq
   clear hq
   go_enter Tryd.func111, Tryd.ntmps111
   go_wp2_with (first | ((with_reducible refine gate_dst (N := 3) rfl ?_); refine wpl_box HS.out rfl (cs := #[.slice A0_0 l0_0.length c0_0, .slice A0_1 l0_1.length c0_1]) (t := 25) ?hr ?_; (case hr => first | (go_simp; done) | (go_simp; rfl)); clear HS; intro g3 w_g3 hs hb; have HS := Aside0.mk hs; clear hs hb; (try clear hc_g3 hf_g3); obtain ⟨hc_g3, hf_g3⟩ := HS.out.cell 0 rfl) | (go_at_call 43; refine (feature_Check.calls _ _ _ _ _ _ _ _ (Kd.C_below HR0.out HS.out.below) hc0_0 (Kd.C_below HR1.out HS.out.below) hc0_1 HFC.out).mono ?_; rintro e w1 ⟨rfl, hb⟩; have hs := HS.out.down hb; clear HS; have HS := Aside0.mk hs; clear hs hb; (try clear hc_g3 hf_g3); obtain ⟨hc_g3, hf_g3⟩ := HS.out.cell 0 rfl))
   go_ret2
   exact ⟨rfl, HS.out.below⟩
end Go.Proofs.YtplkoabikliagaaDoor.K
namespace Go.Proofs.YtplkoabikliagaaDoor.K
open Go.RowKit Go.Proofs.YtplkoabikliagaaDoorW.PrintWords Go.Proofs.YtplkoabikliagaaDoorW.PrintLast Go.Proofs.YtplkoabikliagaaDoorW.PrintMore
attribute [local go_sem] max2_int min2_int max_two min_two max_three min_three max_four min_four
set_option linter.unusedVariables false
set_option linter.unusedSimpArgs false
def rule_class.f (l0_0 : List ByteArray) (l0_1 : List (S99)) (a1 : Int) (a2 : Int) : Option (Bool) := (feature_Text.f l0_0 l0_1 a1 a2).bind fun bt112 => (some (bt112.2 == 0))
set_option maxHeartbeats 8000000 in
set_option maxRecDepth 100000 in
theorem rule_class.calls (A0_0 : Option Addr) (c0_0 : Nat) (l0_0 : List ByteArray) (A0_1 : Option Addr) (c0_1 : Nat) (l0_1 : List (S99)) (a1 : Int) (a2 : Int) (r : Bool) (w : World) (hr0_0 : Kd.C Kd.string w A0_0 l0_0.length l0_0) (hc0_0 : l0_0.length ≤ c0_0) (hr0_1 : Kd.C k99 w A0_1 l0_1.length l0_1) (hc0_1 : l0_1.length ≤ c0_1) (h : rule_class.f l0_0 l0_1 a1 a2 = some r) :
  Calls Tryd.prog 109 #[.agg #[.slice A0_0 l0_0.length c0_0, .slice A0_1 l0_1.length c0_1], .int .u32 a1, .int .u32 a2] w fun e w' => e = .returned (.bool r) ∧ Below w.heap.size w w' := by
 have hu25 := Tryd.underlying25
 have HR0_0 := Aside0.mk hr0_0
 have HC0_0 := Aside0.mk hc0_0
 clear hr0_0 hc0_0
 have HR0_1 := Aside0.mk hr0_1
 have HC0_1 := Aside0.mk hc0_1
 clear hr0_1 hc0_1
 have HB := Aside0.mk (Below.refl w.heap.size w)
 have H : ((feature_Text.f l0_0 l0_1 a1 a2).bind fun bt112 => (some (bt112.2 == 0))) = some r := h
 clear h
 replace H := Option.bind_eq_some_iff.mp H
 obtain ⟨⟨t112, t113⟩, A40, H⟩ := H
 replace H : (some (t113 == 0)) = some r := H
 have A4 := Aside0.mk A40
 clear A40
 obtain rfl := Option.some.inj H
 go_enter Tryd.func109, Tryd.ntmps109
 go_wp2_with (first | ((with_reducible refine gate_dst (N := 3) rfl ?_); refine box_event ?hg (N := 3) ?hd (cs := #[.slice A0_0 l0_0.length c0_0, .slice A0_1 l0_1.length c0_1]) (t := 25) ?hr ?_; (case hd => rfl); (case hg => rfl); (case hr => first | (go_simp; done) | (go_simp; rfl)); intro gb111 hg w5 hbox hb; have n0_ := Aside0.mk (below_step (by repeat (first | (with_reducible first | exact HB.out | apply below_alloc | apply pw_below_drewN | apply below_drew1) | exact HB.out)) hb); have n1_ := Aside0.mk (hbox); have n2_ := Aside0.mk ((by rw [hg]; exact (below_size (by repeat (first | (with_reducible first | exact HB.out | apply below_alloc | apply pw_below_drewN | apply below_drew1) | exact HB.out))) : w.heap.size ≤ gb111)); have n3_ := Aside0.mk ((by rw [hg]; exact (below_size (by repeat (first | (with_reducible first | exact HB.out | apply below_alloc | apply pw_below_drewN | apply below_drew1) | exact HB.out))) : w.heap.size ≤ gb111)); clear HB; have HB := n0_; have BK111 := n1_; have GW111 := n2_; have GE111 := n3_; clear n0_ n1_ n2_ n3_; clear hb hbox hg; have hcz6_0 : w5.cell? ⟨gb111, 0, none⟩ = some (.slice A0_0 l0_0.length c0_0) := (blk_cell BK111.out 0).trans rfl; have hcz6_1 : w5.cell? ⟨gb111, 1, none⟩ = some (.slice A0_1 l0_1.length c0_1) := (blk_cell BK111.out 1).trans rfl; have hfz6_0 := blk_frozen BK111.out 0; have hfz6_1 := blk_frozen BK111.out 1) | ((with_reducible refine gate_callee (f := 111) rfl ?_); refine goesL_ (some 13) rfl rfl Tryd.func111 (by kernel_rfl) rfl #[.agg #[.slice A0_0 l0_0.length c0_0, .slice A0_1 l0_1.length c0_1], .int .u32 a1, .int .u32 a2] rfl (by (try simp only [List.map_toArray, List.map_cons, List.map_nil]); first | done | rfl | (simp only [List.length_drop, List.length_take]; rfl)) ?_; (with_reducible refine (feature_Text.calls _ _ l0_0 _ _ l0_1 a1 a2 t112 t113 _ ?side1 ?side2 ?side3 ?side4 A4.out).mono ?_); (case side1 => repeat (first | exact (Kd.C_below HR0_0.out HB.out) | (with_reducible refine Kd.C_alloc ?_ _) | (with_reducible refine Kd.C_drewN ?_ _) | (with_reducible refine Kd.C_drew ?_))); (case side2 => exact HC0_0.out); (case side3 => repeat (first | exact (Kd.C_below HR0_1.out HB.out) | (with_reducible refine Kd.C_alloc ?_ _) | (with_reducible refine Kd.C_drewN ?_ _) | (with_reducible refine Kd.C_drew ?_))); (case side4 => exact HC0_1.out); rintro e w7 ⟨rfl, hb⟩; refine ⟨_, rfl, ?_⟩; have n0_ := Aside0.mk (blk_below (g := gb111) (o := .cells #[.slice A0_0 l0_0.length c0_0, .slice A0_1 l0_1.length c0_1] 25 (0, 0)) (by (with_reducible repeat (first | refine blk_drewN ?_ _ | refine blk_drew ?_ | refine blk_alloc ?_ _)); exact BK111.out) hb); have n1_ := Aside0.mk (below_step (by repeat (first | (with_reducible first | exact HB.out | apply below_alloc | apply pw_below_drewN | apply below_drew1 | refine below_set ?_ GE111.out) | exact HB.out)) hb); clear BK111; clear HB; have BK111 := n0_; have HB := n1_; clear n0_ n1_; (try clear hb); (try clear hb2); (try clear hk); (try clear hi)))
 go_ret
 exact ⟨by first | rfl | (simp [errW_none, errW_some] <;> rfl) | (simp [*, errW_none, errW_some] <;> rfl), by repeat (first | (with_reducible first | exact HB.out | apply below_alloc | apply pw_below_drewN | apply below_drew1 | refine below_set ?_ GE111.out) | exact HB.out)⟩
end Go.Proofs.YtplkoabikliagaaDoor.K
namespace Go.Proofs.YtplkoabikliagaaDoor.K
open Go.RowKit Go.Proofs.YtplkoabikliagaaDoorW.PrintWords Go.Proofs.YtplkoabikliagaaDoorW.PrintLast Go.Proofs.YtplkoabikliagaaDoorW.PrintMore
attribute [local go_sem] max2_int min2_int max_two min_two max_three min_three max_four min_four
set_option linter.unusedVariables false
set_option linter.unusedSimpArgs false
def rule_either.f (l0_0 : List ByteArray) (l0_1 : List (S99)) (a1 : Int) (a2 : Int) (a3 : Int) : Option (Bool) := if a1 = 0 then ((rule_class.f l0_0 l0_1 a2 a3).bind fun t115 => (some t115)) else ((rule_letter.f l0_0 l0_1 a1).bind fun t116 => (if t116 = true then (some ((Go.bits .or .u32 a2 a3) == 0)) else (some false)))
set_option maxHeartbeats 8000000 in
set_option maxRecDepth 100000 in
theorem rule_either.calls (A0_0 : Option Addr) (c0_0 : Nat) (l0_0 : List ByteArray) (A0_1 : Option Addr) (c0_1 : Nat) (l0_1 : List (S99)) (a1 : Int) (a2 : Int) (a3 : Int) (r : Bool) (w : World) (hr0_0 : Kd.C Kd.string w A0_0 l0_0.length l0_0) (hc0_0 : l0_0.length ≤ c0_0) (hr0_1 : Kd.C k99 w A0_1 l0_1.length l0_1) (hc0_1 : l0_1.length ≤ c0_1) (h : rule_either.f l0_0 l0_1 a1 a2 a3 = some r) :
  Calls Tryd.prog 81 #[.agg #[.slice A0_0 l0_0.length c0_0, .slice A0_1 l0_1.length c0_1], .int .i32 a1, .int .u32 a2, .int .u32 a3] w fun e w' => e = .returned (.bool r) ∧ Below w.heap.size w w' := by
 have hu25 := Tryd.underlying25
 have HR0_0 := Aside0.mk hr0_0
 have HC0_0 := Aside0.mk hc0_0
 clear hr0_0 hc0_0
 have HR0_1 := Aside0.mk hr0_1
 have HC0_1 := Aside0.mk hc0_1
 clear hr0_1 hc0_1
 have HB := Aside0.mk (Below.refl w.heap.size w)
 have H : (if a1 = 0 then ((rule_class.f l0_0 l0_1 a2 a3).bind fun t115 => (some t115)) else ((rule_letter.f l0_0 l0_1 a1).bind fun t116 => (if t116 = true then (some ((Go.bits .or .u32 a2 a3) == 0)) else (some false)))) = some r := h
 clear h
 by_cases c5 : a1 = 0
 ·rw [if_pos c5] at H
  have c5b0 : (a1 == 0) = true := beq_iff_eq.mpr c5
  have c5b1 : (a1 != 0) = false := bne_eq_false_iff_eq.mpr c5
  clear c5
  replace H := Option.bind_eq_some_iff.mp H
  obtain ⟨t115, A60, H⟩ := H
  replace H : (some t115) = some r := H
  have A6 := Aside0.mk A60
  clear A60
  obtain rfl := Option.some.inj H
  go_enter Tryd.func81, Tryd.ntmps81
  go_wp2_with (first | ((with_reducible refine gate_dst (N := 4) rfl ?_); refine box_event ?hg (N := 4) ?hd (cs := #[.slice A0_0 l0_0.length c0_0, .slice A0_1 l0_1.length c0_1]) (t := 25) ?hr ?_; (case hd => rfl); (case hg => rfl); (case hr => first | (go_simp; done) | (go_simp; rfl)); intro gb114 hg w7 hbox hb; have n0_ := Aside0.mk (below_step (by repeat (first | (with_reducible first | exact HB.out | apply below_alloc | apply pw_below_drewN | apply below_drew1) | exact HB.out)) hb); have n1_ := Aside0.mk (hbox); have n2_ := Aside0.mk ((by rw [hg]; exact (below_size (by repeat (first | (with_reducible first | exact HB.out | apply below_alloc | apply pw_below_drewN | apply below_drew1) | exact HB.out))) : w.heap.size ≤ gb114)); have n3_ := Aside0.mk ((by rw [hg]; exact (below_size (by repeat (first | (with_reducible first | exact HB.out | apply below_alloc | apply pw_below_drewN | apply below_drew1) | exact HB.out))) : w.heap.size ≤ gb114)); clear HB; have HB := n0_; have BK114 := n1_; have GW114 := n2_; have GE114 := n3_; clear n0_ n1_ n2_ n3_; clear hb hbox hg; have hcz8_0 : w7.cell? ⟨gb114, 0, none⟩ = some (.slice A0_0 l0_0.length c0_0) := (blk_cell BK114.out 0).trans rfl; have hcz8_1 : w7.cell? ⟨gb114, 1, none⟩ = some (.slice A0_1 l0_1.length c0_1) := (blk_cell BK114.out 1).trans rfl; have hfz8_0 := blk_frozen BK114.out 0; have hfz8_1 := blk_frozen BK114.out 1) | ((with_reducible refine gate_callee (f := 109) rfl ?_); refine goesL_ (some 23) rfl rfl Tryd.func109 (by kernel_rfl) rfl #[.agg #[.slice A0_0 l0_0.length c0_0, .slice A0_1 l0_1.length c0_1], .int .u32 a2, .int .u32 a3] rfl (by (try simp only [List.map_toArray, List.map_cons, List.map_nil]); first | done | rfl | (simp only [List.length_drop, List.length_take]; rfl)) ?_; (with_reducible refine (rule_class.calls _ _ l0_0 _ _ l0_1 a2 a3 t115 _ ?side1 ?side2 ?side3 ?side4 A6.out).mono ?_); (case side1 => repeat (first | exact (Kd.C_below HR0_0.out HB.out) | (with_reducible refine Kd.C_alloc ?_ _) | (with_reducible refine Kd.C_drewN ?_ _) | (with_reducible refine Kd.C_drew ?_))); (case side2 => exact HC0_0.out); (case side3 => repeat (first | exact (Kd.C_below HR0_1.out HB.out) | (with_reducible refine Kd.C_alloc ?_ _) | (with_reducible refine Kd.C_drewN ?_ _) | (with_reducible refine Kd.C_drew ?_))); (case side4 => exact HC0_1.out); rintro e w9 ⟨rfl, hb⟩; refine ⟨_, rfl, ?_⟩; have n0_ := Aside0.mk (blk_below (g := gb114) (o := .cells #[.slice A0_0 l0_0.length c0_0, .slice A0_1 l0_1.length c0_1] 25 (0, 0)) (by (with_reducible repeat (first | refine blk_drewN ?_ _ | refine blk_drew ?_ | refine blk_alloc ?_ _)); exact BK114.out) hb); have n1_ := Aside0.mk (below_step (by repeat (first | (with_reducible first | exact HB.out | apply below_alloc | apply pw_below_drewN | apply below_drew1 | refine below_set ?_ GE114.out) | exact HB.out)) hb); clear BK114; clear HB; have BK114 := n0_; have HB := n1_; clear n0_ n1_; (try clear hb); (try clear hb2); (try clear hk); (try clear hi)))
  go_ret
  exact ⟨by first | rfl | (simp [errW_none, errW_some] <;> rfl) | (simp [*, errW_none, errW_some] <;> rfl), by repeat (first | (with_reducible first | exact HB.out | apply below_alloc | apply pw_below_drewN | apply below_drew1 | refine below_set ?_ GE114.out) | exact HB.out)⟩
 ·rw [if_neg c5] at H
  have c5b0 : (a1 == 0) = false := beq_eq_false_iff_ne.mpr c5
  have c5b1 : (a1 != 0) = true := bne_iff_ne.mpr c5
  replace H := Option.bind_eq_some_iff.mp H
  obtain ⟨t116, A100, H⟩ := H
  replace H : (if t116 = true then (some ((Go.bits .or .u32 a2 a3) == 0)) else (some false)) = some r := H
  have A10 := Aside0.mk A100
  clear A100
  by_cases c11 : t116 = true
  ·subst c11
   have H1 : (some ((Go.bits .or .u32 a2 a3) == 0)) = some r := by rw [if_pos rfl] at H; exact H
   clear H
   have H := H1
   clear H1
   obtain rfl := Option.some.inj H
   go_enter Tryd.func81, Tryd.ntmps81
   go_wp2_with (first | ((with_reducible refine gate_dst (N := 4) rfl ?_); refine box_event ?hg (N := 4) ?hd (cs := #[.slice A0_0 l0_0.length c0_0, .slice A0_1 l0_1.length c0_1]) (t := 25) ?hr ?_; (case hd => rfl); (case hg => rfl); (case hr => first | (go_simp; done) | (go_simp; rfl)); intro gb114 hg w12 hbox hb; have n0_ := Aside0.mk (below_step (by repeat (first | (with_reducible first | exact HB.out | apply below_alloc | apply pw_below_drewN | apply below_drew1) | exact HB.out)) hb); have n1_ := Aside0.mk (hbox); have n2_ := Aside0.mk ((by rw [hg]; exact (below_size (by repeat (first | (with_reducible first | exact HB.out | apply below_alloc | apply pw_below_drewN | apply below_drew1) | exact HB.out))) : w.heap.size ≤ gb114)); have n3_ := Aside0.mk ((by rw [hg]; exact (below_size (by repeat (first | (with_reducible first | exact HB.out | apply below_alloc | apply pw_below_drewN | apply below_drew1) | exact HB.out))) : w.heap.size ≤ gb114)); clear HB; have HB := n0_; have BK114 := n1_; have GW114 := n2_; have GE114 := n3_; clear n0_ n1_ n2_ n3_; clear hb hbox hg; have hcz13_0 : w12.cell? ⟨gb114, 0, none⟩ = some (.slice A0_0 l0_0.length c0_0) := (blk_cell BK114.out 0).trans rfl; have hcz13_1 : w12.cell? ⟨gb114, 1, none⟩ = some (.slice A0_1 l0_1.length c0_1) := (blk_cell BK114.out 1).trans rfl; have hfz13_0 := blk_frozen BK114.out 0; have hfz13_1 := blk_frozen BK114.out 1) | ((with_reducible refine gate_callee (f := 108) rfl ?_); refine goesL_ (some 13) rfl rfl Tryd.func108 (by kernel_rfl) rfl #[.agg #[.slice A0_0 l0_0.length c0_0, .slice A0_1 l0_1.length c0_1], .int .i32 a1] rfl (by (try simp only [List.map_toArray, List.map_cons, List.map_nil]); first | done | rfl | (simp only [List.length_drop, List.length_take]; rfl)) ?_; (with_reducible refine (rule_letter.calls _ _ l0_0 _ _ l0_1 a1 true _ ?side1 ?side2 ?side3 ?side4 A10.out).mono ?_); (case side1 => repeat (first | exact (Kd.C_below HR0_0.out HB.out) | (with_reducible refine Kd.C_alloc ?_ _) | (with_reducible refine Kd.C_drewN ?_ _) | (with_reducible refine Kd.C_drew ?_))); (case side2 => exact HC0_0.out); (case side3 => repeat (first | exact (Kd.C_below HR0_1.out HB.out) | (with_reducible refine Kd.C_alloc ?_ _) | (with_reducible refine Kd.C_drewN ?_ _) | (with_reducible refine Kd.C_drew ?_))); (case side4 => exact HC0_1.out); rintro e w14 ⟨rfl, hb⟩; refine ⟨_, rfl, ?_⟩; have n0_ := Aside0.mk (blk_below (g := gb114) (o := .cells #[.slice A0_0 l0_0.length c0_0, .slice A0_1 l0_1.length c0_1] 25 (0, 0)) (by (with_reducible repeat (first | refine blk_drewN ?_ _ | refine blk_drew ?_ | refine blk_alloc ?_ _)); exact BK114.out) hb); have n1_ := Aside0.mk (below_step (by repeat (first | (with_reducible first | exact HB.out | apply below_alloc | apply pw_below_drewN | apply below_drew1 | refine below_set ?_ GE114.out) | exact HB.out)) hb); clear BK114; clear HB; have BK114 := n0_; have HB := n1_; clear n0_ n1_; (try clear hb); (try clear hb2); (try clear hk); (try clear hi)))
   go_ret
   exact ⟨by first | rfl | (simp [errW_none, errW_some] <;> rfl) | (simp [*, errW_none, errW_some] <;> rfl), by repeat (first | (with_reducible first | exact HB.out | apply below_alloc | apply pw_below_drewN | apply below_drew1 | refine below_set ?_ GE114.out) | exact HB.out)⟩
  ·replace c11 := Bool.eq_false_iff.mpr c11
   subst c11
   have H1 : (some false) = some r := by rw [if_neg (show ¬ (false = true) by decide)] at H; exact H
   clear H
   have H := H1
   clear H1
   obtain rfl := Option.some.inj H
   go_enter Tryd.func81, Tryd.ntmps81
   go_wp2_with (first | ((with_reducible refine gate_dst (N := 4) rfl ?_); refine box_event ?hg (N := 4) ?hd (cs := #[.slice A0_0 l0_0.length c0_0, .slice A0_1 l0_1.length c0_1]) (t := 25) ?hr ?_; (case hd => rfl); (case hg => rfl); (case hr => first | (go_simp; done) | (go_simp; rfl)); intro gb114 hg w15 hbox hb; have n0_ := Aside0.mk (below_step (by repeat (first | (with_reducible first | exact HB.out | apply below_alloc | apply pw_below_drewN | apply below_drew1) | exact HB.out)) hb); have n1_ := Aside0.mk (hbox); have n2_ := Aside0.mk ((by rw [hg]; exact (below_size (by repeat (first | (with_reducible first | exact HB.out | apply below_alloc | apply pw_below_drewN | apply below_drew1) | exact HB.out))) : w.heap.size ≤ gb114)); have n3_ := Aside0.mk ((by rw [hg]; exact (below_size (by repeat (first | (with_reducible first | exact HB.out | apply below_alloc | apply pw_below_drewN | apply below_drew1) | exact HB.out))) : w.heap.size ≤ gb114)); clear HB; have HB := n0_; have BK114 := n1_; have GW114 := n2_; have GE114 := n3_; clear n0_ n1_ n2_ n3_; clear hb hbox hg; have hcz16_0 : w15.cell? ⟨gb114, 0, none⟩ = some (.slice A0_0 l0_0.length c0_0) := (blk_cell BK114.out 0).trans rfl; have hcz16_1 : w15.cell? ⟨gb114, 1, none⟩ = some (.slice A0_1 l0_1.length c0_1) := (blk_cell BK114.out 1).trans rfl; have hfz16_0 := blk_frozen BK114.out 0; have hfz16_1 := blk_frozen BK114.out 1) | ((with_reducible refine gate_callee (f := 108) rfl ?_); refine goesL_ (some 13) rfl rfl Tryd.func108 (by kernel_rfl) rfl #[.agg #[.slice A0_0 l0_0.length c0_0, .slice A0_1 l0_1.length c0_1], .int .i32 a1] rfl (by (try simp only [List.map_toArray, List.map_cons, List.map_nil]); first | done | rfl | (simp only [List.length_drop, List.length_take]; rfl)) ?_; (with_reducible refine (rule_letter.calls _ _ l0_0 _ _ l0_1 a1 false _ ?side1 ?side2 ?side3 ?side4 A10.out).mono ?_); (case side1 => repeat (first | exact (Kd.C_below HR0_0.out HB.out) | (with_reducible refine Kd.C_alloc ?_ _) | (with_reducible refine Kd.C_drewN ?_ _) | (with_reducible refine Kd.C_drew ?_))); (case side2 => exact HC0_0.out); (case side3 => repeat (first | exact (Kd.C_below HR0_1.out HB.out) | (with_reducible refine Kd.C_alloc ?_ _) | (with_reducible refine Kd.C_drewN ?_ _) | (with_reducible refine Kd.C_drew ?_))); (case side4 => exact HC0_1.out); rintro e w17 ⟨rfl, hb⟩; refine ⟨_, rfl, ?_⟩; have n0_ := Aside0.mk (blk_below (g := gb114) (o := .cells #[.slice A0_0 l0_0.length c0_0, .slice A0_1 l0_1.length c0_1] 25 (0, 0)) (by (with_reducible repeat (first | refine blk_drewN ?_ _ | refine blk_drew ?_ | refine blk_alloc ?_ _)); exact BK114.out) hb); have n1_ := Aside0.mk (below_step (by repeat (first | (with_reducible first | exact HB.out | apply below_alloc | apply pw_below_drewN | apply below_drew1 | refine below_set ?_ GE114.out) | exact HB.out)) hb); clear BK114; clear HB; have BK114 := n0_; have HB := n1_; clear n0_ n1_; (try clear hb); (try clear hb2); (try clear hk); (try clear hi)))
   go_ret
   exact ⟨by first | rfl | (simp [errW_none, errW_some] <;> rfl) | (simp [*, errW_none, errW_some] <;> rfl), by repeat (first | (with_reducible first | exact HB.out | apply below_alloc | apply pw_below_drewN | apply below_drew1 | refine below_set ?_ GE114.out) | exact HB.out)⟩
end Go.Proofs.YtplkoabikliagaaDoor.K
namespace Go.Proofs.YtplkoabikliagaaDoor.K
open Go.RowKit Go.Proofs.YtplkoabikliagaaDoorW.PrintWords Go.Proofs.YtplkoabikliagaaDoorW.PrintLast Go.Proofs.YtplkoabikliagaaDoorW.PrintMore
attribute [local go_sem] max2_int min2_int max_two min_two max_three min_three max_four min_four
set_option linter.unusedVariables false
set_option linter.unusedSimpArgs false
def rule_swap.f (l0_0 : List ByteArray) (l0_1 : List (S99)) (a1_0 : Int) (a1_1 : Int) (a1_2 : Int) (a1_3 : Int) (a2 : Int) : Option (Bool) := if a1_0 = 0 then (if a1_1 < 0 then (some false) else (if a1_1 ≥ a2 then (some false) else ((rule_either.f l0_0 l0_1 a1_0 a1_2 a1_3).bind fun t119 => (some t119)))) else (if a1_1 = 0 then ((rule_either.f l0_0 l0_1 a1_0 a1_2 a1_3).bind fun t120 => (some t120)) else (some false))
set_option maxHeartbeats 8000000 in
set_option maxRecDepth 100000 in
theorem rule_swap.calls (A0_0 : Option Addr) (c0_0 : Nat) (l0_0 : List ByteArray) (A0_1 : Option Addr) (c0_1 : Nat) (l0_1 : List (S99)) (a1_0 : Int) (a1_1 : Int) (a1_2 : Int) (a1_3 : Int) (a2 : Int) (r : Bool) (w : World) (hr0_0 : Kd.C Kd.string w A0_0 l0_0.length l0_0) (hc0_0 : l0_0.length ≤ c0_0) (hr0_1 : Kd.C k99 w A0_1 l0_1.length l0_1) (hc0_1 : l0_1.length ≤ c0_1) (h : rule_swap.f l0_0 l0_1 a1_0 a1_1 a1_2 a1_3 a2 = some r) :
  Calls Tryd.prog 82 #[.agg #[.slice A0_0 l0_0.length c0_0, .slice A0_1 l0_1.length c0_1], .agg #[.int .i32 a1_0, .int .i64 a1_1, .int .u32 a1_2, .int .u32 a1_3], .int .i64 a2] w fun e w' => e = .returned (.bool r) ∧ Below w.heap.size w w' := by
 have hu25 := Tryd.underlying25
 have hu172 := Tryd.underlying172
 have HR0_0 := Aside0.mk hr0_0
 have HC0_0 := Aside0.mk hc0_0
 clear hr0_0 hc0_0
 have HR0_1 := Aside0.mk hr0_1
 have HC0_1 := Aside0.mk hc0_1
 clear hr0_1 hc0_1
 have HB := Aside0.mk (Below.refl w.heap.size w)
 have H : (if a1_0 = 0 then (if a1_1 < 0 then (some false) else (if a1_1 ≥ a2 then (some false) else ((rule_either.f l0_0 l0_1 a1_0 a1_2 a1_3).bind fun t119 => (some t119)))) else (if a1_1 = 0 then ((rule_either.f l0_0 l0_1 a1_0 a1_2 a1_3).bind fun t120 => (some t120)) else (some false))) = some r := h
 clear h
 by_cases c4 : a1_0 = 0
 ·rw [if_pos c4] at H
  have c4b0 : (a1_0 == 0) = true := beq_iff_eq.mpr c4
  have c4b1 : (a1_0 != 0) = false := bne_eq_false_iff_eq.mpr c4
  clear c4
  by_cases c5 : a1_1 < 0
  ·rw [if_pos c5] at H
   have c5b0 : decide (a1_1 < 0) = true := decide_eq_true c5
   clear c5
   obtain rfl := Option.some.inj H
   go_enter Tryd.func82, Tryd.ntmps82
   go_wp2_with (first | ((with_reducible refine gate_dst (N := 3) rfl ?_); refine box_event ?hg (N := 3) ?hd (cs := #[.slice A0_0 l0_0.length c0_0, .slice A0_1 l0_1.length c0_1]) (t := 25) ?hr ?_; (case hd => rfl); (case hg => rfl); (case hr => first | (go_simp; done) | (go_simp; rfl)); intro gb117 hg w6 hbox hb; have n0_ := Aside0.mk (below_step (by repeat (first | (with_reducible first | exact HB.out | apply below_alloc | apply pw_below_drewN | apply below_drew1) | exact HB.out)) hb); have n1_ := Aside0.mk (hbox); have n2_ := Aside0.mk ((by rw [hg]; exact (below_size (by repeat (first | (with_reducible first | exact HB.out | apply below_alloc | apply pw_below_drewN | apply below_drew1) | exact HB.out))) : w.heap.size ≤ gb117)); have n3_ := Aside0.mk ((by rw [hg]; exact (below_size (by repeat (first | (with_reducible first | exact HB.out | apply below_alloc | apply pw_below_drewN | apply below_drew1) | exact HB.out))) : w.heap.size ≤ gb117)); clear HB; have HB := n0_; have BK117 := n1_; have GW117 := n2_; have GE117 := n3_; clear n0_ n1_ n2_ n3_; clear hb hbox hg) | ((with_reducible refine gate_dst (N := 4) rfl ?_); refine box_event ?hg (N := 4) ?hd (cs := #[.int .i32 a1_0, .int .i64 a1_1, .int .u32 a1_2, .int .u32 a1_3]) (t := 172) ?hr ?_; (case hd => rfl); (case hg => rfl); (case hr => first | (go_simp; done) | (go_simp; rfl)); intro gb118 hg w7 hbox hb; have n0_ := Aside0.mk (blk_below (g := gb117) (o := .cells #[.slice A0_0 l0_0.length c0_0, .slice A0_1 l0_1.length c0_1] 25 (0, 0)) (by (with_reducible repeat (first | refine blk_drewN ?_ _ | refine blk_drew ?_ | refine blk_alloc ?_ _)); exact BK117.out) hb); have n1_ := Aside0.mk (below_step (by repeat (first | (with_reducible first | exact HB.out | apply below_alloc | apply pw_below_drewN | apply below_drew1 | refine below_set ?_ GE117.out) | exact HB.out)) hb); have n2_ := Aside0.mk (hbox); have n3_ := Aside0.mk ((by rw [hg]; exact (below_size (by repeat (first | (with_reducible first | exact HB.out | apply below_alloc | apply pw_below_drewN | apply below_drew1 | refine below_set ?_ GE117.out) | exact HB.out))) : w.heap.size ≤ gb118)); have n4_ := Aside0.mk ((by rw [hg]; exact (below_size (by repeat (first | (with_reducible first | exact HB.out | apply below_alloc | apply pw_below_drewN | apply below_drew1 | refine below_set ?_ GE117.out) | exact HB.out))) : w.heap.size ≤ gb118)); have n5_ := Aside0.mk ((by rw [hg]; exact Nat.ne_of_lt (blk_lt (g := gb117) (o := .cells #[.slice A0_0 l0_0.length c0_0, .slice A0_1 l0_1.length c0_1] 25 (0, 0)) (by (with_reducible repeat (first | refine blk_drewN ?_ _ | refine blk_drew ?_ | refine blk_alloc ?_ _)); exact BK117.out)) : gb117 ≠ gb118)); have n6_ := Aside0.mk ((by rw [hg]; exact Nat.ne_of_gt (blk_lt (g := gb117) (o := .cells #[.slice A0_0 l0_0.length c0_0, .slice A0_1 l0_1.length c0_1] 25 (0, 0)) (by (with_reducible repeat (first | refine blk_drewN ?_ _ | refine blk_drew ?_ | refine blk_alloc ?_ _)); exact BK117.out)) : gb118 ≠ gb117)); clear BK117; clear HB; have BK117 := n0_; have HB := n1_; have BK118 := n2_; have GW118 := n3_; have GE118 := n4_; have NB117_118 := n5_; have NB118_117 := n6_; clear n0_ n1_ n2_ n3_ n4_ n5_ n6_; clear hb hbox hg; have hnb8 := NB118_117.out; have hnc8 := NB117_118.out; have hcz9_0 : w7.cell? ⟨gb118, 0, none⟩ = some (.int .i32 a1_0) := (blk_cell BK118.out 0).trans rfl; have hcz9_1 : w7.cell? ⟨gb118, 1, none⟩ = some (.int .i64 a1_1) := (blk_cell BK118.out 1).trans rfl; have hcz9_2 : w7.cell? ⟨gb118, 2, none⟩ = some (.int .u32 a1_2) := (blk_cell BK118.out 2).trans rfl; have hcz9_3 : w7.cell? ⟨gb118, 3, none⟩ = some (.int .u32 a1_3) := (blk_cell BK118.out 3).trans rfl; have hfz9_0 := blk_frozen BK118.out 0; have hfz9_1 := blk_frozen BK118.out 1; have hfz9_2 := blk_frozen BK118.out 2; have hfz9_3 := blk_frozen BK118.out 3))
   go_ret
   exact ⟨by first | rfl | (simp [errW_none, errW_some] <;> rfl) | (simp [*, errW_none, errW_some] <;> rfl), by repeat (first | (with_reducible first | exact HB.out | apply below_alloc | apply pw_below_drewN | apply below_drew1 | refine below_set ?_ GE117.out | refine below_set ?_ GE118.out) | exact HB.out)⟩
  ·rw [if_neg c5] at H
   have c5b0 : decide (a1_1 < 0) = false := decide_eq_false c5
   clear c5
   by_cases c10 : a1_1 ≥ a2
   ·rw [if_pos c10] at H
    have c10b0 : decide (a2 ≤ a1_1) = true := decide_eq_true c10
    clear c10
    obtain rfl := Option.some.inj H
    go_enter Tryd.func82, Tryd.ntmps82
    go_wp2_with (first | ((with_reducible refine gate_dst (N := 3) rfl ?_); refine box_event ?hg (N := 3) ?hd (cs := #[.slice A0_0 l0_0.length c0_0, .slice A0_1 l0_1.length c0_1]) (t := 25) ?hr ?_; (case hd => rfl); (case hg => rfl); (case hr => first | (go_simp; done) | (go_simp; rfl)); intro gb117 hg w11 hbox hb; have n0_ := Aside0.mk (below_step (by repeat (first | (with_reducible first | exact HB.out | apply below_alloc | apply pw_below_drewN | apply below_drew1) | exact HB.out)) hb); have n1_ := Aside0.mk (hbox); have n2_ := Aside0.mk ((by rw [hg]; exact (below_size (by repeat (first | (with_reducible first | exact HB.out | apply below_alloc | apply pw_below_drewN | apply below_drew1) | exact HB.out))) : w.heap.size ≤ gb117)); have n3_ := Aside0.mk ((by rw [hg]; exact (below_size (by repeat (first | (with_reducible first | exact HB.out | apply below_alloc | apply pw_below_drewN | apply below_drew1) | exact HB.out))) : w.heap.size ≤ gb117)); clear HB; have HB := n0_; have BK117 := n1_; have GW117 := n2_; have GE117 := n3_; clear n0_ n1_ n2_ n3_; clear hb hbox hg) | ((with_reducible refine gate_dst (N := 4) rfl ?_); refine box_event ?hg (N := 4) ?hd (cs := #[.int .i32 a1_0, .int .i64 a1_1, .int .u32 a1_2, .int .u32 a1_3]) (t := 172) ?hr ?_; (case hd => rfl); (case hg => rfl); (case hr => first | (go_simp; done) | (go_simp; rfl)); intro gb118 hg w12 hbox hb; have n0_ := Aside0.mk (blk_below (g := gb117) (o := .cells #[.slice A0_0 l0_0.length c0_0, .slice A0_1 l0_1.length c0_1] 25 (0, 0)) (by (with_reducible repeat (first | refine blk_drewN ?_ _ | refine blk_drew ?_ | refine blk_alloc ?_ _)); exact BK117.out) hb); have n1_ := Aside0.mk (below_step (by repeat (first | (with_reducible first | exact HB.out | apply below_alloc | apply pw_below_drewN | apply below_drew1 | refine below_set ?_ GE117.out) | exact HB.out)) hb); have n2_ := Aside0.mk (hbox); have n3_ := Aside0.mk ((by rw [hg]; exact (below_size (by repeat (first | (with_reducible first | exact HB.out | apply below_alloc | apply pw_below_drewN | apply below_drew1 | refine below_set ?_ GE117.out) | exact HB.out))) : w.heap.size ≤ gb118)); have n4_ := Aside0.mk ((by rw [hg]; exact (below_size (by repeat (first | (with_reducible first | exact HB.out | apply below_alloc | apply pw_below_drewN | apply below_drew1 | refine below_set ?_ GE117.out) | exact HB.out))) : w.heap.size ≤ gb118)); have n5_ := Aside0.mk ((by rw [hg]; exact Nat.ne_of_lt (blk_lt (g := gb117) (o := .cells #[.slice A0_0 l0_0.length c0_0, .slice A0_1 l0_1.length c0_1] 25 (0, 0)) (by (with_reducible repeat (first | refine blk_drewN ?_ _ | refine blk_drew ?_ | refine blk_alloc ?_ _)); exact BK117.out)) : gb117 ≠ gb118)); have n6_ := Aside0.mk ((by rw [hg]; exact Nat.ne_of_gt (blk_lt (g := gb117) (o := .cells #[.slice A0_0 l0_0.length c0_0, .slice A0_1 l0_1.length c0_1] 25 (0, 0)) (by (with_reducible repeat (first | refine blk_drewN ?_ _ | refine blk_drew ?_ | refine blk_alloc ?_ _)); exact BK117.out)) : gb118 ≠ gb117)); clear BK117; clear HB; have BK117 := n0_; have HB := n1_; have BK118 := n2_; have GW118 := n3_; have GE118 := n4_; have NB117_118 := n5_; have NB118_117 := n6_; clear n0_ n1_ n2_ n3_ n4_ n5_ n6_; clear hb hbox hg; have hnb13 := NB118_117.out; have hnc13 := NB117_118.out; have hcz14_0 : w12.cell? ⟨gb118, 0, none⟩ = some (.int .i32 a1_0) := (blk_cell BK118.out 0).trans rfl; have hcz14_1 : w12.cell? ⟨gb118, 1, none⟩ = some (.int .i64 a1_1) := (blk_cell BK118.out 1).trans rfl; have hcz14_2 : w12.cell? ⟨gb118, 2, none⟩ = some (.int .u32 a1_2) := (blk_cell BK118.out 2).trans rfl; have hcz14_3 : w12.cell? ⟨gb118, 3, none⟩ = some (.int .u32 a1_3) := (blk_cell BK118.out 3).trans rfl; have hfz14_0 := blk_frozen BK118.out 0; have hfz14_1 := blk_frozen BK118.out 1; have hfz14_2 := blk_frozen BK118.out 2; have hfz14_3 := blk_frozen BK118.out 3))
    go_ret
    exact ⟨by first | rfl | (simp [errW_none, errW_some] <;> rfl) | (simp [*, errW_none, errW_some] <;> rfl), by repeat (first | (with_reducible first | exact HB.out | apply below_alloc | apply pw_below_drewN | apply below_drew1 | refine below_set ?_ GE117.out | refine below_set ?_ GE118.out) | exact HB.out)⟩
   ·rw [if_neg c10] at H
    have c10b0 : decide (a2 ≤ a1_1) = false := decide_eq_false c10
    clear c10
    replace H := Option.bind_eq_some_iff.mp H
    obtain ⟨t119, A150, H⟩ := H
    replace H : (some t119) = some r := H
    have A15 := Aside0.mk A150
    clear A150
    obtain rfl := Option.some.inj H
    go_enter Tryd.func82, Tryd.ntmps82
    go_wp2_with (first | ((with_reducible refine gate_dst (N := 3) rfl ?_); refine box_event ?hg (N := 3) ?hd (cs := #[.slice A0_0 l0_0.length c0_0, .slice A0_1 l0_1.length c0_1]) (t := 25) ?hr ?_; (case hd => rfl); (case hg => rfl); (case hr => first | (go_simp; done) | (go_simp; rfl)); intro gb117 hg w16 hbox hb; have n0_ := Aside0.mk (below_step (by repeat (first | (with_reducible first | exact HB.out | apply below_alloc | apply pw_below_drewN | apply below_drew1) | exact HB.out)) hb); have n1_ := Aside0.mk (hbox); have n2_ := Aside0.mk ((by rw [hg]; exact (below_size (by repeat (first | (with_reducible first | exact HB.out | apply below_alloc | apply pw_below_drewN | apply below_drew1) | exact HB.out))) : w.heap.size ≤ gb117)); have n3_ := Aside0.mk ((by rw [hg]; exact (below_size (by repeat (first | (with_reducible first | exact HB.out | apply below_alloc | apply pw_below_drewN | apply below_drew1) | exact HB.out))) : w.heap.size ≤ gb117)); clear HB; have HB := n0_; have BK117 := n1_; have GW117 := n2_; have GE117 := n3_; clear n0_ n1_ n2_ n3_; clear hb hbox hg) | ((with_reducible refine gate_dst (N := 4) rfl ?_); refine box_event ?hg (N := 4) ?hd (cs := #[.int .i32 a1_0, .int .i64 a1_1, .int .u32 a1_2, .int .u32 a1_3]) (t := 172) ?hr ?_; (case hd => rfl); (case hg => rfl); (case hr => first | (go_simp; done) | (go_simp; rfl)); intro gb118 hg w17 hbox hb; have n0_ := Aside0.mk (blk_below (g := gb117) (o := .cells #[.slice A0_0 l0_0.length c0_0, .slice A0_1 l0_1.length c0_1] 25 (0, 0)) (by (with_reducible repeat (first | refine blk_drewN ?_ _ | refine blk_drew ?_ | refine blk_alloc ?_ _)); exact BK117.out) hb); have n1_ := Aside0.mk (below_step (by repeat (first | (with_reducible first | exact HB.out | apply below_alloc | apply pw_below_drewN | apply below_drew1 | refine below_set ?_ GE117.out) | exact HB.out)) hb); have n2_ := Aside0.mk (hbox); have n3_ := Aside0.mk ((by rw [hg]; exact (below_size (by repeat (first | (with_reducible first | exact HB.out | apply below_alloc | apply pw_below_drewN | apply below_drew1 | refine below_set ?_ GE117.out) | exact HB.out))) : w.heap.size ≤ gb118)); have n4_ := Aside0.mk ((by rw [hg]; exact (below_size (by repeat (first | (with_reducible first | exact HB.out | apply below_alloc | apply pw_below_drewN | apply below_drew1 | refine below_set ?_ GE117.out) | exact HB.out))) : w.heap.size ≤ gb118)); have n5_ := Aside0.mk ((by rw [hg]; exact Nat.ne_of_lt (blk_lt (g := gb117) (o := .cells #[.slice A0_0 l0_0.length c0_0, .slice A0_1 l0_1.length c0_1] 25 (0, 0)) (by (with_reducible repeat (first | refine blk_drewN ?_ _ | refine blk_drew ?_ | refine blk_alloc ?_ _)); exact BK117.out)) : gb117 ≠ gb118)); have n6_ := Aside0.mk ((by rw [hg]; exact Nat.ne_of_gt (blk_lt (g := gb117) (o := .cells #[.slice A0_0 l0_0.length c0_0, .slice A0_1 l0_1.length c0_1] 25 (0, 0)) (by (with_reducible repeat (first | refine blk_drewN ?_ _ | refine blk_drew ?_ | refine blk_alloc ?_ _)); exact BK117.out)) : gb118 ≠ gb117)); clear BK117; clear HB; have BK117 := n0_; have HB := n1_; have BK118 := n2_; have GW118 := n3_; have GE118 := n4_; have NB117_118 := n5_; have NB118_117 := n6_; clear n0_ n1_ n2_ n3_ n4_ n5_ n6_; clear hb hbox hg; have hnb18 := NB118_117.out; have hnc18 := NB117_118.out; have hcz19_0 : w17.cell? ⟨gb118, 0, none⟩ = some (.int .i32 a1_0) := (blk_cell BK118.out 0).trans rfl; have hcz19_1 : w17.cell? ⟨gb118, 1, none⟩ = some (.int .i64 a1_1) := (blk_cell BK118.out 1).trans rfl; have hcz19_2 : w17.cell? ⟨gb118, 2, none⟩ = some (.int .u32 a1_2) := (blk_cell BK118.out 2).trans rfl; have hcz19_3 : w17.cell? ⟨gb118, 3, none⟩ = some (.int .u32 a1_3) := (blk_cell BK118.out 3).trans rfl; have hfz19_0 := blk_frozen BK118.out 0; have hfz19_1 := blk_frozen BK118.out 1; have hfz19_2 := blk_frozen BK118.out 2; have hfz19_3 := blk_frozen BK118.out 3; have hcz20_0 : w17.cell? ⟨gb117, 0, none⟩ = some (.slice A0_0 l0_0.length c0_0) := (blk_cell BK117.out 0).trans rfl; have hcz20_1 : w17.cell? ⟨gb117, 1, none⟩ = some (.slice A0_1 l0_1.length c0_1) := (blk_cell BK117.out 1).trans rfl; have hfz20_0 := blk_frozen BK117.out 0; have hfz20_1 := blk_frozen BK117.out 1) | ((with_reducible refine gate_callee (f := 81) rfl ?_); refine goesL_ (some 38) rfl rfl Tryd.func81 (by kernel_rfl) rfl #[.agg #[.slice A0_0 l0_0.length c0_0, .slice A0_1 l0_1.length c0_1], .int .i32 a1_0, .int .u32 a1_2, .int .u32 a1_3] rfl (by (try simp only [List.map_toArray, List.map_cons, List.map_nil]); first | done | rfl | (simp only [List.length_drop, List.length_take]; rfl)) ?_; (with_reducible refine (rule_either.calls _ _ l0_0 _ _ l0_1 a1_0 a1_2 a1_3 t119 _ ?side1 ?side2 ?side3 ?side4 A15.out).mono ?_); (case side1 => repeat (first | exact (Kd.C_below HR0_0.out HB.out) | (with_reducible refine Kd.C_alloc ?_ _) | (with_reducible refine Kd.C_drewN ?_ _) | (with_reducible refine Kd.C_drew ?_))); (case side2 => exact HC0_0.out); (case side3 => repeat (first | exact (Kd.C_below HR0_1.out HB.out) | (with_reducible refine Kd.C_alloc ?_ _) | (with_reducible refine Kd.C_drewN ?_ _) | (with_reducible refine Kd.C_drew ?_))); (case side4 => exact HC0_1.out); rintro e w21 ⟨rfl, hb⟩; refine ⟨_, rfl, ?_⟩; have n0_ := Aside0.mk (blk_below (g := gb117) (o := .cells #[.slice A0_0 l0_0.length c0_0, .slice A0_1 l0_1.length c0_1] 25 (0, 0)) (by (with_reducible repeat (first | refine blk_drewN ?_ _ | refine blk_drew ?_ | refine blk_alloc ?_ _)); exact BK117.out) hb); have n1_ := Aside0.mk (blk_below (g := gb118) (o := .cells #[.int .i32 a1_0, .int .i64 a1_1, .int .u32 a1_2, .int .u32 a1_3] 172 (0, 0)) (by (with_reducible repeat (first | refine blk_drewN ?_ _ | refine blk_drew ?_ | refine blk_alloc ?_ _)); exact BK118.out) hb); have n2_ := Aside0.mk (below_step (by repeat (first | (with_reducible first | exact HB.out | apply below_alloc | apply pw_below_drewN | apply below_drew1 | refine below_set ?_ GE117.out | refine below_set ?_ GE118.out) | exact HB.out)) hb); clear BK117; clear BK118; clear HB; have BK117 := n0_; have BK118 := n1_; have HB := n2_; clear n0_ n1_ n2_; (try clear hb); (try clear hb2); (try clear hk); (try clear hi)))
    go_ret
    exact ⟨by first | rfl | (simp [errW_none, errW_some] <;> rfl) | (simp [*, errW_none, errW_some] <;> rfl), by repeat (first | (with_reducible first | exact HB.out | apply below_alloc | apply pw_below_drewN | apply below_drew1 | refine below_set ?_ GE117.out | refine below_set ?_ GE118.out) | exact HB.out)⟩
 ·rw [if_neg c4] at H
  have c4b0 : (a1_0 == 0) = false := beq_eq_false_iff_ne.mpr c4
  have c4b1 : (a1_0 != 0) = true := bne_iff_ne.mpr c4
  by_cases c22 : a1_1 = 0
  ·rw [if_pos c22] at H
   have c22b0 : (a1_1 == 0) = true := beq_iff_eq.mpr c22
   have c22b1 : (a1_1 != 0) = false := bne_eq_false_iff_eq.mpr c22
   clear c22
   replace H := Option.bind_eq_some_iff.mp H
   obtain ⟨t120, A230, H⟩ := H
   replace H : (some t120) = some r := H
   have A23 := Aside0.mk A230
   clear A230
   obtain rfl := Option.some.inj H
   go_enter Tryd.func82, Tryd.ntmps82
   go_wp2_with (first | ((with_reducible refine gate_dst (N := 3) rfl ?_); refine box_event ?hg (N := 3) ?hd (cs := #[.slice A0_0 l0_0.length c0_0, .slice A0_1 l0_1.length c0_1]) (t := 25) ?hr ?_; (case hd => rfl); (case hg => rfl); (case hr => first | (go_simp; done) | (go_simp; rfl)); intro gb117 hg w24 hbox hb; have n0_ := Aside0.mk (below_step (by repeat (first | (with_reducible first | exact HB.out | apply below_alloc | apply pw_below_drewN | apply below_drew1) | exact HB.out)) hb); have n1_ := Aside0.mk (hbox); have n2_ := Aside0.mk ((by rw [hg]; exact (below_size (by repeat (first | (with_reducible first | exact HB.out | apply below_alloc | apply pw_below_drewN | apply below_drew1) | exact HB.out))) : w.heap.size ≤ gb117)); have n3_ := Aside0.mk ((by rw [hg]; exact (below_size (by repeat (first | (with_reducible first | exact HB.out | apply below_alloc | apply pw_below_drewN | apply below_drew1) | exact HB.out))) : w.heap.size ≤ gb117)); clear HB; have HB := n0_; have BK117 := n1_; have GW117 := n2_; have GE117 := n3_; clear n0_ n1_ n2_ n3_; clear hb hbox hg) | ((with_reducible refine gate_dst (N := 4) rfl ?_); refine box_event ?hg (N := 4) ?hd (cs := #[.int .i32 a1_0, .int .i64 a1_1, .int .u32 a1_2, .int .u32 a1_3]) (t := 172) ?hr ?_; (case hd => rfl); (case hg => rfl); (case hr => first | (go_simp; done) | (go_simp; rfl)); intro gb118 hg w25 hbox hb; have n0_ := Aside0.mk (blk_below (g := gb117) (o := .cells #[.slice A0_0 l0_0.length c0_0, .slice A0_1 l0_1.length c0_1] 25 (0, 0)) (by (with_reducible repeat (first | refine blk_drewN ?_ _ | refine blk_drew ?_ | refine blk_alloc ?_ _)); exact BK117.out) hb); have n1_ := Aside0.mk (below_step (by repeat (first | (with_reducible first | exact HB.out | apply below_alloc | apply pw_below_drewN | apply below_drew1 | refine below_set ?_ GE117.out) | exact HB.out)) hb); have n2_ := Aside0.mk (hbox); have n3_ := Aside0.mk ((by rw [hg]; exact (below_size (by repeat (first | (with_reducible first | exact HB.out | apply below_alloc | apply pw_below_drewN | apply below_drew1 | refine below_set ?_ GE117.out) | exact HB.out))) : w.heap.size ≤ gb118)); have n4_ := Aside0.mk ((by rw [hg]; exact (below_size (by repeat (first | (with_reducible first | exact HB.out | apply below_alloc | apply pw_below_drewN | apply below_drew1 | refine below_set ?_ GE117.out) | exact HB.out))) : w.heap.size ≤ gb118)); have n5_ := Aside0.mk ((by rw [hg]; exact Nat.ne_of_lt (blk_lt (g := gb117) (o := .cells #[.slice A0_0 l0_0.length c0_0, .slice A0_1 l0_1.length c0_1] 25 (0, 0)) (by (with_reducible repeat (first | refine blk_drewN ?_ _ | refine blk_drew ?_ | refine blk_alloc ?_ _)); exact BK117.out)) : gb117 ≠ gb118)); have n6_ := Aside0.mk ((by rw [hg]; exact Nat.ne_of_gt (blk_lt (g := gb117) (o := .cells #[.slice A0_0 l0_0.length c0_0, .slice A0_1 l0_1.length c0_1] 25 (0, 0)) (by (with_reducible repeat (first | refine blk_drewN ?_ _ | refine blk_drew ?_ | refine blk_alloc ?_ _)); exact BK117.out)) : gb118 ≠ gb117)); clear BK117; clear HB; have BK117 := n0_; have HB := n1_; have BK118 := n2_; have GW118 := n3_; have GE118 := n4_; have NB117_118 := n5_; have NB118_117 := n6_; clear n0_ n1_ n2_ n3_ n4_ n5_ n6_; clear hb hbox hg; have hnb26 := NB118_117.out; have hnc26 := NB117_118.out; have hcz27_0 : w25.cell? ⟨gb118, 0, none⟩ = some (.int .i32 a1_0) := (blk_cell BK118.out 0).trans rfl; have hcz27_1 : w25.cell? ⟨gb118, 1, none⟩ = some (.int .i64 a1_1) := (blk_cell BK118.out 1).trans rfl; have hcz27_2 : w25.cell? ⟨gb118, 2, none⟩ = some (.int .u32 a1_2) := (blk_cell BK118.out 2).trans rfl; have hcz27_3 : w25.cell? ⟨gb118, 3, none⟩ = some (.int .u32 a1_3) := (blk_cell BK118.out 3).trans rfl; have hfz27_0 := blk_frozen BK118.out 0; have hfz27_1 := blk_frozen BK118.out 1; have hfz27_2 := blk_frozen BK118.out 2; have hfz27_3 := blk_frozen BK118.out 3; have hcz28_0 : w25.cell? ⟨gb117, 0, none⟩ = some (.slice A0_0 l0_0.length c0_0) := (blk_cell BK117.out 0).trans rfl; have hcz28_1 : w25.cell? ⟨gb117, 1, none⟩ = some (.slice A0_1 l0_1.length c0_1) := (blk_cell BK117.out 1).trans rfl; have hfz28_0 := blk_frozen BK117.out 0; have hfz28_1 := blk_frozen BK117.out 1) | ((with_reducible refine gate_callee (f := 81) rfl ?_); refine goesL_ (some 38) rfl rfl Tryd.func81 (by kernel_rfl) rfl #[.agg #[.slice A0_0 l0_0.length c0_0, .slice A0_1 l0_1.length c0_1], .int .i32 a1_0, .int .u32 a1_2, .int .u32 a1_3] rfl (by (try simp only [List.map_toArray, List.map_cons, List.map_nil]); first | done | rfl | (simp only [List.length_drop, List.length_take]; rfl)) ?_; (with_reducible refine (rule_either.calls _ _ l0_0 _ _ l0_1 a1_0 a1_2 a1_3 t120 _ ?side1 ?side2 ?side3 ?side4 A23.out).mono ?_); (case side1 => repeat (first | exact (Kd.C_below HR0_0.out HB.out) | (with_reducible refine Kd.C_alloc ?_ _) | (with_reducible refine Kd.C_drewN ?_ _) | (with_reducible refine Kd.C_drew ?_))); (case side2 => exact HC0_0.out); (case side3 => repeat (first | exact (Kd.C_below HR0_1.out HB.out) | (with_reducible refine Kd.C_alloc ?_ _) | (with_reducible refine Kd.C_drewN ?_ _) | (with_reducible refine Kd.C_drew ?_))); (case side4 => exact HC0_1.out); rintro e w29 ⟨rfl, hb⟩; refine ⟨_, rfl, ?_⟩; have n0_ := Aside0.mk (blk_below (g := gb117) (o := .cells #[.slice A0_0 l0_0.length c0_0, .slice A0_1 l0_1.length c0_1] 25 (0, 0)) (by (with_reducible repeat (first | refine blk_drewN ?_ _ | refine blk_drew ?_ | refine blk_alloc ?_ _)); exact BK117.out) hb); have n1_ := Aside0.mk (blk_below (g := gb118) (o := .cells #[.int .i32 a1_0, .int .i64 a1_1, .int .u32 a1_2, .int .u32 a1_3] 172 (0, 0)) (by (with_reducible repeat (first | refine blk_drewN ?_ _ | refine blk_drew ?_ | refine blk_alloc ?_ _)); exact BK118.out) hb); have n2_ := Aside0.mk (below_step (by repeat (first | (with_reducible first | exact HB.out | apply below_alloc | apply pw_below_drewN | apply below_drew1 | refine below_set ?_ GE117.out | refine below_set ?_ GE118.out) | exact HB.out)) hb); clear BK117; clear BK118; clear HB; have BK117 := n0_; have BK118 := n1_; have HB := n2_; clear n0_ n1_ n2_; (try clear hb); (try clear hb2); (try clear hk); (try clear hi)))
   go_ret
   exact ⟨by first | rfl | (simp [errW_none, errW_some] <;> rfl) | (simp [*, errW_none, errW_some] <;> rfl), by repeat (first | (with_reducible first | exact HB.out | apply below_alloc | apply pw_below_drewN | apply below_drew1 | refine below_set ?_ GE117.out | refine below_set ?_ GE118.out) | exact HB.out)⟩
  ·rw [if_neg c22] at H
   have c22b0 : (a1_1 == 0) = false := beq_eq_false_iff_ne.mpr c22
   have c22b1 : (a1_1 != 0) = true := bne_iff_ne.mpr c22
   obtain rfl := Option.some.inj H
   go_enter Tryd.func82, Tryd.ntmps82
   go_wp2_with (first | ((with_reducible refine gate_dst (N := 3) rfl ?_); refine box_event ?hg (N := 3) ?hd (cs := #[.slice A0_0 l0_0.length c0_0, .slice A0_1 l0_1.length c0_1]) (t := 25) ?hr ?_; (case hd => rfl); (case hg => rfl); (case hr => first | (go_simp; done) | (go_simp; rfl)); intro gb117 hg w30 hbox hb; have n0_ := Aside0.mk (below_step (by repeat (first | (with_reducible first | exact HB.out | apply below_alloc | apply pw_below_drewN | apply below_drew1) | exact HB.out)) hb); have n1_ := Aside0.mk (hbox); have n2_ := Aside0.mk ((by rw [hg]; exact (below_size (by repeat (first | (with_reducible first | exact HB.out | apply below_alloc | apply pw_below_drewN | apply below_drew1) | exact HB.out))) : w.heap.size ≤ gb117)); have n3_ := Aside0.mk ((by rw [hg]; exact (below_size (by repeat (first | (with_reducible first | exact HB.out | apply below_alloc | apply pw_below_drewN | apply below_drew1) | exact HB.out))) : w.heap.size ≤ gb117)); clear HB; have HB := n0_; have BK117 := n1_; have GW117 := n2_; have GE117 := n3_; clear n0_ n1_ n2_ n3_; clear hb hbox hg) | ((with_reducible refine gate_dst (N := 4) rfl ?_); refine box_event ?hg (N := 4) ?hd (cs := #[.int .i32 a1_0, .int .i64 a1_1, .int .u32 a1_2, .int .u32 a1_3]) (t := 172) ?hr ?_; (case hd => rfl); (case hg => rfl); (case hr => first | (go_simp; done) | (go_simp; rfl)); intro gb118 hg w31 hbox hb; have n0_ := Aside0.mk (blk_below (g := gb117) (o := .cells #[.slice A0_0 l0_0.length c0_0, .slice A0_1 l0_1.length c0_1] 25 (0, 0)) (by (with_reducible repeat (first | refine blk_drewN ?_ _ | refine blk_drew ?_ | refine blk_alloc ?_ _)); exact BK117.out) hb); have n1_ := Aside0.mk (below_step (by repeat (first | (with_reducible first | exact HB.out | apply below_alloc | apply pw_below_drewN | apply below_drew1 | refine below_set ?_ GE117.out) | exact HB.out)) hb); have n2_ := Aside0.mk (hbox); have n3_ := Aside0.mk ((by rw [hg]; exact (below_size (by repeat (first | (with_reducible first | exact HB.out | apply below_alloc | apply pw_below_drewN | apply below_drew1 | refine below_set ?_ GE117.out) | exact HB.out))) : w.heap.size ≤ gb118)); have n4_ := Aside0.mk ((by rw [hg]; exact (below_size (by repeat (first | (with_reducible first | exact HB.out | apply below_alloc | apply pw_below_drewN | apply below_drew1 | refine below_set ?_ GE117.out) | exact HB.out))) : w.heap.size ≤ gb118)); have n5_ := Aside0.mk ((by rw [hg]; exact Nat.ne_of_lt (blk_lt (g := gb117) (o := .cells #[.slice A0_0 l0_0.length c0_0, .slice A0_1 l0_1.length c0_1] 25 (0, 0)) (by (with_reducible repeat (first | refine blk_drewN ?_ _ | refine blk_drew ?_ | refine blk_alloc ?_ _)); exact BK117.out)) : gb117 ≠ gb118)); have n6_ := Aside0.mk ((by rw [hg]; exact Nat.ne_of_gt (blk_lt (g := gb117) (o := .cells #[.slice A0_0 l0_0.length c0_0, .slice A0_1 l0_1.length c0_1] 25 (0, 0)) (by (with_reducible repeat (first | refine blk_drewN ?_ _ | refine blk_drew ?_ | refine blk_alloc ?_ _)); exact BK117.out)) : gb118 ≠ gb117)); clear BK117; clear HB; have BK117 := n0_; have HB := n1_; have BK118 := n2_; have GW118 := n3_; have GE118 := n4_; have NB117_118 := n5_; have NB118_117 := n6_; clear n0_ n1_ n2_ n3_ n4_ n5_ n6_; clear hb hbox hg; have hnb32 := NB118_117.out; have hnc32 := NB117_118.out; have hcz33_0 : w31.cell? ⟨gb118, 0, none⟩ = some (.int .i32 a1_0) := (blk_cell BK118.out 0).trans rfl; have hcz33_1 : w31.cell? ⟨gb118, 1, none⟩ = some (.int .i64 a1_1) := (blk_cell BK118.out 1).trans rfl; have hcz33_2 : w31.cell? ⟨gb118, 2, none⟩ = some (.int .u32 a1_2) := (blk_cell BK118.out 2).trans rfl; have hcz33_3 : w31.cell? ⟨gb118, 3, none⟩ = some (.int .u32 a1_3) := (blk_cell BK118.out 3).trans rfl; have hfz33_0 := blk_frozen BK118.out 0; have hfz33_1 := blk_frozen BK118.out 1; have hfz33_2 := blk_frozen BK118.out 2; have hfz33_3 := blk_frozen BK118.out 3))
   go_ret
   exact ⟨by first | rfl | (simp [errW_none, errW_some] <;> rfl) | (simp [*, errW_none, errW_some] <;> rfl), by repeat (first | (with_reducible first | exact HB.out | apply below_alloc | apply pw_below_drewN | apply below_drew1 | refine below_set ?_ GE117.out | refine below_set ?_ GE118.out) | exact HB.out)⟩
end Go.Proofs.YtplkoabikliagaaDoor.K
namespace Go.Proofs.YtplkoabikliagaaDoor.K
open Go.RowKit Go.Proofs.YtplkoabikliagaaDoorW.PrintWords Go.Proofs.YtplkoabikliagaaDoorW.PrintLast Go.Proofs.YtplkoabikliagaaDoorW.PrintMore
attribute [local go_sem] max2_int min2_int max_two min_two max_three min_three max_four min_four
set_option linter.unusedVariables false
set_option linter.unusedSimpArgs false
def slices_Index_bool_bool.l0 : Nat → List Bool → Bool → Int → Int → Option (Int)
 | 0, _, _, _, _ => none
 | k + 1, x0, x1, x7, x8 => if x8 < x7 then (if 0 ≤ x8 then (if x8 < (x0.length : Int) then (if (x1 == (rdOf false x0 x8)) = true then (some x8) else (slices_Index_bool_bool.l0 k x0 x1 x7 (wrap64 (x8 + 1)))) else (none)) else (none)) else (some (-1))
def slices_Index_bool_bool.f (k : Nat) (l0 : List Bool) (a1 : Bool) : Option (Int) := slices_Index_bool_bool.l0 k l0 a1 (l0.length : Int) 0
theorem slices_Index_bool_bool.mono_l : ∀ k, (∀ y0 y1 y2 y3, LeO (slices_Index_bool_bool.l0 k y0 y1 y2 y3) (slices_Index_bool_bool.l0 (k + 1) y0 y1 y2 y3))
 | 0 => fun _ _ _ _ r h => by simp [slices_Index_bool_bool.l0] at h
 | k + 1 => by
  have ih0 := slices_Index_bool_bool.mono_l k
  ·intro y0 y1 y2 y3
   unfold slices_Index_bool_bool.l0
   repeat' first
   | (with_reducible exact ih0 _ _ _ _)
   | (with_reducible exact LeO.refl _)
   | (with_reducible exact LeO.none _)
   | (with_reducible refine LeO.ite ?_ ?_)
   | (with_reducible refine LeO.bind ?_ (fun _ => ?_))
   | exact ih0 _ _ _ _
   | exact LeO.none _
   | refine LeO.ite ?_ ?_
   | refine LeO.bind ?_ (fun _ => ?_)
theorem slices_Index_bool_bool.mono : ∀ a0 a1 k, LeO (slices_Index_bool_bool.f k a0 a1) (slices_Index_bool_bool.f (k + 1) a0 a1) := by
 intro a0 a1 k
 have ih0 := slices_Index_bool_bool.mono_l k
 unfold slices_Index_bool_bool.f
 repeat' first
   | (with_reducible exact ih0 _ _ _ _)
   | (with_reducible exact LeO.refl _)
   | (with_reducible exact LeO.none _)
   | (with_reducible refine LeO.ite ?_ ?_)
   | (with_reducible refine LeO.bind ?_ (fun _ => ?_))
   | exact ih0 _ _ _ _
   | exact LeO.none _
   | refine LeO.ite ?_ ?_
   | refine LeO.bind ?_ (fun _ => ?_)
set_option maxHeartbeats 8000000 in
set_option maxRecDepth 100000 in
theorem slices_Index_bool_bool.calls (k : Nat) (A0 : Option Addr) (c0 : Nat) (l0 : List Bool) (a1 : Bool) (r : Int) (w : World) (hr0 : Kd.C Kd.bool w A0 l0.length l0) (hc0 : l0.length ≤ c0) (h : slices_Index_bool_bool.f k l0 a1 = some r) :
  Calls Tryd.prog 128 #[.slice A0 l0.length c0, .bool a1] w fun e w' => e = .returned (.int .i64 r) ∧ Drawn0 w w' := by
 have HR0 := Aside0.mk hr0
 have HC0 := Aside0.mk hc0
 clear hr0 hc0
 have H : (slices_Index_bool_bool.l0 k l0 a1 (l0.length : Int) 0) = some r := h
 clear h
 have H' := Aside0.mk H
 clear H
 go_enter Tryd.func128, Tryd.ntmps128
 go_wp2
 go_loopg [8] k (fun kq v8 w' => ∃ (x8_1 : Int), v8 = .int .i64 x8_1 ∧ Aside0 (slices_Index_bool_bool.l0 kq l0 a1 (l0.length : Int) x8_1 = some r) ∧ Aside0 (kq ≤ k) ∧ Drawn0 w w')
 case atStart => exact ⟨(0), (by first | rfl | (simp; done) | (simp [*]; done)), H', ⟨Nat.le_refl _⟩, by repeat (first | exact Drawn0.refl _ | apply Drawn0.step)⟩
 case round =>
  clear H'
  try clear c1
  try clear p2
  obtain ⟨x8_1, rfl, HA, HK1, ⟨m1, rfl⟩⟩ := hrel
  cases gk with
  | zero => exact absurd HA.out (by simp [slices_Index_bool_bool.l0])
  | succ k1 =>
   have H := HA.out
   clear HA
   simp only [slices_Index_bool_bool.l0] at H
   by_cases c3 : x8_1 < (l0.length : Int)
   ·rw [if_pos c3] at H
    have c3b0 : decide (x8_1 < (l0.length : Int)) = true := decide_eq_true c3
    clear c3
    by_cases c4 : 0 ≤ x8_1
    ·rw [if_pos c4] at H
     have c4b0 : decide (0 ≤ x8_1) = true := decide_eq_true c4
     clear c4
     by_cases c5 : x8_1 < (l0.length : Int)
     ·rw [if_pos c5] at H
      have c5b0 : decide (x8_1 < (l0.length : Int)) = true := decide_eq_true c5
      clear c5
      by_cases c6 : (a1 == (rdOf false l0 x8_1)) = true
      ·rw [if_pos c6] at H
       have c6b0 : (a1 == (rdOf false l0 x8_1)) = true := c6
       (try (have c6b1 : decide (a1 = (rdOf false l0 x8_1)) = true := by simpa using c6))
       (try (have c6b2 : (a1 == (rdOf false l0 x8_1)) = true := by simpa using c6))
       clear c6
       obtain rfl := Option.some.inj H
       have p121 : 0 ≤ (x8_1 : Int) := of_decide_eq_true (by first | (with_reducible assumption) | assumption)
       have q121 : x8_1 < (l0.length : Int) := of_decide_eq_true (by first | (with_reducible assumption) | assumption)
       obtain ⟨ad121, e121, hx121_0⟩ := Kd.at_bool HR0.out x8_1 p121 q121
       cases e121
       replace p121 := eq_true p121
       replace q121 := eq_true q121
       go_wp2
       go_ret
       exact ⟨by first | rfl | (simp; done) | (simp [*]; done), by repeat (first | exact Drawn0.refl _ | apply Drawn0.step)⟩
      ·rw [if_neg c6] at H
       have c6b0 : (a1 == (rdOf false l0 x8_1)) = false := by simpa using c6
       (try (have c6b1 : decide (a1 = (rdOf false l0 x8_1)) = false := by simpa using c6))
       (try (have c6b2 : (a1 == (rdOf false l0 x8_1)) = false := by simpa using c6))
       (try (have c6b3 : ¬ (a1 = (rdOf false l0 x8_1)) := by simpa using c6))
       clear c6
       have H' := Aside0.mk H
       clear H
       have p121 : 0 ≤ (x8_1 : Int) := of_decide_eq_true (by first | (with_reducible assumption) | assumption)
       have q121 : x8_1 < (l0.length : Int) := of_decide_eq_true (by first | (with_reducible assumption) | assumption)
       obtain ⟨ad121, e121, hx121_0⟩ := Kd.at_bool HR0.out x8_1 p121 q121
       cases e121
       replace p121 := eq_true p121
       replace q121 := eq_true q121
       go_wp2
       go_roundg k1
       case measure => have := HK1.out; omega
       case rel => exact ⟨(wrap64 (x8_1 + 1)), (by first | rfl | (simp; done) | (simp [*]; done)), H', ⟨by have := HK1.out; omega⟩, by repeat (first | exact Drawn0.refl _ | apply Drawn0.step)⟩
     ·rw [if_neg c5] at H
      exact absurd H (by simp)
    ·rw [if_neg c4] at H
     exact absurd H (by simp)
   ·rw [if_neg c3] at H
    have c3b0 : decide (x8_1 < (l0.length : Int)) = false := decide_eq_false c3
    clear c3
    obtain rfl := Option.some.inj H
    go_wp2
    go_ret
    exact ⟨by first | rfl | (simp; done) | (simp [*]; done), by repeat (first | exact Drawn0.refl _ | apply Drawn0.step)⟩
end Go.Proofs.YtplkoabikliagaaDoor.K
namespace Go.Proofs.YtplkoabikliagaaDoor.K
open Go.RowKit Go.Proofs.YtplkoabikliagaaDoorW.PrintWords Go.Proofs.YtplkoabikliagaaDoorW.PrintLast Go.Proofs.YtplkoabikliagaaDoorW.PrintMore
attribute [local go_sem] max2_int min2_int max_two min_two max_three min_three max_four min_four
set_option linter.unusedVariables false
set_option linter.unusedSimpArgs false
def slices_Contains_bool_bool.f (k : Nat) (l0 : List Bool) (a1 : Bool) : Option (Bool) := (slices_Index_bool_bool.f k l0 a1).bind fun t122 => (some (decide (t122 ≥ 0)))
theorem slices_Contains_bool_bool.mono : ∀ a0 a1 k, LeO (slices_Contains_bool_bool.f k a0 a1) (slices_Contains_bool_bool.f (k + 1) a0 a1) := by
 intro a0 a1 k
 unfold slices_Contains_bool_bool.f
 repeat' first
   | (with_reducible exact slices_Index_bool_bool.mono _ _ _)
   | (with_reducible exact LeO.refl _)
   | (with_reducible exact LeO.none _)
   | (with_reducible refine LeO.ite ?_ ?_)
   | (with_reducible refine LeO.bind ?_ (fun _ => ?_))
   | exact slices_Index_bool_bool.mono _ _ _
   | exact LeO.none _
   | refine LeO.ite ?_ ?_
   | refine LeO.bind ?_ (fun _ => ?_)
set_option maxHeartbeats 8000000 in
set_option maxRecDepth 100000 in
theorem slices_Contains_bool_bool.calls (k : Nat) (A0 : Option Addr) (c0 : Nat) (l0 : List Bool) (a1 : Bool) (r : Bool) (w : World) (hr0 : Kd.C Kd.bool w A0 l0.length l0) (hc0 : l0.length ≤ c0) (h : slices_Contains_bool_bool.f k l0 a1 = some r) :
  Calls Tryd.prog 123 #[.slice A0 l0.length c0, .bool a1] w fun e w' => e = .returned (.bool r) ∧ Drawn0 w w' := by
 have HR0 := Aside0.mk hr0
 have HC0 := Aside0.mk hc0
 clear hr0 hc0
 have H : ((slices_Index_bool_bool.f k l0 a1).bind fun t122 => (some (decide (t122 ≥ 0)))) = some r := h
 clear h
 replace H := Option.bind_eq_some_iff.mp H
 obtain ⟨t122, A30, H⟩ := H
 replace H : (some (decide (t122 ≥ 0))) = some r := H
 have A3 := Aside0.mk A30
 clear A30
 obtain rfl := Option.some.inj H
 go_enter Tryd.func123, Tryd.ntmps123
 go_wp2_with (first | ((with_reducible refine gate_callee (f := 128) rfl ?_); refine goesL_ (some 7) rfl rfl Tryd.func128 (by kernel_rfl) rfl #[.slice A0 l0.length c0, .bool a1] rfl (by (try simp only [List.map_toArray, List.map_cons, List.map_nil]); first | done | rfl | (simp only [List.length_drop, List.length_take]; rfl)) ?_; (with_reducible refine (slices_Index_bool_bool.calls k _ _ l0 a1 t122 _ ?side1 ?side2 A3.out).mono ?_); (case side1 => repeat (first | exact HR0.out | (with_reducible refine Kd.C_alloc ?_ _) | (with_reducible refine Kd.C_drewN ?_ _) | (with_reducible refine Kd.C_drew ?_))); (case side2 => exact HC0.out); rintro e w' ⟨rfl, ⟨nd, rfl⟩⟩; refine ⟨_, rfl, ?_⟩))
 go_ret
 exact ⟨by first | rfl | (simp; done) | (simp [*]; done), by repeat (first | exact Drawn0.refl _ | apply Drawn0.step)⟩
end Go.Proofs.YtplkoabikliagaaDoor.K
namespace Go.Proofs.YtplkoabikliagaaDoor.K
open Go.RowKit Go.Proofs.YtplkoabikliagaaDoorW.PrintWords Go.Proofs.YtplkoabikliagaaDoorW.PrintLast Go.Proofs.YtplkoabikliagaaDoorW.PrintMore
attribute [local go_sem] max2_int min2_int max_two min_two max_three min_three max_four min_four
set_option linter.unusedVariables false
set_option linter.unusedSimpArgs false
mutual
def pattern_tree.j0 : Nat → Int → Bool → List (S200) → Option (Bool)
 | 0, _, _, _ => none
 | k + 1, x3, x17, x124000 => if x17 = true then (some false) else (if 0 ≤ x3 then (if (x3 : Int).toNat ≤ 281474976710656 then (pattern_tree.l0 k x3 (List.replicate (x3 : Int).toNat false) x124000 (x124000.length : Int) 0) else (none)) else (none))
def pattern_tree.l0 : Nat → Int → List Bool → List (S200) → Int → Int → Option (Bool)
 | 0, _, _, _, _, _ => none
 | k + 1, x3, x4, x21, x22, x23 => if x23 < x22 then (if 0 ≤ x23 then (if x23 < (x21.length : Int) then (if ((rd_T200 x21 x23).f0) = 6 then (pattern_tree.j2 k x3 x4 x23 x21 x22 x23 ((rd_T200 x21 x23).f0) (((rd_T200 x21 x23).f0) == 6) ((rd_T200 x21 x23).f0) ((rd_T200 x21 x23).f1) ((rd_T200 x21 x23).f2) ((rd_T200 x21 x23).f3) ((rd_T200 x21 x23).f4)) else (pattern_tree.j2 k x3 x4 x23 x21 x22 x23 ((rd_T200 x21 x23).f0) (((rd_T200 x21 x23).f0) == 7) ((rd_T200 x21 x23).f0) ((rd_T200 x21 x23).f1) ((rd_T200 x21 x23).f2) ((rd_T200 x21 x23).f3) ((rd_T200 x21 x23).f4))) else (none)) else (none)) else (if 1 ≤ (x4.length : Int) then ((slices_Contains_bool_bool.f k (x4.drop 1) false).bind fun t131 => (some (!t131))) else (none))
def pattern_tree.j5 : Nat → Int → List Bool → Int → List (S200) → Int → Int → Int → Int → Int → Int → List Int → Option (Bool)
 | 0, _, _, _, _, _, _, _, _, _, _, _ => none
 | k + 1, x3, x4, x5, x21, x22, x23, x134000, x134001, x134002, x134003, x134004 => if x134001 = 0 then (if (Go.bits .or .u32 x134002 x134003) = 0 then (pattern_tree.j6 k x3 x4 x5 x21 x22 x23 false x134000 x134001 x134002 x134003 x134004) else (pattern_tree.j6 k x3 x4 x5 x21 x22 x23 (x134000 != 3) x134000 x134001 x134002 x134003 x134004)) else (if x134000 = 2 then (if (Go.bits .or .u32 x134002 x134003) = 0 then (pattern_tree.j6 k x3 x4 x5 x21 x22 x23 false x134000 x134001 x134002 x134003 x134004) else (pattern_tree.j6 k x3 x4 x5 x21 x22 x23 (x134000 != 3) x134000 x134001 x134002 x134003 x134004)) else (pattern_tree.j6 k x3 x4 x5 x21 x22 x23 true x134000 x134001 x134002 x134003 x134004))
def pattern_tree.j6 : Nat → Int → List Bool → Int → List (S200) → Int → Int → Bool → Int → Int → Int → Int → List Int → Option (Bool)
 | 0, _, _, _, _, _, _, _, _, _, _, _, _ => none
 | k + 1, x3, x4, x5, x21, x22, x23, x70, x134000, x134001, x134002, x134003, x134004 => if x70 = true then (some false) else (pattern_tree.l1 k x3 x4 x5 x21 x22 x23 x134004 (x134004.length : Int) 0)
def pattern_tree.l1 : Nat → Int → List Bool → Int → List (S200) → Int → Int → List Int → Int → Int → Option (Bool)
 | 0, _, _, _, _, _, _, _, _, _ => none
 | k + 1, x3, x4, x5, x21, x22, x23, x72, x73, x74 => if x74 < x73 then (if 0 ≤ x74 then (if x74 < (x72.length : Int) then (if (rd x72 x74) ≤ x5 then (some false) else (if (rd x72 x74) ≥ x3 then (some false) else (if 0 ≤ (rd x72 x74) then (if (rd x72 x74) < (x4.length : Int) then (if rdOf false x4 (rd x72 x74) = true then (some false) else (pattern_tree.l1 k x3 (x4.set ((rd x72 x74) : Int).toNat true) x5 x21 x22 x23 x72 x73 (wrap64 (x74 + 1)))) else (none)) else (none)))) else (none)) else (none)) else (pattern_tree.l0 k x3 x4 x21 x22 (wrap64 (x23 + 1)))
def pattern_tree.j2 : Nat → Int → List Bool → Int → List (S200) → Int → Int → Int → Bool → Int → Int → Int → Int → List Int → Option (Bool)
 | 0, _, _, _, _, _, _, _, _, _, _, _, _, _ => none
 | k + 1, x3, x4, x5, x21, x22, x23, x29, x30, x134000, x134001, x134002, x134003, x134004 => if x30 = true then (pattern_tree.j5 k x3 x4 x5 x21 x22 x23 x134000 x134001 x134002 x134003 x134004) else (if x29 = 8 then (pattern_tree.j3 k x3 x4 x5 x21 x22 x23 x29 (x29 == 8) x134000 x134001 x134002 x134003 x134004) else (pattern_tree.j3 k x3 x4 x5 x21 x22 x23 x29 (x29 == 9) x134000 x134001 x134002 x134003 x134004))
def pattern_tree.j3 : Nat → Int → List Bool → Int → List (S200) → Int → Int → Int → Bool → Int → Int → Int → Int → List Int → Option (Bool)
 | 0, _, _, _, _, _, _, _, _, _, _, _, _, _ => none
 | k + 1, x3, x4, x5, x21, x22, x23, x29, x33, x134000, x134001, x134002, x134003, x134004 => if x33 = true then (if (x134004.length : Int) = 1 then (pattern_tree.j5 k x3 x4 x5 x21 x22 x23 x134000 x134001 x134002 x134003 x134004) else (some false)) else (if x29 = 1 then (pattern_tree.j4 k x3 x4 x5 x21 x22 x23 (x29 == 1) x134000 x134001 x134002 x134003 x134004) else (if x29 = 2 then (pattern_tree.j4 k x3 x4 x5 x21 x22 x23 (x29 == 2) x134000 x134001 x134002 x134003 x134004) else (if x29 = 3 then (pattern_tree.j4 k x3 x4 x5 x21 x22 x23 (x29 == 3) x134000 x134001 x134002 x134003 x134004) else (if x29 = 4 then (pattern_tree.j4 k x3 x4 x5 x21 x22 x23 (x29 == 4) x134000 x134001 x134002 x134003 x134004) else (pattern_tree.j4 k x3 x4 x5 x21 x22 x23 (x29 == 5) x134000 x134001 x134002 x134003 x134004)))))
def pattern_tree.j4 : Nat → Int → List Bool → Int → List (S200) → Int → Int → Bool → Int → Int → Int → Int → List Int → Option (Bool)
 | 0, _, _, _, _, _, _, _, _, _, _, _, _ => none
 | k + 1, x3, x4, x5, x21, x22, x23, x40, x134000, x134001, x134002, x134003, x134004 => if x40 = true then (if (x134004.length : Int) = 0 then (pattern_tree.j5 k x3 x4 x5 x21 x22 x23 x134000 x134001 x134002 x134003 x134004) else (some false)) else (some false)
end
def pattern_tree.f (k : Nat) (l0_0 : List (S200)) : Option (Bool) := if (l0_0.length : Int) < 1 then (pattern_tree.j0 k (l0_0.length : Int) true l0_0) else (pattern_tree.j0 k (l0_0.length : Int) (decide ((l0_0.length : Int) > 256)) l0_0)
theorem pattern_tree.mono_l : ∀ k, (∀ y0 y1 y2, LeO (pattern_tree.j0 k y0 y1 y2) (pattern_tree.j0 (k + 1) y0 y1 y2)) ∧ (∀ y0 y1 y2 y3 y4, LeO (pattern_tree.l0 k y0 y1 y2 y3 y4) (pattern_tree.l0 (k + 1) y0 y1 y2 y3 y4)) ∧ (∀ y0 y1 y2 y3 y4 y5 y6 y7 y8 y9 y10, LeO (pattern_tree.j5 k y0 y1 y2 y3 y4 y5 y6 y7 y8 y9 y10) (pattern_tree.j5 (k + 1) y0 y1 y2 y3 y4 y5 y6 y7 y8 y9 y10)) ∧ (∀ y0 y1 y2 y3 y4 y5 y6 y7 y8 y9 y10 y11, LeO (pattern_tree.j6 k y0 y1 y2 y3 y4 y5 y6 y7 y8 y9 y10 y11) (pattern_tree.j6 (k + 1) y0 y1 y2 y3 y4 y5 y6 y7 y8 y9 y10 y11)) ∧ (∀ y0 y1 y2 y3 y4 y5 y6 y7 y8, LeO (pattern_tree.l1 k y0 y1 y2 y3 y4 y5 y6 y7 y8) (pattern_tree.l1 (k + 1) y0 y1 y2 y3 y4 y5 y6 y7 y8)) ∧ (∀ y0 y1 y2 y3 y4 y5 y6 y7 y8 y9 y10 y11 y12, LeO (pattern_tree.j2 k y0 y1 y2 y3 y4 y5 y6 y7 y8 y9 y10 y11 y12) (pattern_tree.j2 (k + 1) y0 y1 y2 y3 y4 y5 y6 y7 y8 y9 y10 y11 y12)) ∧ (∀ y0 y1 y2 y3 y4 y5 y6 y7 y8 y9 y10 y11 y12, LeO (pattern_tree.j3 k y0 y1 y2 y3 y4 y5 y6 y7 y8 y9 y10 y11 y12) (pattern_tree.j3 (k + 1) y0 y1 y2 y3 y4 y5 y6 y7 y8 y9 y10 y11 y12)) ∧ (∀ y0 y1 y2 y3 y4 y5 y6 y7 y8 y9 y10 y11, LeO (pattern_tree.j4 k y0 y1 y2 y3 y4 y5 y6 y7 y8 y9 y10 y11) (pattern_tree.j4 (k + 1) y0 y1 y2 y3 y4 y5 y6 y7 y8 y9 y10 y11))
 | 0 => ⟨fun _ _ _ r h => by simp [pattern_tree.j0] at h, fun _ _ _ _ _ r h => by simp [pattern_tree.l0] at h, fun _ _ _ _ _ _ _ _ _ _ _ r h => by simp [pattern_tree.j5] at h, fun _ _ _ _ _ _ _ _ _ _ _ _ r h => by simp [pattern_tree.j6] at h, fun _ _ _ _ _ _ _ _ _ r h => by simp [pattern_tree.l1] at h, fun _ _ _ _ _ _ _ _ _ _ _ _ _ r h => by simp [pattern_tree.j2] at h, fun _ _ _ _ _ _ _ _ _ _ _ _ _ r h => by simp [pattern_tree.j3] at h, fun _ _ _ _ _ _ _ _ _ _ _ _ r h => by simp [pattern_tree.j4] at h⟩
 | k + 1 => by
  obtain ⟨ih0, ih1, ih2, ih3, ih4, ih5, ih6, ih7⟩ := pattern_tree.mono_l k
  refine ⟨?_, ?_, ?_, ?_, ?_, ?_, ?_, ?_⟩
  ·intro y0 y1 y2
   unfold pattern_tree.j0
   repeat' first
   | (with_reducible exact ih0 _ _ _)
   | (with_reducible exact ih1 _ _ _ _ _)
   | (with_reducible exact ih2 _ _ _ _ _ _ _ _ _ _ _)
   | (with_reducible exact ih3 _ _ _ _ _ _ _ _ _ _ _ _)
   | (with_reducible exact ih4 _ _ _ _ _ _ _ _ _)
   | (with_reducible exact ih5 _ _ _ _ _ _ _ _ _ _ _ _ _)
   | (with_reducible exact ih6 _ _ _ _ _ _ _ _ _ _ _ _ _)
   | (with_reducible exact ih7 _ _ _ _ _ _ _ _ _ _ _ _)
   | (with_reducible exact slices_Contains_bool_bool.mono _ _ _)
   | (with_reducible exact LeO.refl _)
   | (with_reducible exact LeO.none _)
   | (with_reducible refine LeO.ite ?_ ?_)
   | (with_reducible refine LeO.bind ?_ (fun _ => ?_))
   | exact ih0 _ _ _
   | exact ih1 _ _ _ _ _
   | exact ih2 _ _ _ _ _ _ _ _ _ _ _
   | exact ih3 _ _ _ _ _ _ _ _ _ _ _ _
   | exact ih4 _ _ _ _ _ _ _ _ _
   | exact ih5 _ _ _ _ _ _ _ _ _ _ _ _ _
   | exact ih6 _ _ _ _ _ _ _ _ _ _ _ _ _
   | exact ih7 _ _ _ _ _ _ _ _ _ _ _ _
   | exact slices_Contains_bool_bool.mono _ _ _
   | exact LeO.none _
   | refine LeO.ite ?_ ?_
   | refine LeO.bind ?_ (fun _ => ?_)
  ·intro y0 y1 y2 y3 y4
   unfold pattern_tree.l0
   repeat' first
   | (with_reducible exact ih0 _ _ _)
   | (with_reducible exact ih1 _ _ _ _ _)
   | (with_reducible exact ih2 _ _ _ _ _ _ _ _ _ _ _)
   | (with_reducible exact ih3 _ _ _ _ _ _ _ _ _ _ _ _)
   | (with_reducible exact ih4 _ _ _ _ _ _ _ _ _)
   | (with_reducible exact ih5 _ _ _ _ _ _ _ _ _ _ _ _ _)
   | (with_reducible exact ih6 _ _ _ _ _ _ _ _ _ _ _ _ _)
   | (with_reducible exact ih7 _ _ _ _ _ _ _ _ _ _ _ _)
   | (with_reducible exact slices_Contains_bool_bool.mono _ _ _)
   | (with_reducible exact LeO.refl _)
   | (with_reducible exact LeO.none _)
   | (with_reducible refine LeO.ite ?_ ?_)
   | (with_reducible refine LeO.bind ?_ (fun _ => ?_))
   | exact ih0 _ _ _
   | exact ih1 _ _ _ _ _
   | exact ih2 _ _ _ _ _ _ _ _ _ _ _
   | exact ih3 _ _ _ _ _ _ _ _ _ _ _ _
   | exact ih4 _ _ _ _ _ _ _ _ _
   | exact ih5 _ _ _ _ _ _ _ _ _ _ _ _ _
   | exact ih6 _ _ _ _ _ _ _ _ _ _ _ _ _
   | exact ih7 _ _ _ _ _ _ _ _ _ _ _ _
   | exact slices_Contains_bool_bool.mono _ _ _
   | exact LeO.none _
   | refine LeO.ite ?_ ?_
   | refine LeO.bind ?_ (fun _ => ?_)
  ·intro y0 y1 y2 y3 y4 y5 y6 y7 y8 y9 y10
   unfold pattern_tree.j5
   repeat' first
   | (with_reducible exact ih0 _ _ _)
   | (with_reducible exact ih1 _ _ _ _ _)
   | (with_reducible exact ih2 _ _ _ _ _ _ _ _ _ _ _)
   | (with_reducible exact ih3 _ _ _ _ _ _ _ _ _ _ _ _)
   | (with_reducible exact ih4 _ _ _ _ _ _ _ _ _)
   | (with_reducible exact ih5 _ _ _ _ _ _ _ _ _ _ _ _ _)
   | (with_reducible exact ih6 _ _ _ _ _ _ _ _ _ _ _ _ _)
   | (with_reducible exact ih7 _ _ _ _ _ _ _ _ _ _ _ _)
   | (with_reducible exact slices_Contains_bool_bool.mono _ _ _)
   | (with_reducible exact LeO.refl _)
   | (with_reducible exact LeO.none _)
   | (with_reducible refine LeO.ite ?_ ?_)
   | (with_reducible refine LeO.bind ?_ (fun _ => ?_))
   | exact ih0 _ _ _
   | exact ih1 _ _ _ _ _
   | exact ih2 _ _ _ _ _ _ _ _ _ _ _
   | exact ih3 _ _ _ _ _ _ _ _ _ _ _ _
   | exact ih4 _ _ _ _ _ _ _ _ _
   | exact ih5 _ _ _ _ _ _ _ _ _ _ _ _ _
   | exact ih6 _ _ _ _ _ _ _ _ _ _ _ _ _
   | exact ih7 _ _ _ _ _ _ _ _ _ _ _ _
   | exact slices_Contains_bool_bool.mono _ _ _
   | exact LeO.none _
   | refine LeO.ite ?_ ?_
   | refine LeO.bind ?_ (fun _ => ?_)
  ·intro y0 y1 y2 y3 y4 y5 y6 y7 y8 y9 y10 y11
   unfold pattern_tree.j6
   repeat' first
   | (with_reducible exact ih0 _ _ _)
   | (with_reducible exact ih1 _ _ _ _ _)
   | (with_reducible exact ih2 _ _ _ _ _ _ _ _ _ _ _)
   | (with_reducible exact ih3 _ _ _ _ _ _ _ _ _ _ _ _)
   | (with_reducible exact ih4 _ _ _ _ _ _ _ _ _)
   | (with_reducible exact ih5 _ _ _ _ _ _ _ _ _ _ _ _ _)
   | (with_reducible exact ih6 _ _ _ _ _ _ _ _ _ _ _ _ _)
   | (with_reducible exact ih7 _ _ _ _ _ _ _ _ _ _ _ _)
   | (with_reducible exact slices_Contains_bool_bool.mono _ _ _)
   | (with_reducible exact LeO.refl _)
   | (with_reducible exact LeO.none _)
   | (with_reducible refine LeO.ite ?_ ?_)
   | (with_reducible refine LeO.bind ?_ (fun _ => ?_))
   | exact ih0 _ _ _
   | exact ih1 _ _ _ _ _
   | exact ih2 _ _ _ _ _ _ _ _ _ _ _
   | exact ih3 _ _ _ _ _ _ _ _ _ _ _ _
   | exact ih4 _ _ _ _ _ _ _ _ _
   | exact ih5 _ _ _ _ _ _ _ _ _ _ _ _ _
   | exact ih6 _ _ _ _ _ _ _ _ _ _ _ _ _
   | exact ih7 _ _ _ _ _ _ _ _ _ _ _ _
   | exact slices_Contains_bool_bool.mono _ _ _
   | exact LeO.none _
   | refine LeO.ite ?_ ?_
   | refine LeO.bind ?_ (fun _ => ?_)
  ·intro y0 y1 y2 y3 y4 y5 y6 y7 y8
   unfold pattern_tree.l1
   repeat' first
   | (with_reducible exact ih0 _ _ _)
   | (with_reducible exact ih1 _ _ _ _ _)
   | (with_reducible exact ih2 _ _ _ _ _ _ _ _ _ _ _)
   | (with_reducible exact ih3 _ _ _ _ _ _ _ _ _ _ _ _)
   | (with_reducible exact ih4 _ _ _ _ _ _ _ _ _)
   | (with_reducible exact ih5 _ _ _ _ _ _ _ _ _ _ _ _ _)
   | (with_reducible exact ih6 _ _ _ _ _ _ _ _ _ _ _ _ _)
   | (with_reducible exact ih7 _ _ _ _ _ _ _ _ _ _ _ _)
   | (with_reducible exact slices_Contains_bool_bool.mono _ _ _)
   | (with_reducible exact LeO.refl _)
   | (with_reducible exact LeO.none _)
   | (with_reducible refine LeO.ite ?_ ?_)
   | (with_reducible refine LeO.bind ?_ (fun _ => ?_))
   | exact ih0 _ _ _
   | exact ih1 _ _ _ _ _
   | exact ih2 _ _ _ _ _ _ _ _ _ _ _
   | exact ih3 _ _ _ _ _ _ _ _ _ _ _ _
   | exact ih4 _ _ _ _ _ _ _ _ _
   | exact ih5 _ _ _ _ _ _ _ _ _ _ _ _ _
   | exact ih6 _ _ _ _ _ _ _ _ _ _ _ _ _
   | exact ih7 _ _ _ _ _ _ _ _ _ _ _ _
   | exact slices_Contains_bool_bool.mono _ _ _
   | exact LeO.none _
   | refine LeO.ite ?_ ?_
   | refine LeO.bind ?_ (fun _ => ?_)
  ·intro y0 y1 y2 y3 y4 y5 y6 y7 y8 y9 y10 y11 y12
   unfold pattern_tree.j2
   repeat' first
   | (with_reducible exact ih0 _ _ _)
   | (with_reducible exact ih1 _ _ _ _ _)
   | (with_reducible exact ih2 _ _ _ _ _ _ _ _ _ _ _)
   | (with_reducible exact ih3 _ _ _ _ _ _ _ _ _ _ _ _)
   | (with_reducible exact ih4 _ _ _ _ _ _ _ _ _)
   | (with_reducible exact ih5 _ _ _ _ _ _ _ _ _ _ _ _ _)
   | (with_reducible exact ih6 _ _ _ _ _ _ _ _ _ _ _ _ _)
   | (with_reducible exact ih7 _ _ _ _ _ _ _ _ _ _ _ _)
   | (with_reducible exact slices_Contains_bool_bool.mono _ _ _)
   | (with_reducible exact LeO.refl _)
   | (with_reducible exact LeO.none _)
   | (with_reducible refine LeO.ite ?_ ?_)
   | (with_reducible refine LeO.bind ?_ (fun _ => ?_))
   | exact ih0 _ _ _
   | exact ih1 _ _ _ _ _
   | exact ih2 _ _ _ _ _ _ _ _ _ _ _
   | exact ih3 _ _ _ _ _ _ _ _ _ _ _ _
   | exact ih4 _ _ _ _ _ _ _ _ _
   | exact ih5 _ _ _ _ _ _ _ _ _ _ _ _ _
   | exact ih6 _ _ _ _ _ _ _ _ _ _ _ _ _
   | exact ih7 _ _ _ _ _ _ _ _ _ _ _ _
   | exact slices_Contains_bool_bool.mono _ _ _
   | exact LeO.none _
   | refine LeO.ite ?_ ?_
   | refine LeO.bind ?_ (fun _ => ?_)
  ·intro y0 y1 y2 y3 y4 y5 y6 y7 y8 y9 y10 y11 y12
   unfold pattern_tree.j3
   repeat' first
   | (with_reducible exact ih0 _ _ _)
   | (with_reducible exact ih1 _ _ _ _ _)
   | (with_reducible exact ih2 _ _ _ _ _ _ _ _ _ _ _)
   | (with_reducible exact ih3 _ _ _ _ _ _ _ _ _ _ _ _)
   | (with_reducible exact ih4 _ _ _ _ _ _ _ _ _)
   | (with_reducible exact ih5 _ _ _ _ _ _ _ _ _ _ _ _ _)
   | (with_reducible exact ih6 _ _ _ _ _ _ _ _ _ _ _ _ _)
   | (with_reducible exact ih7 _ _ _ _ _ _ _ _ _ _ _ _)
   | (with_reducible exact slices_Contains_bool_bool.mono _ _ _)
   | (with_reducible exact LeO.refl _)
   | (with_reducible exact LeO.none _)
   | (with_reducible refine LeO.ite ?_ ?_)
   | (with_reducible refine LeO.bind ?_ (fun _ => ?_))
   | exact ih0 _ _ _
   | exact ih1 _ _ _ _ _
   | exact ih2 _ _ _ _ _ _ _ _ _ _ _
   | exact ih3 _ _ _ _ _ _ _ _ _ _ _ _
   | exact ih4 _ _ _ _ _ _ _ _ _
   | exact ih5 _ _ _ _ _ _ _ _ _ _ _ _ _
   | exact ih6 _ _ _ _ _ _ _ _ _ _ _ _ _
   | exact ih7 _ _ _ _ _ _ _ _ _ _ _ _
   | exact slices_Contains_bool_bool.mono _ _ _
   | exact LeO.none _
   | refine LeO.ite ?_ ?_
   | refine LeO.bind ?_ (fun _ => ?_)
  ·intro y0 y1 y2 y3 y4 y5 y6 y7 y8 y9 y10 y11
   unfold pattern_tree.j4
   repeat' first
   | (with_reducible exact ih0 _ _ _)
   | (with_reducible exact ih1 _ _ _ _ _)
   | (with_reducible exact ih2 _ _ _ _ _ _ _ _ _ _ _)
   | (with_reducible exact ih3 _ _ _ _ _ _ _ _ _ _ _ _)
   | (with_reducible exact ih4 _ _ _ _ _ _ _ _ _)
   | (with_reducible exact ih5 _ _ _ _ _ _ _ _ _ _ _ _ _)
   | (with_reducible exact ih6 _ _ _ _ _ _ _ _ _ _ _ _ _)
   | (with_reducible exact ih7 _ _ _ _ _ _ _ _ _ _ _ _)
   | (with_reducible exact slices_Contains_bool_bool.mono _ _ _)
   | (with_reducible exact LeO.refl _)
   | (with_reducible exact LeO.none _)
   | (with_reducible refine LeO.ite ?_ ?_)
   | (with_reducible refine LeO.bind ?_ (fun _ => ?_))
   | exact ih0 _ _ _
   | exact ih1 _ _ _ _ _
   | exact ih2 _ _ _ _ _ _ _ _ _ _ _
   | exact ih3 _ _ _ _ _ _ _ _ _ _ _ _
   | exact ih4 _ _ _ _ _ _ _ _ _
   | exact ih5 _ _ _ _ _ _ _ _ _ _ _ _ _
   | exact ih6 _ _ _ _ _ _ _ _ _ _ _ _ _
   | exact ih7 _ _ _ _ _ _ _ _ _ _ _ _
   | exact slices_Contains_bool_bool.mono _ _ _
   | exact LeO.none _
   | refine LeO.ite ?_ ?_
   | refine LeO.bind ?_ (fun _ => ?_)
theorem pattern_tree.mono : ∀ a0 k, LeO (pattern_tree.f k a0) (pattern_tree.f (k + 1) a0) := by
 intro a0 k
 obtain ⟨ih0, ih1, ih2, ih3, ih4, ih5, ih6, ih7⟩ := pattern_tree.mono_l k
 unfold pattern_tree.f
 repeat' first
   | (with_reducible exact ih0 _ _ _)
   | (with_reducible exact ih1 _ _ _ _ _)
   | (with_reducible exact ih2 _ _ _ _ _ _ _ _ _ _ _)
   | (with_reducible exact ih3 _ _ _ _ _ _ _ _ _ _ _ _)
   | (with_reducible exact ih4 _ _ _ _ _ _ _ _ _)
   | (with_reducible exact ih5 _ _ _ _ _ _ _ _ _ _ _ _ _)
   | (with_reducible exact ih6 _ _ _ _ _ _ _ _ _ _ _ _ _)
   | (with_reducible exact ih7 _ _ _ _ _ _ _ _ _ _ _ _)
   | (with_reducible exact slices_Contains_bool_bool.mono _ _ _)
   | (with_reducible exact LeO.refl _)
   | (with_reducible exact LeO.none _)
   | (with_reducible refine LeO.ite ?_ ?_)
   | (with_reducible refine LeO.bind ?_ (fun _ => ?_))
   | exact ih0 _ _ _
   | exact ih1 _ _ _ _ _
   | exact ih2 _ _ _ _ _ _ _ _ _ _ _
   | exact ih3 _ _ _ _ _ _ _ _ _ _ _ _
   | exact ih4 _ _ _ _ _ _ _ _ _
   | exact ih5 _ _ _ _ _ _ _ _ _ _ _ _ _
   | exact ih6 _ _ _ _ _ _ _ _ _ _ _ _ _
   | exact ih7 _ _ _ _ _ _ _ _ _ _ _ _
   | exact slices_Contains_bool_bool.mono _ _ _
   | exact LeO.none _
   | refine LeO.ite ?_ ?_
   | refine LeO.bind ?_ (fun _ => ?_)
set_option maxHeartbeats 8000000 in
set_option maxRecDepth 100000 in
theorem pattern_tree.calls (k : Nat) (A0_0 : Option Addr) (c0_0 : Nat) (l0_0 : List (S200)) (r : Bool) (w : World) (hr0_0 : Kd.C k200 w A0_0 l0_0.length l0_0) (hc0_0 : l0_0.length ≤ c0_0) (h : pattern_tree.f k l0_0 = some r) :
  Calls Tryd.prog 110 #[.agg #[.slice A0_0 l0_0.length c0_0]] w fun e w' => e = .returned (.bool r) ∧ Below w.heap.size w w' := by
 have hu150 := Tryd.underlying150
 have hu200 := Tryd.underlying200
 have HR0_0 := Aside0.mk hr0_0
 have HC0_0 := Aside0.mk hc0_0
 clear hr0_0 hc0_0
 have HB := Aside0.mk (Below.refl w.heap.size w)
 have H : (if (l0_0.length : Int) < 1 then (pattern_tree.j0 k (l0_0.length : Int) true l0_0) else (pattern_tree.j0 k (l0_0.length : Int) (decide ((l0_0.length : Int) > 256)) l0_0)) = some r := h
 clear h
 have HC2 := Aside0.mk H
 clear H
 go_enter Tryd.func110, Tryd.ntmps110
 go_upto_region 2 with (first | ((with_reducible refine gate_dst (N := 1) rfl ?_); refine box_event ?hg (N := 1) ?hd (cs := #[.slice A0_0 l0_0.length c0_0]) (t := 150) ?hr ?_; (case hd => rfl); (case hg => rfl); (case hr => first | (go_simp; done) | (go_simp; rfl)); intro gb123 hg w3 hbox hb; have n0_ := Aside0.mk (below_step (by repeat (first | (with_reducible first | exact HB.out | apply below_alloc | apply pw_below_drewN | apply below_drew1) | exact HB.out)) hb); have n1_ := Aside0.mk (hbox); have n2_ := Aside0.mk ((by rw [hg]; exact (below_size (by repeat (first | (with_reducible first | exact HB.out | apply below_alloc | apply pw_below_drewN | apply below_drew1) | exact HB.out))) : w.heap.size ≤ gb123)); have n3_ := Aside0.mk ((by rw [hg]; exact (below_size (by repeat (first | (with_reducible first | exact HB.out | apply below_alloc | apply pw_below_drewN | apply below_drew1) | exact HB.out))) : w.heap.size ≤ gb123)); clear HB; have HB := n0_; have BK123 := n1_; have GW123 := n2_; have GE123 := n3_; clear n0_ n1_ n2_ n3_; clear hb hbox hg; have hcz4_0 : w3.cell? ⟨gb123, 0, none⟩ = some (.slice A0_0 l0_0.length c0_0) := (blk_cell BK123.out 0).trans rfl; have hfz4_0 := blk_frozen BK123.out 0))
 (try simp only [Act.put, List.setIfInBounds_toArray, List.set_cons_zero, List.set_cons_succ])
 go_cut [17] (fun v17 wc => ∃ (kq : Nat) (x17_1 : Bool), v17 = .bool x17_1 ∧ Aside0 (pattern_tree.j0 kq (l0_0.length : Int) x17_1 l0_0 = some r) ∧ Aside0 (kq ≤ k) ∧ Aside0 (wc.heap[gb123]? = some (.cells #[(.slice A0_0 l0_0.length c0_0)] 150 (0, 0))) ∧ Aside0 (Below w.heap.size w wc))
 case first =>
  have H := HC2.out
  clear HC2
  by_cases c5 : (l0_0.length : Int) < 1
  ·rw [if_pos c5] at H
   have c5b0 : decide ((l0_0.length : Int) < 1) = true := decide_eq_true c5
   have c5b1 : decide (l0_0.length < 1) = true := decide_eq_true (by omega)
   clear c5
   (first | rw [c5b0] | (simp only [i64_w, i32_w]; rw [c5b0]) | skip)
   have H' := Aside0.mk H
   clear H
   go_wp2
   go_meet
   case rel => exact ⟨_, (true), (by first | rfl | (simp; done) | (simp [*]; done)), H', ⟨by first | omega | exact Nat.le_refl _⟩, ⟨by (with_reducible repeat (first | refine blk_drewN ?_ _ | refine blk_drew ?_ | refine blk_alloc ?_ _)); exact BK123.out⟩, ⟨by repeat (first | (with_reducible first | exact HB.out | apply below_alloc | apply pw_below_drewN | apply below_drew1 | refine below_set ?_ GE123.out) | exact HB.out)⟩⟩
  ·rw [if_neg c5] at H
   have c5b0 : decide ((l0_0.length : Int) < 1) = false := decide_eq_false c5
   have c5b1 : decide (l0_0.length < 1) = false := decide_eq_false (by omega)
   clear c5
   (first | rw [c5b0] | (simp only [i64_w, i32_w]; rw [c5b0]) | skip)
   have H' := Aside0.mk H
   clear H
   go_wp2
   go_meet
   case rel => exact ⟨_, (decide ((l0_0.length : Int) > 256)), (by first | rfl | (simp; done) | (simp [*]; done)), H', ⟨by first | omega | exact Nat.le_refl _⟩, ⟨by (with_reducible repeat (first | refine blk_drewN ?_ _ | refine blk_drew ?_ | refine blk_alloc ?_ _)); exact BK123.out⟩, ⟨by repeat (first | (with_reducible first | exact HB.out | apply below_alloc | apply pw_below_drewN | apply below_drew1 | refine below_set ?_ GE123.out) | exact HB.out)⟩⟩
 case rest =>
  clear HC2
  try clear c1
  try clear p2
  try clear c5
  try clear c5b0
  try clear c5b1
  try clear hcz4_0
  try clear hfz4_0
  obtain ⟨kq, x17_1, rfl, HA, HJ1, BK123, HB⟩ := hcut
  cases kq with
  | zero => exact absurd HA.out (by simp [pattern_tree.j0])
  | succ kj1 =>
   have H := HA.out
   clear HA
   simp only [pattern_tree.j0] at H
   by_cases c6 : x17_1 = true
   ·subst c6
    have H1 : (some false) = some r := by rw [if_pos rfl] at H; exact H
    clear H
    have H := H1
    clear H1
    obtain rfl := Option.some.inj H
    go_wp2
    go_ret
    exact ⟨by first | rfl | (simp [errW_none, errW_some] <;> rfl) | (simp [*, errW_none, errW_some] <;> rfl), by repeat (first | (with_reducible first | exact HB.out | apply below_alloc | apply pw_below_drewN | apply below_drew1 | refine below_set ?_ GE123.out) | exact HB.out)⟩
   ·replace c6 := Bool.eq_false_iff.mpr c6
    subst c6
    have H1 : (if 0 ≤ (l0_0.length : Int) then (if ((l0_0.length : Int) : Int).toNat ≤ 281474976710656 then (pattern_tree.l0 kj1 (l0_0.length : Int) (List.replicate ((l0_0.length : Int) : Int).toNat false) l0_0 (l0_0.length : Int) 0) else (none)) else (none)) = some r := by rw [if_neg (show ¬ (false = true) by decide)] at H; exact H
    clear H
    have H := H1
    clear H1
    by_cases c7 : 0 ≤ (l0_0.length : Int)
    ·rw [if_pos c7] at H
     have c7b0 := eq_true c7
     have c7b1 : decide (0 ≤ (l0_0.length : Int)) = true := decide_eq_true c7
     clear c7
     by_cases c8 : ((l0_0.length : Int) : Int).toNat ≤ 281474976710656
     ·rw [if_pos c8] at H
      have c8b0 := eq_true c8
      have c8b1 : decide (((l0_0.length : Int) : Int).toNat ≤ 281474976710656) = true := decide_eq_true c8
      clear c8
      obtain ⟨y124, hy124⟩ : ∃ y_ : List Bool, y_ = (List.replicate ((l0_0.length : Int) : Int).toNat false) := ⟨_, rfl⟩
      replace H : (pattern_tree.l0 kj1 (l0_0.length : Int) y124 l0_0 (l0_0.length : Int) 0) = some r := by first | (rw [hy124]; with_reducible exact H) | (have H2_ := (Option.bind_some _ _).symm.trans H; rw [hy124]; with_reducible exact H2_) | (have H2_ := (Option.bind_some _ _).symm.trans H; with_reducible exact H2_) | with_reducible exact H | (rw [hy124]; exact H) | exact H
      have Ny124 := Aside0.mk hy124
      clear hy124
      have H' := Aside0.mk H
      clear H
      go_wp2_with (first | ((with_reducible refine gate_dst (N := 19) rfl ?_); refine Kd.R_make Kd.bool _ 4 rfl (N := 19) rfl 214 _ _ rfl (l0_0.length : Int) rfl rfl Tryd.underlying214 (.bool false) 1 info4 rfl (by decide) (by omega) false (ok := fun _ => True) (okp := fun _ => True) rfl (fun _ hk => hk) trivial (of_decide_eq_true (by first | (with_reducible assumption) | assumption)) (Nat.le_trans (Nat.mul_le_mul_right _ (of_decide_eq_true (by first | (with_reducible assumption) | assumption) : (l0_0.length : Int).toNat ≤ 281474976710656)) (by omega)) (Below.refl _ _) (Nat.le_refl _) ?_; intro v125 w9 ho10 hb hg_ hnew_; clear hg_ hnew_; (first | rw [← Ny124.out] at ho10 | (simp only [Int.reduceToNat] at ho10; rw [← Ny124.out] at ho10)); have n0_ := Aside0.mk (Kd.R_lower ho10 (below_size (by repeat (first | (with_reducible first | exact HB.out | apply below_alloc | apply pw_below_drewN | apply below_drew1 | refine below_set ?_ GE123.out) | exact HB.out)))); have n1_ := Aside0.mk (blk_below (g := gb123) (o := .cells #[.slice A0_0 l0_0.length c0_0] 150 (0, 0)) (by (with_reducible repeat (first | refine blk_drewN ?_ _ | refine blk_drew ?_ | refine blk_alloc ?_ _)); exact BK123.out) hb); have n2_ := Aside0.mk (below_step (by repeat (first | (with_reducible first | exact HB.out | apply below_alloc | apply pw_below_drewN | apply below_drew1 | refine below_set ?_ GE123.out) | exact HB.out)) hb); clear BK123; clear HB; have HO126 := n0_; have BK123 := n1_; have HB := n2_; clear n0_ n1_ n2_; clear hb ho10; have hcz11_0 : w9.cell? ⟨gb123, 0, none⟩ = some (.slice A0_0 l0_0.length c0_0) := (blk_cell BK123.out 0).trans rfl; have hfz11_0 := blk_frozen BK123.out 0))
      go_loopg [23] kj1 (fun kq v23 w' => ∃ (x4_2 : List Bool) (x23_2 : Int), v23 = .int .i64 x23_2 ∧ Aside0 (pattern_tree.l0 kq (l0_0.length : Int) x4_2 l0_0 (l0_0.length : Int) x23_2 = some r) ∧ Aside0 (kq ≤ kj1) ∧ Aside0 (Kd.R Kd.bool 4 w' w.heap.size (fun _ => True) v125 x4_2) ∧ Aside0 (w'.heap[gb123]? = some (.cells #[(.slice A0_0 l0_0.length c0_0)] 150 (0, 0))) ∧ Aside0 (Below w.heap.size w w'))
      case atStart => exact ⟨(y124), (0), (by first | rfl | (simp; done) | (simp [*]; done)), H', ⟨Nat.le_refl _⟩, ⟨by (with_reducible repeat (first | apply Kd.R_alloc | apply Kd.R_drewN | apply Kd.R_drew)); exact HO126.out⟩, ⟨by (with_reducible repeat (first | refine blk_drewN ?_ _ | refine blk_drew ?_ | refine blk_alloc ?_ _)); exact BK123.out⟩, ⟨by repeat (first | (with_reducible first | exact HB.out | apply below_alloc | apply pw_below_drewN | apply below_drew1 | refine below_set ?_ GE123.out) | exact HB.out)⟩⟩
      case round =>
       clear H'
       try clear c1
       try clear p2
       try clear c5
       try clear c5b0
       try clear c5b1
       try clear c6
       try clear c7
       try clear c7b0
       try clear c7b1
       try clear c8
       try clear c8b0
       try clear c8b1
       try clear c11
       try clear hcz11_0
       try clear hcz4_0
       try clear hfz11_0
       try clear hfz4_0
       try clear p2
       obtain ⟨x4_2, x23_2, rfl, HA, HK2, HO_4, BK123, HB⟩ := hrel
       cases gk with
       | zero => exact absurd HA.out (by simp [pattern_tree.l0])
       | succ k2 =>
        have H := HA.out
        clear HA
        simp only [pattern_tree.l0] at H
        by_cases c12 : x23_2 < (l0_0.length : Int)
        ·rw [if_pos c12] at H
         have c12b0 : decide (x23_2 < (l0_0.length : Int)) = true := decide_eq_true c12
         clear c12
         by_cases c13 : 0 ≤ x23_2
         ·rw [if_pos c13] at H
          have c13b0 : decide (0 ≤ x23_2) = true := decide_eq_true c13
          clear c13
          by_cases c14 : x23_2 < (l0_0.length : Int)
          ·rw [if_pos c14] at H
           have c14b0 : decide (x23_2 < (l0_0.length : Int)) = true := decide_eq_true c14
           clear c14
           have HC15 := Aside0.mk H
           clear H
           have p132 : 0 ≤ (x23_2 : Int) := of_decide_eq_true (by first | (with_reducible assumption) | assumption)
           have q132 : x23_2 < (l0_0.length : Int) := of_decide_eq_true (by first | (with_reducible assumption) | assumption)
           obtain ⟨ad132, A132_4, c132_4, e132, hx132_0, hx132_1, hx132_2, hx132_3, hx132_4, hl132_4, hi132_4⟩ := at_T200 HR0_0.out x23_2 p132 q132
           cases e132
           replace hx132_0 := (HB.out.cell (World.block_lt_of_cell? w _ hx132_0)).trans hx132_0
           replace hx132_1 := (HB.out.cell (World.block_lt_of_cell? w _ hx132_1)).trans hx132_1
           replace hx132_2 := (HB.out.cell (World.block_lt_of_cell? w _ hx132_2)).trans hx132_2
           replace hx132_3 := (HB.out.cell (World.block_lt_of_cell? w _ hx132_3)).trans hx132_3
           replace hx132_4 := (HB.out.cell (World.block_lt_of_cell? w _ hx132_4)).trans hx132_4
           have HR132_4 := Aside0.mk hi132_4
           have HC132_4 := Aside0.mk hl132_4
           clear hi132_4 hl132_4
           replace p132 := eq_true p132
           replace q132 := eq_true q132
           go_upto_block 2 with (first | ((with_reducible refine gate_dst (N := 6) rfl ?_); refine box_event ?hg (N := 6) ?hd (cs := #[.int .u8 0, .int .i32 0, .int .u32 0, .int .u32 0, .slice none 0 0]) (t := 200) ?hr ?_; (case hd => rfl); (case hg => rfl); (case hr => first | (go_simp; done) | (go_simp; rfl)); intro gb133 hg w16 hbox hb; have n0_ := Aside0.mk (Kd.R_below (by (with_reducible repeat (first | apply Kd.R_alloc | apply Kd.R_drewN | apply Kd.R_drew)); exact HO_4.out) hb); have n1_ := Aside0.mk (blk_below (g := gb123) (o := .cells #[.slice (some ad132) l0_0.length c0_0] 150 (0, 0)) (by (with_reducible repeat (first | refine blk_drewN ?_ _ | refine blk_drew ?_ | refine blk_alloc ?_ _)); exact BK123.out) hb); have n2_ := Aside0.mk (below_step (by repeat (first | (with_reducible first | exact HB.out | apply below_alloc | apply pw_below_drewN | apply below_drew1 | refine below_set ?_ GE123.out) | exact HB.out)) hb); have n3_ := Aside0.mk (hbox); have n4_ := Aside0.mk ((by rw [hg]; exact (below_size (by repeat (first | (with_reducible first | exact HB.out | apply below_alloc | apply pw_below_drewN | apply below_drew1 | refine below_set ?_ GE123.out) | exact HB.out))) : w.heap.size ≤ gb133)); have n5_ := Aside0.mk ((by rw [hg]; exact (below_size (by repeat (first | (with_reducible first | exact HB.out | apply below_alloc | apply pw_below_drewN | apply below_drew1 | refine below_set ?_ GE123.out) | exact HB.out))) : w.heap.size ≤ gb133)); have n6_ := Aside0.mk ((by rw [hg]; exact Nat.ne_of_lt (blk_lt (g := gb123) (o := .cells #[.slice (some ad132) l0_0.length c0_0] 150 (0, 0)) (by (with_reducible repeat (first | refine blk_drewN ?_ _ | refine blk_drew ?_ | refine blk_alloc ?_ _)); exact BK123.out)) : gb123 ≠ gb133)); have n7_ := Aside0.mk ((by rw [hg]; exact Nat.ne_of_gt (blk_lt (g := gb123) (o := .cells #[.slice (some ad132) l0_0.length c0_0] 150 (0, 0)) (by (with_reducible repeat (first | refine blk_drewN ?_ _ | refine blk_drew ?_ | refine blk_alloc ?_ _)); exact BK123.out)) : gb133 ≠ gb123)); clear HO_4; clear BK123; clear HB; have HO_4 := n0_; have BK123 := n1_; have HB := n2_; have BK133 := n3_; have GW133 := n4_; have GE133 := n5_; have NB123_133 := n6_; have NB133_123 := n7_; clear n0_ n1_ n2_ n3_ n4_ n5_ n6_ n7_; clear hb hbox hg; have hnb17 := NB133_123.out; have hnc17 := NB123_133.out; have hcz18_0 : w16.cell? ⟨gb133, 0, none⟩ = some (.int .u8 0) := (blk_cell BK133.out 0).trans rfl; have hcz18_1 : w16.cell? ⟨gb133, 1, none⟩ = some (.int .i32 0) := (blk_cell BK133.out 1).trans rfl; have hcz18_2 : w16.cell? ⟨gb133, 2, none⟩ = some (.int .u32 0) := (blk_cell BK133.out 2).trans rfl; have hcz18_3 : w16.cell? ⟨gb133, 3, none⟩ = some (.int .u32 0) := (blk_cell BK133.out 3).trans rfl; have hcz18_4 : w16.cell? ⟨gb133, 4, none⟩ = some (.slice none 0 0) := (blk_cell BK133.out 4).trans rfl; have hfz18_0 := blk_frozen BK133.out 0; have hfz18_1 := blk_frozen BK133.out 1; have hfz18_2 := blk_frozen BK133.out 2; have hfz18_3 := blk_frozen BK133.out 3; have hfz18_4 := blk_frozen BK133.out 4))
           (try simp only [Act.put, List.setIfInBounds_toArray, List.set_cons_zero, List.set_cons_succ])
           go_cut [] (fun wc => ∃ (kq : Nat), Aside0 (pattern_tree.j5 kq (l0_0.length : Int) x4_2 x23_2 l0_0 (l0_0.length : Int) x23_2 ((rd_T200 l0_0 x23_2).f0) ((rd_T200 l0_0 x23_2).f1) ((rd_T200 l0_0 x23_2).f2) ((rd_T200 l0_0 x23_2).f3) ((rd_T200 l0_0 x23_2).f4) = some r) ∧ Aside0 (kq ≤ k2) ∧ Aside0 (Kd.R Kd.bool 4 wc w.heap.size (fun _ => True) v125 x4_2) ∧ Aside0 (wc.heap[gb123]? = some (.cells #[(.slice (some ad132) l0_0.length c0_0)] 150 (0, 0))) ∧ Aside0 (wc.heap[gb133]? = some (.cells #[.int .u8 ((rd_T200 l0_0 x23_2).f0), .int .i32 ((rd_T200 l0_0 x23_2).f1), .int .u32 ((rd_T200 l0_0 x23_2).f2), .int .u32 ((rd_T200 l0_0 x23_2).f3), (.slice A132_4 ((rd_T200 l0_0 x23_2).f4).length c132_4)] 200 (0, 0))) ∧ Aside0 (Below w.heap.size w wc))
           case first =>
            have H := HC15.out
            clear HC15
            have HC19 := Aside0.mk H
            clear H
            go_upto_if 30 with (fail)
            go_cut [30] (fun v30 wc => ∃ (kq : Nat) (x30_18 : Bool), v30 = .bool x30_18 ∧ Aside0 (pattern_tree.j2 kq (l0_0.length : Int) x4_2 x23_2 l0_0 (l0_0.length : Int) x23_2 ((rd_T200 l0_0 x23_2).f0) x30_18 ((rd_T200 l0_0 x23_2).f0) ((rd_T200 l0_0 x23_2).f1) ((rd_T200 l0_0 x23_2).f2) ((rd_T200 l0_0 x23_2).f3) ((rd_T200 l0_0 x23_2).f4) = some r) ∧ Aside0 (kq ≤ k2) ∧ Aside0 (Kd.R Kd.bool 4 wc w.heap.size (fun _ => True) v125 x4_2) ∧ Aside0 (wc.heap[gb123]? = some (.cells #[(.slice (some ad132) l0_0.length c0_0)] 150 (0, 0))) ∧ Aside0 (wc.heap[gb133]? = some (.cells #[.int .u8 ((rd_T200 l0_0 x23_2).f0), .int .i32 ((rd_T200 l0_0 x23_2).f1), .int .u32 ((rd_T200 l0_0 x23_2).f2), .int .u32 ((rd_T200 l0_0 x23_2).f3), (.slice A132_4 ((rd_T200 l0_0 x23_2).f4).length c132_4)] 200 (0, 0))) ∧ Aside0 (Below w.heap.size w wc))
            case first =>
             have H := HC19.out
             clear HC19
             by_cases c20 : ((rd_T200 l0_0 x23_2).f0) = 6
             ·rw [if_pos c20] at H
              have c20b0 : (((rd_T200 l0_0 x23_2).f0) == 6) = true := beq_iff_eq.mpr c20
              have c20b1 : (((rd_T200 l0_0 x23_2).f0) != 6) = false := bne_eq_false_iff_eq.mpr c20
              clear c20
              (first | rw [c20b0] | (simp only [i64_w, i32_w]; rw [c20b0]) | skip)
              have H' := Aside0.mk H
              clear H
              go_wp2
              go_meet
              case rel => exact ⟨_, ((((rd_T200 l0_0 x23_2).f0) == 6)), (by first | rfl | (simp; done) | (simp [*]; done)), H', ⟨by have := HJ1.out; have := HK2.out; first | omega | exact Nat.le_refl _⟩, ⟨by (with_reducible repeat (first | apply Kd.R_alloc | apply Kd.R_drewN | apply Kd.R_drew)); exact Kd.R_mono (Kd.R_far (p := ⟨gb133, 4, none⟩) (Kd.R_far (p := ⟨gb133, 3, none⟩) (Kd.R_far (p := ⟨gb133, 2, none⟩) (Kd.R_far (p := ⟨gb133, 1, none⟩) (Kd.R_far (p := ⟨gb133, 0, none⟩) (Kd.R_types HO_4.out BK133.out (by decide)) (fun _ hk => hk.2) (.int .u8 ((rd_T200 l0_0 x23_2).f0))) (fun _ hk => hk.2) (.int .i32 ((rd_T200 l0_0 x23_2).f1))) (fun _ hk => hk.2) (.int .u32 ((rd_T200 l0_0 x23_2).f2))) (fun _ hk => hk.2) (.int .u32 ((rd_T200 l0_0 x23_2).f3))) (fun _ hk => hk.2) (.slice A132_4 ((rd_T200 l0_0 x23_2).f4).length c132_4)) (fun _ hk => trivial)⟩, ⟨by (with_reducible repeat (first | refine blk_drewN ?_ _ | refine blk_drew ?_ | refine blk_alloc ?_ _)); refine blk_far ?_ NB123_133.out _; (with_reducible repeat (first | refine blk_drewN ?_ _ | refine blk_drew ?_ | refine blk_alloc ?_ _)); refine blk_far ?_ NB123_133.out _; (with_reducible repeat (first | refine blk_drewN ?_ _ | refine blk_drew ?_ | refine blk_alloc ?_ _)); refine blk_far ?_ NB123_133.out _; (with_reducible repeat (first | refine blk_drewN ?_ _ | refine blk_drew ?_ | refine blk_alloc ?_ _)); refine blk_far ?_ NB123_133.out _; (with_reducible repeat (first | refine blk_drewN ?_ _ | refine blk_drew ?_ | refine blk_alloc ?_ _)); refine blk_far ?_ NB123_133.out _; (with_reducible repeat (first | refine blk_drewN ?_ _ | refine blk_drew ?_ | refine blk_alloc ?_ _)); exact BK123.out⟩, ⟨by (with_reducible repeat (first | refine blk_drewN ?_ _ | refine blk_drew ?_ | refine blk_alloc ?_ _)); refine blk_put (cs := #[.int .u8 ((rd_T200 l0_0 x23_2).f0), .int .i32 ((rd_T200 l0_0 x23_2).f1), .int .u32 ((rd_T200 l0_0 x23_2).f2), .int .u32 ((rd_T200 l0_0 x23_2).f3), .slice none 0 0]) ?_ 4 _ rfl; (with_reducible repeat (first | refine blk_drewN ?_ _ | refine blk_drew ?_ | refine blk_alloc ?_ _)); refine blk_put (cs := #[.int .u8 ((rd_T200 l0_0 x23_2).f0), .int .i32 ((rd_T200 l0_0 x23_2).f1), .int .u32 ((rd_T200 l0_0 x23_2).f2), .int .u32 0, .slice none 0 0]) ?_ 3 _ rfl; (with_reducible repeat (first | refine blk_drewN ?_ _ | refine blk_drew ?_ | refine blk_alloc ?_ _)); refine blk_put (cs := #[.int .u8 ((rd_T200 l0_0 x23_2).f0), .int .i32 ((rd_T200 l0_0 x23_2).f1), .int .u32 0, .int .u32 0, .slice none 0 0]) ?_ 2 _ rfl; (with_reducible repeat (first | refine blk_drewN ?_ _ | refine blk_drew ?_ | refine blk_alloc ?_ _)); refine blk_put (cs := #[.int .u8 ((rd_T200 l0_0 x23_2).f0), .int .i32 0, .int .u32 0, .int .u32 0, .slice none 0 0]) ?_ 1 _ rfl; (with_reducible repeat (first | refine blk_drewN ?_ _ | refine blk_drew ?_ | refine blk_alloc ?_ _)); refine blk_put (cs := #[.int .u8 0, .int .i32 0, .int .u32 0, .int .u32 0, .slice none 0 0]) ?_ 0 _ rfl; (with_reducible repeat (first | refine blk_drewN ?_ _ | refine blk_drew ?_ | refine blk_alloc ?_ _)); exact BK133.out⟩, ⟨by repeat (first | (with_reducible first | exact HB.out | apply below_alloc | apply pw_below_drewN | apply below_drew1 | refine below_set ?_ GE123.out | refine below_set ?_ GE133.out) | exact HB.out)⟩⟩
             ·rw [if_neg c20] at H
              have c20b0 : (((rd_T200 l0_0 x23_2).f0) == 6) = false := beq_eq_false_iff_ne.mpr c20
              have c20b1 : (((rd_T200 l0_0 x23_2).f0) != 6) = true := bne_iff_ne.mpr c20
              (first | rw [c20b0] | (simp only [i64_w, i32_w]; rw [c20b0]) | skip)
              have H' := Aside0.mk H
              clear H
              go_wp2
              go_meet
              case rel => exact ⟨_, ((((rd_T200 l0_0 x23_2).f0) == 7)), (by first | rfl | (simp; done) | (simp [*]; done)), H', ⟨by have := HJ1.out; have := HK2.out; first | omega | exact Nat.le_refl _⟩, ⟨by (with_reducible repeat (first | apply Kd.R_alloc | apply Kd.R_drewN | apply Kd.R_drew)); exact Kd.R_mono (Kd.R_far (p := ⟨gb133, 4, none⟩) (Kd.R_far (p := ⟨gb133, 3, none⟩) (Kd.R_far (p := ⟨gb133, 2, none⟩) (Kd.R_far (p := ⟨gb133, 1, none⟩) (Kd.R_far (p := ⟨gb133, 0, none⟩) (Kd.R_types HO_4.out BK133.out (by decide)) (fun _ hk => hk.2) (.int .u8 ((rd_T200 l0_0 x23_2).f0))) (fun _ hk => hk.2) (.int .i32 ((rd_T200 l0_0 x23_2).f1))) (fun _ hk => hk.2) (.int .u32 ((rd_T200 l0_0 x23_2).f2))) (fun _ hk => hk.2) (.int .u32 ((rd_T200 l0_0 x23_2).f3))) (fun _ hk => hk.2) (.slice A132_4 ((rd_T200 l0_0 x23_2).f4).length c132_4)) (fun _ hk => trivial)⟩, ⟨by (with_reducible repeat (first | refine blk_drewN ?_ _ | refine blk_drew ?_ | refine blk_alloc ?_ _)); refine blk_far ?_ NB123_133.out _; (with_reducible repeat (first | refine blk_drewN ?_ _ | refine blk_drew ?_ | refine blk_alloc ?_ _)); refine blk_far ?_ NB123_133.out _; (with_reducible repeat (first | refine blk_drewN ?_ _ | refine blk_drew ?_ | refine blk_alloc ?_ _)); refine blk_far ?_ NB123_133.out _; (with_reducible repeat (first | refine blk_drewN ?_ _ | refine blk_drew ?_ | refine blk_alloc ?_ _)); refine blk_far ?_ NB123_133.out _; (with_reducible repeat (first | refine blk_drewN ?_ _ | refine blk_drew ?_ | refine blk_alloc ?_ _)); refine blk_far ?_ NB123_133.out _; (with_reducible repeat (first | refine blk_drewN ?_ _ | refine blk_drew ?_ | refine blk_alloc ?_ _)); exact BK123.out⟩, ⟨by (with_reducible repeat (first | refine blk_drewN ?_ _ | refine blk_drew ?_ | refine blk_alloc ?_ _)); refine blk_put (cs := #[.int .u8 ((rd_T200 l0_0 x23_2).f0), .int .i32 ((rd_T200 l0_0 x23_2).f1), .int .u32 ((rd_T200 l0_0 x23_2).f2), .int .u32 ((rd_T200 l0_0 x23_2).f3), .slice none 0 0]) ?_ 4 _ rfl; (with_reducible repeat (first | refine blk_drewN ?_ _ | refine blk_drew ?_ | refine blk_alloc ?_ _)); refine blk_put (cs := #[.int .u8 ((rd_T200 l0_0 x23_2).f0), .int .i32 ((rd_T200 l0_0 x23_2).f1), .int .u32 ((rd_T200 l0_0 x23_2).f2), .int .u32 0, .slice none 0 0]) ?_ 3 _ rfl; (with_reducible repeat (first | refine blk_drewN ?_ _ | refine blk_drew ?_ | refine blk_alloc ?_ _)); refine blk_put (cs := #[.int .u8 ((rd_T200 l0_0 x23_2).f0), .int .i32 ((rd_T200 l0_0 x23_2).f1), .int .u32 0, .int .u32 0, .slice none 0 0]) ?_ 2 _ rfl; (with_reducible repeat (first | refine blk_drewN ?_ _ | refine blk_drew ?_ | refine blk_alloc ?_ _)); refine blk_put (cs := #[.int .u8 ((rd_T200 l0_0 x23_2).f0), .int .i32 0, .int .u32 0, .int .u32 0, .slice none 0 0]) ?_ 1 _ rfl; (with_reducible repeat (first | refine blk_drewN ?_ _ | refine blk_drew ?_ | refine blk_alloc ?_ _)); refine blk_put (cs := #[.int .u8 0, .int .i32 0, .int .u32 0, .int .u32 0, .slice none 0 0]) ?_ 0 _ rfl; (with_reducible repeat (first | refine blk_drewN ?_ _ | refine blk_drew ?_ | refine blk_alloc ?_ _)); exact BK133.out⟩, ⟨by repeat (first | (with_reducible first | exact HB.out | apply below_alloc | apply pw_below_drewN | apply below_drew1 | refine below_set ?_ GE123.out | refine below_set ?_ GE133.out) | exact HB.out)⟩⟩
            case rest =>
             clear HC19
             try clear c1
             try clear p1
             try clear q1
             try clear hx1
             try clear c2
             try clear p2
             try clear c5
             try clear c5b0
             try clear c5b1
             try clear c6
             try clear c7
             try clear c7b0
             try clear c7b1
             try clear c8
             try clear c8b0
             try clear c8b1
             try clear c11
             try clear c12
             try clear c12b0
             try clear c13
             try clear c13b0
             try clear p13
             try clear q13
             try clear hx13
             try clear c14
             try clear c14b0
             try clear c17
             try clear c20
             try clear c20b0
             try clear c20b1
             try clear hcz11_0
             try clear hcz18_0
             try clear hcz18_1
             try clear hcz18_2
             try clear hcz18_3
             try clear hcz18_4
             try clear hcz4_0
             try clear hfz11_0
             try clear hfz18_0
             try clear hfz18_1
             try clear hfz18_2
             try clear hfz18_3
             try clear hfz18_4
             try clear hfz4_0
             try clear hx132_0
             try clear hx132_1
             try clear hx132_2
             try clear hx132_3
             try clear hx132_4
             try clear p132
             try clear p2
             try clear q132
             obtain ⟨kq, x30_18, rfl, HA, HJ18, HO_4, BK123, BK133, HB⟩ := hcut
             cases kq with
             | zero => exact absurd HA.out (by simp [pattern_tree.j2])
             | succ kj18 =>
              have H := HA.out
              clear HA
              simp only [pattern_tree.j2] at H
              by_cases c21 : x30_18 = true
              ·subst c21
               have H1 : (pattern_tree.j5 kj18 (l0_0.length : Int) x4_2 x23_2 l0_0 (l0_0.length : Int) x23_2 ((rd_T200 l0_0 x23_2).f0) ((rd_T200 l0_0 x23_2).f1) ((rd_T200 l0_0 x23_2).f2) ((rd_T200 l0_0 x23_2).f3) ((rd_T200 l0_0 x23_2).f4)) = some r := by rw [if_pos rfl] at H; exact H
               clear H
               have H := H1
               clear H1
               have H' := Aside0.mk H
               clear H
               go_wp2
               go_meet
               case rel => exact ⟨_, H', ⟨by have := HJ1.out; have := HK2.out; have := HJ18.out; first | omega | exact Nat.le_refl _⟩, ⟨by (with_reducible repeat (first | apply Kd.R_alloc | apply Kd.R_drewN | apply Kd.R_drew)); exact HO_4.out⟩, ⟨by (with_reducible repeat (first | refine blk_drewN ?_ _ | refine blk_drew ?_ | refine blk_alloc ?_ _)); exact BK123.out⟩, ⟨by (with_reducible repeat (first | refine blk_drewN ?_ _ | refine blk_drew ?_ | refine blk_alloc ?_ _)); exact BK133.out⟩, ⟨by repeat (first | (with_reducible first | exact HB.out | apply below_alloc | apply pw_below_drewN | apply below_drew1 | refine below_set ?_ GE123.out | refine below_set ?_ GE133.out) | exact HB.out)⟩⟩
              ·replace c21 := Bool.eq_false_iff.mpr c21
               subst c21
               have H1 : (if ((rd_T200 l0_0 x23_2).f0) = 8 then (pattern_tree.j3 kj18 (l0_0.length : Int) x4_2 x23_2 l0_0 (l0_0.length : Int) x23_2 ((rd_T200 l0_0 x23_2).f0) (((rd_T200 l0_0 x23_2).f0) == 8) ((rd_T200 l0_0 x23_2).f0) ((rd_T200 l0_0 x23_2).f1) ((rd_T200 l0_0 x23_2).f2) ((rd_T200 l0_0 x23_2).f3) ((rd_T200 l0_0 x23_2).f4)) else (pattern_tree.j3 kj18 (l0_0.length : Int) x4_2 x23_2 l0_0 (l0_0.length : Int) x23_2 ((rd_T200 l0_0 x23_2).f0) (((rd_T200 l0_0 x23_2).f0) == 9) ((rd_T200 l0_0 x23_2).f0) ((rd_T200 l0_0 x23_2).f1) ((rd_T200 l0_0 x23_2).f2) ((rd_T200 l0_0 x23_2).f3) ((rd_T200 l0_0 x23_2).f4))) = some r := by rw [if_neg (show ¬ (false = true) by decide)] at H; exact H
               clear H
               have H := H1
               clear H1
               have HC22 := Aside0.mk H
               clear H
               go_upto_if 33 with (fail)
               go_cut [33] (fun v33 wc => ∃ (kq : Nat) (x33_21 : Bool), v33 = .bool x33_21 ∧ Aside0 (pattern_tree.j3 kq (l0_0.length : Int) x4_2 x23_2 l0_0 (l0_0.length : Int) x23_2 ((rd_T200 l0_0 x23_2).f0) x33_21 ((rd_T200 l0_0 x23_2).f0) ((rd_T200 l0_0 x23_2).f1) ((rd_T200 l0_0 x23_2).f2) ((rd_T200 l0_0 x23_2).f3) ((rd_T200 l0_0 x23_2).f4) = some r) ∧ Aside0 (kq ≤ kj18) ∧ Aside0 (Kd.R Kd.bool 4 wc w.heap.size (fun _ => True) v125 x4_2) ∧ Aside0 (wc.heap[gb123]? = some (.cells #[(.slice (some ad132) l0_0.length c0_0)] 150 (0, 0))) ∧ Aside0 (wc.heap[gb133]? = some (.cells #[.int .u8 ((rd_T200 l0_0 x23_2).f0), .int .i32 ((rd_T200 l0_0 x23_2).f1), .int .u32 ((rd_T200 l0_0 x23_2).f2), .int .u32 ((rd_T200 l0_0 x23_2).f3), (.slice A132_4 ((rd_T200 l0_0 x23_2).f4).length c132_4)] 200 (0, 0))) ∧ Aside0 (Below w.heap.size w wc))
               case first =>
                have H := HC22.out
                clear HC22
                by_cases c23 : ((rd_T200 l0_0 x23_2).f0) = 8
                ·rw [if_pos c23] at H
                 have c23b0 : (((rd_T200 l0_0 x23_2).f0) == 8) = true := beq_iff_eq.mpr c23
                 have c23b1 : (((rd_T200 l0_0 x23_2).f0) != 8) = false := bne_eq_false_iff_eq.mpr c23
                 clear c23
                 (first | rw [c23b0] | (simp only [i64_w, i32_w]; rw [c23b0]) | skip)
                 have H' := Aside0.mk H
                 clear H
                 go_wp2
                 go_meet
                 case rel => exact ⟨_, ((((rd_T200 l0_0 x23_2).f0) == 8)), (by first | rfl | (simp; done) | (simp [*]; done)), H', ⟨by have := HJ1.out; have := HK2.out; have := HJ18.out; first | omega | exact Nat.le_refl _⟩, ⟨by (with_reducible repeat (first | apply Kd.R_alloc | apply Kd.R_drewN | apply Kd.R_drew)); exact HO_4.out⟩, ⟨by (with_reducible repeat (first | refine blk_drewN ?_ _ | refine blk_drew ?_ | refine blk_alloc ?_ _)); exact BK123.out⟩, ⟨by (with_reducible repeat (first | refine blk_drewN ?_ _ | refine blk_drew ?_ | refine blk_alloc ?_ _)); exact BK133.out⟩, ⟨by repeat (first | (with_reducible first | exact HB.out | apply below_alloc | apply pw_below_drewN | apply below_drew1 | refine below_set ?_ GE123.out | refine below_set ?_ GE133.out) | exact HB.out)⟩⟩
                ·rw [if_neg c23] at H
                 have c23b0 : (((rd_T200 l0_0 x23_2).f0) == 8) = false := beq_eq_false_iff_ne.mpr c23
                 have c23b1 : (((rd_T200 l0_0 x23_2).f0) != 8) = true := bne_iff_ne.mpr c23
                 (first | rw [c23b0] | (simp only [i64_w, i32_w]; rw [c23b0]) | skip)
                 have H' := Aside0.mk H
                 clear H
                 go_wp2
                 go_meet
                 case rel => exact ⟨_, ((((rd_T200 l0_0 x23_2).f0) == 9)), (by first | rfl | (simp; done) | (simp [*]; done)), H', ⟨by have := HJ1.out; have := HK2.out; have := HJ18.out; first | omega | exact Nat.le_refl _⟩, ⟨by (with_reducible repeat (first | apply Kd.R_alloc | apply Kd.R_drewN | apply Kd.R_drew)); exact HO_4.out⟩, ⟨by (with_reducible repeat (first | refine blk_drewN ?_ _ | refine blk_drew ?_ | refine blk_alloc ?_ _)); exact BK123.out⟩, ⟨by (with_reducible repeat (first | refine blk_drewN ?_ _ | refine blk_drew ?_ | refine blk_alloc ?_ _)); exact BK133.out⟩, ⟨by repeat (first | (with_reducible first | exact HB.out | apply below_alloc | apply pw_below_drewN | apply below_drew1 | refine below_set ?_ GE123.out | refine below_set ?_ GE133.out) | exact HB.out)⟩⟩
               case rest =>
                clear HC22
                try clear c1
                try clear p1
                try clear q1
                try clear hx1
                try clear c2
                try clear p2
                try clear c5
                try clear c5b0
                try clear c5b1
                try clear c6
                try clear c7
                try clear c7b0
                try clear c7b1
                try clear c8
                try clear c8b0
                try clear c8b1
                try clear c11
                try clear c12
                try clear c12b0
                try clear c13
                try clear c13b0
                try clear p13
                try clear q13
                try clear hx13
                try clear c14
                try clear c14b0
                try clear c17
                try clear c20
                try clear c20b0
                try clear c20b1
                try clear c21
                try clear c23
                try clear c23b0
                try clear c23b1
                try clear hcz11_0
                try clear hcz18_0
                try clear hcz18_1
                try clear hcz18_2
                try clear hcz18_3
                try clear hcz18_4
                try clear hcz4_0
                try clear hfz11_0
                try clear hfz18_0
                try clear hfz18_1
                try clear hfz18_2
                try clear hfz18_3
                try clear hfz18_4
                try clear hfz4_0
                try clear hx132_0
                try clear hx132_1
                try clear hx132_2
                try clear hx132_3
                try clear hx132_4
                try clear p1
                try clear p13
                try clear p132
                try clear p2
                try clear q1
                try clear q13
                try clear q132
                obtain ⟨kq, x33_21, rfl, HA, HJ21, HO_4, BK123, BK133, HB⟩ := hcut
                cases kq with
                | zero => exact absurd HA.out (by simp [pattern_tree.j3])
                | succ kj21 =>
                 have H := HA.out
                 clear HA
                 simp only [pattern_tree.j3] at H
                 by_cases c24 : x33_21 = true
                 ·subst c24
                  have H1 : (if (((rd_T200 l0_0 x23_2).f4).length : Int) = 1 then (pattern_tree.j5 kj21 (l0_0.length : Int) x4_2 x23_2 l0_0 (l0_0.length : Int) x23_2 ((rd_T200 l0_0 x23_2).f0) ((rd_T200 l0_0 x23_2).f1) ((rd_T200 l0_0 x23_2).f2) ((rd_T200 l0_0 x23_2).f3) ((rd_T200 l0_0 x23_2).f4)) else (some false)) = some r := by rw [if_pos rfl] at H; exact H
                  clear H
                  have H := H1
                  clear H1
                  by_cases c25 : (((rd_T200 l0_0 x23_2).f4).length : Int) = 1
                  ·rw [if_pos c25] at H
                   have c25b0 : ((((rd_T200 l0_0 x23_2).f4).length : Int) == 1) = true := beq_iff_eq.mpr c25
                   have c25b1 : ((((rd_T200 l0_0 x23_2).f4).length : Int) != 1) = false := bne_eq_false_iff_eq.mpr c25
                   clear c25
                   have H' := Aside0.mk H
                   clear H
                   have hnb26 := NB133_123.out
                   have hnc26 := NB123_133.out
                   have hcz27_0 : wc.cell? ⟨gb133, 0, none⟩ = some (.int .u8 ((rd_T200 l0_0 x23_2).f0)) := (blk_cell BK133.out 0).trans rfl
                   have hcz27_1 : wc.cell? ⟨gb133, 1, none⟩ = some (.int .i32 ((rd_T200 l0_0 x23_2).f1)) := (blk_cell BK133.out 1).trans rfl
                   have hcz27_2 : wc.cell? ⟨gb133, 2, none⟩ = some (.int .u32 ((rd_T200 l0_0 x23_2).f2)) := (blk_cell BK133.out 2).trans rfl
                   have hcz27_3 : wc.cell? ⟨gb133, 3, none⟩ = some (.int .u32 ((rd_T200 l0_0 x23_2).f3)) := (blk_cell BK133.out 3).trans rfl
                   have hcz27_4 : wc.cell? ⟨gb133, 4, none⟩ = some (.slice A132_4 ((rd_T200 l0_0 x23_2).f4).length c132_4) := (blk_cell BK133.out 4).trans rfl
                   have hfz27_0 := blk_frozen BK133.out 0
                   have hfz27_1 := blk_frozen BK133.out 1
                   have hfz27_2 := blk_frozen BK133.out 2
                   have hfz27_3 := blk_frozen BK133.out 3
                   have hfz27_4 := blk_frozen BK133.out 4
                   go_wp2
                   go_meet
                   case rel => exact ⟨_, H', ⟨by have := HJ1.out; have := HK2.out; have := HJ18.out; have := HJ21.out; first | omega | exact Nat.le_refl _⟩, ⟨by (with_reducible repeat (first | apply Kd.R_alloc | apply Kd.R_drewN | apply Kd.R_drew)); exact HO_4.out⟩, ⟨by (with_reducible repeat (first | refine blk_drewN ?_ _ | refine blk_drew ?_ | refine blk_alloc ?_ _)); exact BK123.out⟩, ⟨by (with_reducible repeat (first | refine blk_drewN ?_ _ | refine blk_drew ?_ | refine blk_alloc ?_ _)); exact BK133.out⟩, ⟨by repeat (first | (with_reducible first | exact HB.out | apply below_alloc | apply pw_below_drewN | apply below_drew1 | refine below_set ?_ GE123.out | refine below_set ?_ GE133.out) | exact HB.out)⟩⟩
                  ·rw [if_neg c25] at H
                   have c25b0 : ((((rd_T200 l0_0 x23_2).f4).length : Int) == 1) = false := beq_eq_false_iff_ne.mpr c25
                   have c25b1 : ((((rd_T200 l0_0 x23_2).f4).length : Int) != 1) = true := bne_iff_ne.mpr c25
                   obtain rfl := Option.some.inj H
                   have hnb28 := NB133_123.out
                   have hnc28 := NB123_133.out
                   have hcz29_0 : wc.cell? ⟨gb133, 0, none⟩ = some (.int .u8 ((rd_T200 l0_0 x23_2).f0)) := (blk_cell BK133.out 0).trans rfl
                   have hcz29_1 : wc.cell? ⟨gb133, 1, none⟩ = some (.int .i32 ((rd_T200 l0_0 x23_2).f1)) := (blk_cell BK133.out 1).trans rfl
                   have hcz29_2 : wc.cell? ⟨gb133, 2, none⟩ = some (.int .u32 ((rd_T200 l0_0 x23_2).f2)) := (blk_cell BK133.out 2).trans rfl
                   have hcz29_3 : wc.cell? ⟨gb133, 3, none⟩ = some (.int .u32 ((rd_T200 l0_0 x23_2).f3)) := (blk_cell BK133.out 3).trans rfl
                   have hcz29_4 : wc.cell? ⟨gb133, 4, none⟩ = some (.slice A132_4 ((rd_T200 l0_0 x23_2).f4).length c132_4) := (blk_cell BK133.out 4).trans rfl
                   have hfz29_0 := blk_frozen BK133.out 0
                   have hfz29_1 := blk_frozen BK133.out 1
                   have hfz29_2 := blk_frozen BK133.out 2
                   have hfz29_3 := blk_frozen BK133.out 3
                   have hfz29_4 := blk_frozen BK133.out 4
                   go_wp2
                   go_ret
                   exact ⟨by first | rfl | (simp [errW_none, errW_some] <;> rfl) | (simp [*, errW_none, errW_some] <;> rfl), by repeat (first | (with_reducible first | exact HB.out | apply below_alloc | apply pw_below_drewN | apply below_drew1 | refine below_set ?_ GE123.out | refine below_set ?_ GE133.out) | exact HB.out)⟩
                 ·replace c24 := Bool.eq_false_iff.mpr c24
                  subst c24
                  have H1 : (if ((rd_T200 l0_0 x23_2).f0) = 1 then (pattern_tree.j4 kj21 (l0_0.length : Int) x4_2 x23_2 l0_0 (l0_0.length : Int) x23_2 (((rd_T200 l0_0 x23_2).f0) == 1) ((rd_T200 l0_0 x23_2).f0) ((rd_T200 l0_0 x23_2).f1) ((rd_T200 l0_0 x23_2).f2) ((rd_T200 l0_0 x23_2).f3) ((rd_T200 l0_0 x23_2).f4)) else (if ((rd_T200 l0_0 x23_2).f0) = 2 then (pattern_tree.j4 kj21 (l0_0.length : Int) x4_2 x23_2 l0_0 (l0_0.length : Int) x23_2 (((rd_T200 l0_0 x23_2).f0) == 2) ((rd_T200 l0_0 x23_2).f0) ((rd_T200 l0_0 x23_2).f1) ((rd_T200 l0_0 x23_2).f2) ((rd_T200 l0_0 x23_2).f3) ((rd_T200 l0_0 x23_2).f4)) else (if ((rd_T200 l0_0 x23_2).f0) = 3 then (pattern_tree.j4 kj21 (l0_0.length : Int) x4_2 x23_2 l0_0 (l0_0.length : Int) x23_2 (((rd_T200 l0_0 x23_2).f0) == 3) ((rd_T200 l0_0 x23_2).f0) ((rd_T200 l0_0 x23_2).f1) ((rd_T200 l0_0 x23_2).f2) ((rd_T200 l0_0 x23_2).f3) ((rd_T200 l0_0 x23_2).f4)) else (if ((rd_T200 l0_0 x23_2).f0) = 4 then (pattern_tree.j4 kj21 (l0_0.length : Int) x4_2 x23_2 l0_0 (l0_0.length : Int) x23_2 (((rd_T200 l0_0 x23_2).f0) == 4) ((rd_T200 l0_0 x23_2).f0) ((rd_T200 l0_0 x23_2).f1) ((rd_T200 l0_0 x23_2).f2) ((rd_T200 l0_0 x23_2).f3) ((rd_T200 l0_0 x23_2).f4)) else (pattern_tree.j4 kj21 (l0_0.length : Int) x4_2 x23_2 l0_0 (l0_0.length : Int) x23_2 (((rd_T200 l0_0 x23_2).f0) == 5) ((rd_T200 l0_0 x23_2).f0) ((rd_T200 l0_0 x23_2).f1) ((rd_T200 l0_0 x23_2).f2) ((rd_T200 l0_0 x23_2).f3) ((rd_T200 l0_0 x23_2).f4)))))) = some r := by rw [if_neg (show ¬ (false = true) by decide)] at H; exact H
                  clear H
                  have H := H1
                  clear H1
                  have HC30 := Aside0.mk H
                  clear H
                  go_upto_if 40 with (fail)
                  go_cut [40] (fun v40 wc => ∃ (kq : Nat) (x40_29 : Bool), v40 = .bool x40_29 ∧ Aside0 (pattern_tree.j4 kq (l0_0.length : Int) x4_2 x23_2 l0_0 (l0_0.length : Int) x23_2 x40_29 ((rd_T200 l0_0 x23_2).f0) ((rd_T200 l0_0 x23_2).f1) ((rd_T200 l0_0 x23_2).f2) ((rd_T200 l0_0 x23_2).f3) ((rd_T200 l0_0 x23_2).f4) = some r) ∧ Aside0 (kq ≤ kj21) ∧ Aside0 (Kd.R Kd.bool 4 wc w.heap.size (fun _ => True) v125 x4_2) ∧ Aside0 (wc.heap[gb123]? = some (.cells #[(.slice (some ad132) l0_0.length c0_0)] 150 (0, 0))) ∧ Aside0 (wc.heap[gb133]? = some (.cells #[.int .u8 ((rd_T200 l0_0 x23_2).f0), .int .i32 ((rd_T200 l0_0 x23_2).f1), .int .u32 ((rd_T200 l0_0 x23_2).f2), .int .u32 ((rd_T200 l0_0 x23_2).f3), (.slice A132_4 ((rd_T200 l0_0 x23_2).f4).length c132_4)] 200 (0, 0))) ∧ Aside0 (Below w.heap.size w wc))
                  case first =>
                   have H := HC30.out
                   clear HC30
                   by_cases c31 : ((rd_T200 l0_0 x23_2).f0) = 1
                   ·rw [if_pos c31] at H
                    have c31b0 : (((rd_T200 l0_0 x23_2).f0) == 1) = true := beq_iff_eq.mpr c31
                    have c31b1 : (((rd_T200 l0_0 x23_2).f0) != 1) = false := bne_eq_false_iff_eq.mpr c31
                    clear c31
                    (first | rw [c31b0] | (simp only [i64_w, i32_w]; rw [c31b0]) | skip)
                    have H' := Aside0.mk H
                    clear H
                    go_wp2
                    go_meet
                    case rel => exact ⟨_, ((((rd_T200 l0_0 x23_2).f0) == 1)), (by first | rfl | (simp; done) | (simp [*]; done)), H', ⟨by have := HJ1.out; have := HK2.out; have := HJ18.out; have := HJ21.out; first | omega | exact Nat.le_refl _⟩, ⟨by (with_reducible repeat (first | apply Kd.R_alloc | apply Kd.R_drewN | apply Kd.R_drew)); exact HO_4.out⟩, ⟨by (with_reducible repeat (first | refine blk_drewN ?_ _ | refine blk_drew ?_ | refine blk_alloc ?_ _)); exact BK123.out⟩, ⟨by (with_reducible repeat (first | refine blk_drewN ?_ _ | refine blk_drew ?_ | refine blk_alloc ?_ _)); exact BK133.out⟩, ⟨by repeat (first | (with_reducible first | exact HB.out | apply below_alloc | apply pw_below_drewN | apply below_drew1 | refine below_set ?_ GE123.out | refine below_set ?_ GE133.out) | exact HB.out)⟩⟩
                   ·rw [if_neg c31] at H
                    have c31b0 : (((rd_T200 l0_0 x23_2).f0) == 1) = false := beq_eq_false_iff_ne.mpr c31
                    have c31b1 : (((rd_T200 l0_0 x23_2).f0) != 1) = true := bne_iff_ne.mpr c31
                    (first | rw [c31b0] | (simp only [i64_w, i32_w]; rw [c31b0]) | skip)
                    by_cases c32 : ((rd_T200 l0_0 x23_2).f0) = 2
                    ·rw [if_pos c32] at H
                     have c32b0 : (((rd_T200 l0_0 x23_2).f0) == 2) = true := beq_iff_eq.mpr c32
                     have c32b1 : (((rd_T200 l0_0 x23_2).f0) != 2) = false := bne_eq_false_iff_eq.mpr c32
                     clear c32
                     have H' := Aside0.mk H
                     clear H
                     go_wp2
                     go_meet
                     case rel => exact ⟨_, ((((rd_T200 l0_0 x23_2).f0) == 2)), (by first | rfl | (simp; done) | (simp [*]; done)), H', ⟨by have := HJ1.out; have := HK2.out; have := HJ18.out; have := HJ21.out; first | omega | exact Nat.le_refl _⟩, ⟨by (with_reducible repeat (first | apply Kd.R_alloc | apply Kd.R_drewN | apply Kd.R_drew)); exact HO_4.out⟩, ⟨by (with_reducible repeat (first | refine blk_drewN ?_ _ | refine blk_drew ?_ | refine blk_alloc ?_ _)); exact BK123.out⟩, ⟨by (with_reducible repeat (first | refine blk_drewN ?_ _ | refine blk_drew ?_ | refine blk_alloc ?_ _)); exact BK133.out⟩, ⟨by repeat (first | (with_reducible first | exact HB.out | apply below_alloc | apply pw_below_drewN | apply below_drew1 | refine below_set ?_ GE123.out | refine below_set ?_ GE133.out) | exact HB.out)⟩⟩
                    ·rw [if_neg c32] at H
                     have c32b0 : (((rd_T200 l0_0 x23_2).f0) == 2) = false := beq_eq_false_iff_ne.mpr c32
                     have c32b1 : (((rd_T200 l0_0 x23_2).f0) != 2) = true := bne_iff_ne.mpr c32
                     by_cases c33 : ((rd_T200 l0_0 x23_2).f0) = 3
                     ·rw [if_pos c33] at H
                      have c33b0 : (((rd_T200 l0_0 x23_2).f0) == 3) = true := beq_iff_eq.mpr c33
                      have c33b1 : (((rd_T200 l0_0 x23_2).f0) != 3) = false := bne_eq_false_iff_eq.mpr c33
                      clear c33
                      have H' := Aside0.mk H
                      clear H
                      go_wp2
                      go_meet
                      case rel => exact ⟨_, ((((rd_T200 l0_0 x23_2).f0) == 3)), (by first | rfl | (simp; done) | (simp [*]; done)), H', ⟨by have := HJ1.out; have := HK2.out; have := HJ18.out; have := HJ21.out; first | omega | exact Nat.le_refl _⟩, ⟨by (with_reducible repeat (first | apply Kd.R_alloc | apply Kd.R_drewN | apply Kd.R_drew)); exact HO_4.out⟩, ⟨by (with_reducible repeat (first | refine blk_drewN ?_ _ | refine blk_drew ?_ | refine blk_alloc ?_ _)); exact BK123.out⟩, ⟨by (with_reducible repeat (first | refine blk_drewN ?_ _ | refine blk_drew ?_ | refine blk_alloc ?_ _)); exact BK133.out⟩, ⟨by repeat (first | (with_reducible first | exact HB.out | apply below_alloc | apply pw_below_drewN | apply below_drew1 | refine below_set ?_ GE123.out | refine below_set ?_ GE133.out) | exact HB.out)⟩⟩
                     ·rw [if_neg c33] at H
                      have c33b0 : (((rd_T200 l0_0 x23_2).f0) == 3) = false := beq_eq_false_iff_ne.mpr c33
                      have c33b1 : (((rd_T200 l0_0 x23_2).f0) != 3) = true := bne_iff_ne.mpr c33
                      by_cases c34 : ((rd_T200 l0_0 x23_2).f0) = 4
                      ·rw [if_pos c34] at H
                       have c34b0 : (((rd_T200 l0_0 x23_2).f0) == 4) = true := beq_iff_eq.mpr c34
                       have c34b1 : (((rd_T200 l0_0 x23_2).f0) != 4) = false := bne_eq_false_iff_eq.mpr c34
                       clear c34
                       have H' := Aside0.mk H
                       clear H
                       go_wp2
                       go_meet
                       case rel => exact ⟨_, ((((rd_T200 l0_0 x23_2).f0) == 4)), (by first | rfl | (simp; done) | (simp [*]; done)), H', ⟨by have := HJ1.out; have := HK2.out; have := HJ18.out; have := HJ21.out; first | omega | exact Nat.le_refl _⟩, ⟨by (with_reducible repeat (first | apply Kd.R_alloc | apply Kd.R_drewN | apply Kd.R_drew)); exact HO_4.out⟩, ⟨by (with_reducible repeat (first | refine blk_drewN ?_ _ | refine blk_drew ?_ | refine blk_alloc ?_ _)); exact BK123.out⟩, ⟨by (with_reducible repeat (first | refine blk_drewN ?_ _ | refine blk_drew ?_ | refine blk_alloc ?_ _)); exact BK133.out⟩, ⟨by repeat (first | (with_reducible first | exact HB.out | apply below_alloc | apply pw_below_drewN | apply below_drew1 | refine below_set ?_ GE123.out | refine below_set ?_ GE133.out) | exact HB.out)⟩⟩
                      ·rw [if_neg c34] at H
                       have c34b0 : (((rd_T200 l0_0 x23_2).f0) == 4) = false := beq_eq_false_iff_ne.mpr c34
                       have c34b1 : (((rd_T200 l0_0 x23_2).f0) != 4) = true := bne_iff_ne.mpr c34
                       have H' := Aside0.mk H
                       clear H
                       go_wp2
                       go_meet
                       case rel => exact ⟨_, ((((rd_T200 l0_0 x23_2).f0) == 5)), (by first | rfl | (simp; done) | (simp [*]; done)), H', ⟨by have := HJ1.out; have := HK2.out; have := HJ18.out; have := HJ21.out; first | omega | exact Nat.le_refl _⟩, ⟨by (with_reducible repeat (first | apply Kd.R_alloc | apply Kd.R_drewN | apply Kd.R_drew)); exact HO_4.out⟩, ⟨by (with_reducible repeat (first | refine blk_drewN ?_ _ | refine blk_drew ?_ | refine blk_alloc ?_ _)); exact BK123.out⟩, ⟨by (with_reducible repeat (first | refine blk_drewN ?_ _ | refine blk_drew ?_ | refine blk_alloc ?_ _)); exact BK133.out⟩, ⟨by repeat (first | (with_reducible first | exact HB.out | apply below_alloc | apply pw_below_drewN | apply below_drew1 | refine below_set ?_ GE123.out | refine below_set ?_ GE133.out) | exact HB.out)⟩⟩
                  case rest =>
                   clear HC30
                   try clear c1
                   try clear p1
                   try clear q1
                   try clear hx1
                   try clear c2
                   try clear p2
                   try clear c3
                   try clear c5
                   try clear c5b0
                   try clear c5b1
                   try clear c6
                   try clear c7
                   try clear c7b0
                   try clear c7b1
                   try clear c8
                   try clear c8b0
                   try clear c8b1
                   try clear c11
                   try clear c12
                   try clear c12b0
                   try clear c13
                   try clear c13b0
                   try clear p13
                   try clear q13
                   try clear hx13
                   try clear c14
                   try clear c14b0
                   try clear c17
                   try clear c20
                   try clear c20b0
                   try clear c20b1
                   try clear c21
                   try clear c23
                   try clear c23b0
                   try clear c23b1
                   try clear c24
                   try clear c25
                   try clear c25b0
                   try clear c25b1
                   try clear c26
                   try clear c28
                   try clear c31
                   try clear c31b0
                   try clear c31b1
                   try clear c32
                   try clear c32b0
                   try clear c32b1
                   try clear c33
                   try clear c33b0
                   try clear c33b1
                   try clear c34
                   try clear c34b0
                   try clear c34b1
                   try clear hcz11_0
                   try clear hcz18_0
                   try clear hcz18_1
                   try clear hcz18_2
                   try clear hcz18_3
                   try clear hcz18_4
                   try clear hcz27_0
                   try clear hcz27_1
                   try clear hcz27_2
                   try clear hcz27_3
                   try clear hcz27_4
                   try clear hcz29_0
                   try clear hcz29_1
                   try clear hcz29_2
                   try clear hcz29_3
                   try clear hcz29_4
                   try clear hcz4_0
                   try clear hfz11_0
                   try clear hfz18_0
                   try clear hfz18_1
                   try clear hfz18_2
                   try clear hfz18_3
                   try clear hfz18_4
                   try clear hfz27_0
                   try clear hfz27_1
                   try clear hfz27_2
                   try clear hfz27_3
                   try clear hfz27_4
                   try clear hfz29_0
                   try clear hfz29_1
                   try clear hfz29_2
                   try clear hfz29_3
                   try clear hfz29_4
                   try clear hfz4_0
                   try clear hx132_0
                   try clear hx132_1
                   try clear hx132_2
                   try clear hx132_3
                   try clear hx132_4
                   try clear p1
                   try clear p13
                   try clear p132
                   try clear p2
                   try clear q1
                   try clear q13
                   try clear q132
                   obtain ⟨kq, x40_29, rfl, HA, HJ29, HO_4, BK123, BK133, HB⟩ := hcut
                   cases kq with
                   | zero => exact absurd HA.out (by simp [pattern_tree.j4])
                   | succ kj29 =>
                    have H := HA.out
                    clear HA
                    simp only [pattern_tree.j4] at H
                    by_cases c35 : x40_29 = true
                    ·subst c35
                     have H1 : (if (((rd_T200 l0_0 x23_2).f4).length : Int) = 0 then (pattern_tree.j5 kj29 (l0_0.length : Int) x4_2 x23_2 l0_0 (l0_0.length : Int) x23_2 ((rd_T200 l0_0 x23_2).f0) ((rd_T200 l0_0 x23_2).f1) ((rd_T200 l0_0 x23_2).f2) ((rd_T200 l0_0 x23_2).f3) ((rd_T200 l0_0 x23_2).f4)) else (some false)) = some r := by rw [if_pos rfl] at H; exact H
                     clear H
                     have H := H1
                     clear H1
                     by_cases c36 : (((rd_T200 l0_0 x23_2).f4).length : Int) = 0
                     ·rw [if_pos c36] at H
                      have c36b0 : ((((rd_T200 l0_0 x23_2).f4).length : Int) == 0) = true := beq_iff_eq.mpr c36
                      have c36b1 : ((((rd_T200 l0_0 x23_2).f4).length : Int) != 0) = false := bne_eq_false_iff_eq.mpr c36
                      clear c36
                      have H' := Aside0.mk H
                      clear H
                      have hnb37 := NB133_123.out
                      have hnc37 := NB123_133.out
                      have hcz38_0 : wc.cell? ⟨gb133, 0, none⟩ = some (.int .u8 ((rd_T200 l0_0 x23_2).f0)) := (blk_cell BK133.out 0).trans rfl
                      have hcz38_1 : wc.cell? ⟨gb133, 1, none⟩ = some (.int .i32 ((rd_T200 l0_0 x23_2).f1)) := (blk_cell BK133.out 1).trans rfl
                      have hcz38_2 : wc.cell? ⟨gb133, 2, none⟩ = some (.int .u32 ((rd_T200 l0_0 x23_2).f2)) := (blk_cell BK133.out 2).trans rfl
                      have hcz38_3 : wc.cell? ⟨gb133, 3, none⟩ = some (.int .u32 ((rd_T200 l0_0 x23_2).f3)) := (blk_cell BK133.out 3).trans rfl
                      have hcz38_4 : wc.cell? ⟨gb133, 4, none⟩ = some (.slice A132_4 ((rd_T200 l0_0 x23_2).f4).length c132_4) := (blk_cell BK133.out 4).trans rfl
                      have hfz38_0 := blk_frozen BK133.out 0
                      have hfz38_1 := blk_frozen BK133.out 1
                      have hfz38_2 := blk_frozen BK133.out 2
                      have hfz38_3 := blk_frozen BK133.out 3
                      have hfz38_4 := blk_frozen BK133.out 4
                      go_wp2
                      go_meet
                      case rel => exact ⟨_, H', ⟨by have := HJ1.out; have := HK2.out; have := HJ18.out; have := HJ21.out; have := HJ29.out; first | omega | exact Nat.le_refl _⟩, ⟨by (with_reducible repeat (first | apply Kd.R_alloc | apply Kd.R_drewN | apply Kd.R_drew)); exact HO_4.out⟩, ⟨by (with_reducible repeat (first | refine blk_drewN ?_ _ | refine blk_drew ?_ | refine blk_alloc ?_ _)); exact BK123.out⟩, ⟨by (with_reducible repeat (first | refine blk_drewN ?_ _ | refine blk_drew ?_ | refine blk_alloc ?_ _)); exact BK133.out⟩, ⟨by repeat (first | (with_reducible first | exact HB.out | apply below_alloc | apply pw_below_drewN | apply below_drew1 | refine below_set ?_ GE123.out | refine below_set ?_ GE133.out) | exact HB.out)⟩⟩
                     ·rw [if_neg c36] at H
                      have c36b0 : ((((rd_T200 l0_0 x23_2).f4).length : Int) == 0) = false := beq_eq_false_iff_ne.mpr c36
                      have c36b1 : ((((rd_T200 l0_0 x23_2).f4).length : Int) != 0) = true := bne_iff_ne.mpr c36
                      have c36b2 : ¬ (((rd_T200 l0_0 x23_2).f4) = []) := fun h_ => c36 (by rw [h_]; rfl)
                      obtain rfl := Option.some.inj H
                      have hnb39 := NB133_123.out
                      have hnc39 := NB123_133.out
                      have hcz40_0 : wc.cell? ⟨gb133, 0, none⟩ = some (.int .u8 ((rd_T200 l0_0 x23_2).f0)) := (blk_cell BK133.out 0).trans rfl
                      have hcz40_1 : wc.cell? ⟨gb133, 1, none⟩ = some (.int .i32 ((rd_T200 l0_0 x23_2).f1)) := (blk_cell BK133.out 1).trans rfl
                      have hcz40_2 : wc.cell? ⟨gb133, 2, none⟩ = some (.int .u32 ((rd_T200 l0_0 x23_2).f2)) := (blk_cell BK133.out 2).trans rfl
                      have hcz40_3 : wc.cell? ⟨gb133, 3, none⟩ = some (.int .u32 ((rd_T200 l0_0 x23_2).f3)) := (blk_cell BK133.out 3).trans rfl
                      have hcz40_4 : wc.cell? ⟨gb133, 4, none⟩ = some (.slice A132_4 ((rd_T200 l0_0 x23_2).f4).length c132_4) := (blk_cell BK133.out 4).trans rfl
                      have hfz40_0 := blk_frozen BK133.out 0
                      have hfz40_1 := blk_frozen BK133.out 1
                      have hfz40_2 := blk_frozen BK133.out 2
                      have hfz40_3 := blk_frozen BK133.out 3
                      have hfz40_4 := blk_frozen BK133.out 4
                      go_wp2
                      go_ret
                      exact ⟨by first | rfl | (simp [errW_none, errW_some] <;> rfl) | (simp [*, errW_none, errW_some] <;> rfl), by repeat (first | (with_reducible first | exact HB.out | apply below_alloc | apply pw_below_drewN | apply below_drew1 | refine below_set ?_ GE123.out | refine below_set ?_ GE133.out) | exact HB.out)⟩
                    ·replace c35 := Bool.eq_false_iff.mpr c35
                     subst c35
                     have H1 : (some false) = some r := by rw [if_neg (show ¬ (false = true) by decide)] at H; exact H
                     clear H
                     have H := H1
                     clear H1
                     obtain rfl := Option.some.inj H
                     go_wp2
                     go_ret
                     exact ⟨by first | rfl | (simp [errW_none, errW_some] <;> rfl) | (simp [*, errW_none, errW_some] <;> rfl), by repeat (first | (with_reducible first | exact HB.out | apply below_alloc | apply pw_below_drewN | apply below_drew1 | refine below_set ?_ GE123.out | refine below_set ?_ GE133.out) | exact HB.out)⟩
           case rest =>
            clear HC15
            try clear c1
            try clear p1
            try clear q1
            try clear hx1
            try clear c2
            try clear p2
            try clear c3
            try clear c5
            try clear c5b0
            try clear c5b1
            try clear c6
            try clear c7
            try clear c7b0
            try clear c7b1
            try clear c8
            try clear c8b0
            try clear c8b1
            try clear c11
            try clear c12
            try clear c12b0
            try clear c13
            try clear c13b0
            try clear p13
            try clear q13
            try clear hx13
            try clear c14
            try clear c14b0
            try clear c17
            try clear c20
            try clear c20b0
            try clear c20b1
            try clear c21
            try clear c23
            try clear c23b0
            try clear c23b1
            try clear c24
            try clear c25
            try clear c25b0
            try clear c25b1
            try clear c26
            try clear c28
            try clear c31
            try clear c31b0
            try clear c31b1
            try clear c32
            try clear c32b0
            try clear c32b1
            try clear c33
            try clear c33b0
            try clear c33b1
            try clear c34
            try clear c34b0
            try clear c34b1
            try clear c35
            try clear c36
            try clear c36b0
            try clear c36b1
            try clear c36b2
            try clear c37
            try clear c39
            try clear hcz11_0
            try clear hcz18_0
            try clear hcz18_1
            try clear hcz18_2
            try clear hcz18_3
            try clear hcz18_4
            try clear hcz27_0
            try clear hcz27_1
            try clear hcz27_2
            try clear hcz27_3
            try clear hcz27_4
            try clear hcz29_0
            try clear hcz29_1
            try clear hcz29_2
            try clear hcz29_3
            try clear hcz29_4
            try clear hcz38_0
            try clear hcz38_1
            try clear hcz38_2
            try clear hcz38_3
            try clear hcz38_4
            try clear hcz40_0
            try clear hcz40_1
            try clear hcz40_2
            try clear hcz40_3
            try clear hcz40_4
            try clear hcz4_0
            try clear hfz11_0
            try clear hfz18_0
            try clear hfz18_1
            try clear hfz18_2
            try clear hfz18_3
            try clear hfz18_4
            try clear hfz27_0
            try clear hfz27_1
            try clear hfz27_2
            try clear hfz27_3
            try clear hfz27_4
            try clear hfz29_0
            try clear hfz29_1
            try clear hfz29_2
            try clear hfz29_3
            try clear hfz29_4
            try clear hfz38_0
            try clear hfz38_1
            try clear hfz38_2
            try clear hfz38_3
            try clear hfz38_4
            try clear hfz40_0
            try clear hfz40_1
            try clear hfz40_2
            try clear hfz40_3
            try clear hfz40_4
            try clear hfz4_0
            try clear hx132_0
            try clear hx132_1
            try clear hx132_2
            try clear hx132_3
            try clear hx132_4
            try clear p1
            try clear p13
            try clear p132
            try clear p2
            try clear q1
            try clear q13
            try clear q132
            obtain ⟨kq, HA, HJ14, HO_4, BK123, BK133, HB⟩ := hcut
            cases kq with
            | zero => exact absurd HA.out (by simp [pattern_tree.j5])
            | succ kj14 =>
             have H := HA.out
             clear HA
             simp only [pattern_tree.j5] at H
             have HC41 := Aside0.mk H
             clear H
             go_upto_region 23 with (fail)
             go_cut [70] (fun v70 wc => ∃ (kq : Nat) (x70_40 : Bool), v70 = .bool x70_40 ∧ Aside0 (pattern_tree.j6 kq (l0_0.length : Int) x4_2 x23_2 l0_0 (l0_0.length : Int) x23_2 x70_40 ((rd_T200 l0_0 x23_2).f0) ((rd_T200 l0_0 x23_2).f1) ((rd_T200 l0_0 x23_2).f2) ((rd_T200 l0_0 x23_2).f3) ((rd_T200 l0_0 x23_2).f4) = some r) ∧ Aside0 (kq ≤ kj14) ∧ Aside0 (Kd.R Kd.bool 4 wc w.heap.size (fun _ => True) v125 x4_2) ∧ Aside0 (wc.heap[gb123]? = some (.cells #[(.slice (some ad132) l0_0.length c0_0)] 150 (0, 0))) ∧ Aside0 (wc.heap[gb133]? = some (.cells #[.int .u8 ((rd_T200 l0_0 x23_2).f0), .int .i32 ((rd_T200 l0_0 x23_2).f1), .int .u32 ((rd_T200 l0_0 x23_2).f2), .int .u32 ((rd_T200 l0_0 x23_2).f3), (.slice A132_4 ((rd_T200 l0_0 x23_2).f4).length c132_4)] 200 (0, 0))) ∧ Aside0 (Below w.heap.size w wc))
             case first =>
              have H := HC41.out
              clear HC41
              by_cases c42 : ((rd_T200 l0_0 x23_2).f1) = 0
              ·rw [if_pos c42] at H
               have c42b0 : (((rd_T200 l0_0 x23_2).f1) == 0) = true := beq_iff_eq.mpr c42
               have c42b1 : (((rd_T200 l0_0 x23_2).f1) != 0) = false := bne_eq_false_iff_eq.mpr c42
               clear c42
               (first | rw [c42b0] | (simp only [i64_w, i32_w]; rw [c42b0]) | skip)
               by_cases c43 : (Go.bits .or .u32 ((rd_T200 l0_0 x23_2).f2) ((rd_T200 l0_0 x23_2).f3)) = 0
               ·rw [if_pos c43] at H
                have c43b0 : ((Go.bits .or .u32 ((rd_T200 l0_0 x23_2).f2) ((rd_T200 l0_0 x23_2).f3)) == 0) = true := beq_iff_eq.mpr c43
                have c43b1 : ((Go.bits .or .u32 ((rd_T200 l0_0 x23_2).f2) ((rd_T200 l0_0 x23_2).f3)) != 0) = false := bne_eq_false_iff_eq.mpr c43
                clear c43
                have H' := Aside0.mk H
                clear H
                have hnb44 := NB133_123.out
                have hnc44 := NB123_133.out
                have hcz45_0 : wc.cell? ⟨gb133, 0, none⟩ = some (.int .u8 ((rd_T200 l0_0 x23_2).f0)) := (blk_cell BK133.out 0).trans rfl
                have hcz45_1 : wc.cell? ⟨gb133, 1, none⟩ = some (.int .i32 ((rd_T200 l0_0 x23_2).f1)) := (blk_cell BK133.out 1).trans rfl
                have hcz45_2 : wc.cell? ⟨gb133, 2, none⟩ = some (.int .u32 ((rd_T200 l0_0 x23_2).f2)) := (blk_cell BK133.out 2).trans rfl
                have hcz45_3 : wc.cell? ⟨gb133, 3, none⟩ = some (.int .u32 ((rd_T200 l0_0 x23_2).f3)) := (blk_cell BK133.out 3).trans rfl
                have hcz45_4 : wc.cell? ⟨gb133, 4, none⟩ = some (.slice A132_4 ((rd_T200 l0_0 x23_2).f4).length c132_4) := (blk_cell BK133.out 4).trans rfl
                have hfz45_0 := blk_frozen BK133.out 0
                have hfz45_1 := blk_frozen BK133.out 1
                have hfz45_2 := blk_frozen BK133.out 2
                have hfz45_3 := blk_frozen BK133.out 3
                have hfz45_4 := blk_frozen BK133.out 4
                go_wp2
                go_meet
                case rel => exact ⟨_, (false), (by first | rfl | (simp; done) | (simp [*]; done)), H', ⟨by have := HJ1.out; have := HK2.out; have := HJ14.out; first | omega | exact Nat.le_refl _⟩, ⟨by (with_reducible repeat (first | apply Kd.R_alloc | apply Kd.R_drewN | apply Kd.R_drew)); exact HO_4.out⟩, ⟨by (with_reducible repeat (first | refine blk_drewN ?_ _ | refine blk_drew ?_ | refine blk_alloc ?_ _)); exact BK123.out⟩, ⟨by (with_reducible repeat (first | refine blk_drewN ?_ _ | refine blk_drew ?_ | refine blk_alloc ?_ _)); exact BK133.out⟩, ⟨by repeat (first | (with_reducible first | exact HB.out | apply below_alloc | apply pw_below_drewN | apply below_drew1 | refine below_set ?_ GE123.out | refine below_set ?_ GE133.out) | exact HB.out)⟩⟩
               ·rw [if_neg c43] at H
                have c43b0 : ((Go.bits .or .u32 ((rd_T200 l0_0 x23_2).f2) ((rd_T200 l0_0 x23_2).f3)) == 0) = false := beq_eq_false_iff_ne.mpr c43
                have c43b1 : ((Go.bits .or .u32 ((rd_T200 l0_0 x23_2).f2) ((rd_T200 l0_0 x23_2).f3)) != 0) = true := bne_iff_ne.mpr c43
                have H' := Aside0.mk H
                clear H
                have hnb46 := NB133_123.out
                have hnc46 := NB123_133.out
                have hcz47_0 : wc.cell? ⟨gb133, 0, none⟩ = some (.int .u8 ((rd_T200 l0_0 x23_2).f0)) := (blk_cell BK133.out 0).trans rfl
                have hcz47_1 : wc.cell? ⟨gb133, 1, none⟩ = some (.int .i32 ((rd_T200 l0_0 x23_2).f1)) := (blk_cell BK133.out 1).trans rfl
                have hcz47_2 : wc.cell? ⟨gb133, 2, none⟩ = some (.int .u32 ((rd_T200 l0_0 x23_2).f2)) := (blk_cell BK133.out 2).trans rfl
                have hcz47_3 : wc.cell? ⟨gb133, 3, none⟩ = some (.int .u32 ((rd_T200 l0_0 x23_2).f3)) := (blk_cell BK133.out 3).trans rfl
                have hcz47_4 : wc.cell? ⟨gb133, 4, none⟩ = some (.slice A132_4 ((rd_T200 l0_0 x23_2).f4).length c132_4) := (blk_cell BK133.out 4).trans rfl
                have hfz47_0 := blk_frozen BK133.out 0
                have hfz47_1 := blk_frozen BK133.out 1
                have hfz47_2 := blk_frozen BK133.out 2
                have hfz47_3 := blk_frozen BK133.out 3
                have hfz47_4 := blk_frozen BK133.out 4
                go_wp2
                go_meet
                case rel => exact ⟨_, ((((rd_T200 l0_0 x23_2).f0) != 3)), (by first | rfl | (simp; done) | (simp [*]; done)), H', ⟨by have := HJ1.out; have := HK2.out; have := HJ14.out; first | omega | exact Nat.le_refl _⟩, ⟨by (with_reducible repeat (first | apply Kd.R_alloc | apply Kd.R_drewN | apply Kd.R_drew)); exact HO_4.out⟩, ⟨by (with_reducible repeat (first | refine blk_drewN ?_ _ | refine blk_drew ?_ | refine blk_alloc ?_ _)); exact BK123.out⟩, ⟨by (with_reducible repeat (first | refine blk_drewN ?_ _ | refine blk_drew ?_ | refine blk_alloc ?_ _)); exact BK133.out⟩, ⟨by repeat (first | (with_reducible first | exact HB.out | apply below_alloc | apply pw_below_drewN | apply below_drew1 | refine below_set ?_ GE123.out | refine below_set ?_ GE133.out) | exact HB.out)⟩⟩
              ·rw [if_neg c42] at H
               have c42b0 : (((rd_T200 l0_0 x23_2).f1) == 0) = false := beq_eq_false_iff_ne.mpr c42
               have c42b1 : (((rd_T200 l0_0 x23_2).f1) != 0) = true := bne_iff_ne.mpr c42
               (first | rw [c42b0] | (simp only [i64_w, i32_w]; rw [c42b0]) | skip)
               by_cases c48 : ((rd_T200 l0_0 x23_2).f0) = 2
               ·rw [if_pos c48] at H
                have c48b0 : (((rd_T200 l0_0 x23_2).f0) == 2) = true := beq_iff_eq.mpr c48
                have c48b1 : (((rd_T200 l0_0 x23_2).f0) != 2) = false := bne_eq_false_iff_eq.mpr c48
                clear c48
                by_cases c49 : (Go.bits .or .u32 ((rd_T200 l0_0 x23_2).f2) ((rd_T200 l0_0 x23_2).f3)) = 0
                ·rw [if_pos c49] at H
                 have c49b0 : ((Go.bits .or .u32 ((rd_T200 l0_0 x23_2).f2) ((rd_T200 l0_0 x23_2).f3)) == 0) = true := beq_iff_eq.mpr c49
                 have c49b1 : ((Go.bits .or .u32 ((rd_T200 l0_0 x23_2).f2) ((rd_T200 l0_0 x23_2).f3)) != 0) = false := bne_eq_false_iff_eq.mpr c49
                 clear c49
                 have H' := Aside0.mk H
                 clear H
                 have hnb50 := NB133_123.out
                 have hnc50 := NB123_133.out
                 have hcz51_0 : wc.cell? ⟨gb133, 0, none⟩ = some (.int .u8 ((rd_T200 l0_0 x23_2).f0)) := (blk_cell BK133.out 0).trans rfl
                 have hcz51_1 : wc.cell? ⟨gb133, 1, none⟩ = some (.int .i32 ((rd_T200 l0_0 x23_2).f1)) := (blk_cell BK133.out 1).trans rfl
                 have hcz51_2 : wc.cell? ⟨gb133, 2, none⟩ = some (.int .u32 ((rd_T200 l0_0 x23_2).f2)) := (blk_cell BK133.out 2).trans rfl
                 have hcz51_3 : wc.cell? ⟨gb133, 3, none⟩ = some (.int .u32 ((rd_T200 l0_0 x23_2).f3)) := (blk_cell BK133.out 3).trans rfl
                 have hcz51_4 : wc.cell? ⟨gb133, 4, none⟩ = some (.slice A132_4 ((rd_T200 l0_0 x23_2).f4).length c132_4) := (blk_cell BK133.out 4).trans rfl
                 have hfz51_0 := blk_frozen BK133.out 0
                 have hfz51_1 := blk_frozen BK133.out 1
                 have hfz51_2 := blk_frozen BK133.out 2
                 have hfz51_3 := blk_frozen BK133.out 3
                 have hfz51_4 := blk_frozen BK133.out 4
                 go_wp2
                 go_meet
                 case rel => exact ⟨_, (false), (by first | rfl | (simp; done) | (simp [*]; done)), H', ⟨by have := HJ1.out; have := HK2.out; have := HJ14.out; first | omega | exact Nat.le_refl _⟩, ⟨by (with_reducible repeat (first | apply Kd.R_alloc | apply Kd.R_drewN | apply Kd.R_drew)); exact HO_4.out⟩, ⟨by (with_reducible repeat (first | refine blk_drewN ?_ _ | refine blk_drew ?_ | refine blk_alloc ?_ _)); exact BK123.out⟩, ⟨by (with_reducible repeat (first | refine blk_drewN ?_ _ | refine blk_drew ?_ | refine blk_alloc ?_ _)); exact BK133.out⟩, ⟨by repeat (first | (with_reducible first | exact HB.out | apply below_alloc | apply pw_below_drewN | apply below_drew1 | refine below_set ?_ GE123.out | refine below_set ?_ GE133.out) | exact HB.out)⟩⟩
                ·rw [if_neg c49] at H
                 have c49b0 : ((Go.bits .or .u32 ((rd_T200 l0_0 x23_2).f2) ((rd_T200 l0_0 x23_2).f3)) == 0) = false := beq_eq_false_iff_ne.mpr c49
                 have c49b1 : ((Go.bits .or .u32 ((rd_T200 l0_0 x23_2).f2) ((rd_T200 l0_0 x23_2).f3)) != 0) = true := bne_iff_ne.mpr c49
                 have H' := Aside0.mk H
                 clear H
                 have hnb52 := NB133_123.out
                 have hnc52 := NB123_133.out
                 have hcz53_0 : wc.cell? ⟨gb133, 0, none⟩ = some (.int .u8 ((rd_T200 l0_0 x23_2).f0)) := (blk_cell BK133.out 0).trans rfl
                 have hcz53_1 : wc.cell? ⟨gb133, 1, none⟩ = some (.int .i32 ((rd_T200 l0_0 x23_2).f1)) := (blk_cell BK133.out 1).trans rfl
                 have hcz53_2 : wc.cell? ⟨gb133, 2, none⟩ = some (.int .u32 ((rd_T200 l0_0 x23_2).f2)) := (blk_cell BK133.out 2).trans rfl
                 have hcz53_3 : wc.cell? ⟨gb133, 3, none⟩ = some (.int .u32 ((rd_T200 l0_0 x23_2).f3)) := (blk_cell BK133.out 3).trans rfl
                 have hcz53_4 : wc.cell? ⟨gb133, 4, none⟩ = some (.slice A132_4 ((rd_T200 l0_0 x23_2).f4).length c132_4) := (blk_cell BK133.out 4).trans rfl
                 have hfz53_0 := blk_frozen BK133.out 0
                 have hfz53_1 := blk_frozen BK133.out 1
                 have hfz53_2 := blk_frozen BK133.out 2
                 have hfz53_3 := blk_frozen BK133.out 3
                 have hfz53_4 := blk_frozen BK133.out 4
                 go_wp2
                 go_meet
                 case rel => exact ⟨_, ((((rd_T200 l0_0 x23_2).f0) != 3)), (by first | rfl | (simp; done) | (simp [*]; done)), H', ⟨by have := HJ1.out; have := HK2.out; have := HJ14.out; first | omega | exact Nat.le_refl _⟩, ⟨by (with_reducible repeat (first | apply Kd.R_alloc | apply Kd.R_drewN | apply Kd.R_drew)); exact HO_4.out⟩, ⟨by (with_reducible repeat (first | refine blk_drewN ?_ _ | refine blk_drew ?_ | refine blk_alloc ?_ _)); exact BK123.out⟩, ⟨by (with_reducible repeat (first | refine blk_drewN ?_ _ | refine blk_drew ?_ | refine blk_alloc ?_ _)); exact BK133.out⟩, ⟨by repeat (first | (with_reducible first | exact HB.out | apply below_alloc | apply pw_below_drewN | apply below_drew1 | refine below_set ?_ GE123.out | refine below_set ?_ GE133.out) | exact HB.out)⟩⟩
               ·rw [if_neg c48] at H
                have c48b0 : (((rd_T200 l0_0 x23_2).f0) == 2) = false := beq_eq_false_iff_ne.mpr c48
                have c48b1 : (((rd_T200 l0_0 x23_2).f0) != 2) = true := bne_iff_ne.mpr c48
                have H' := Aside0.mk H
                clear H
                have hnb54 := NB133_123.out
                have hnc54 := NB123_133.out
                have hcz55_0 : wc.cell? ⟨gb133, 0, none⟩ = some (.int .u8 ((rd_T200 l0_0 x23_2).f0)) := (blk_cell BK133.out 0).trans rfl
                have hcz55_1 : wc.cell? ⟨gb133, 1, none⟩ = some (.int .i32 ((rd_T200 l0_0 x23_2).f1)) := (blk_cell BK133.out 1).trans rfl
                have hcz55_2 : wc.cell? ⟨gb133, 2, none⟩ = some (.int .u32 ((rd_T200 l0_0 x23_2).f2)) := (blk_cell BK133.out 2).trans rfl
                have hcz55_3 : wc.cell? ⟨gb133, 3, none⟩ = some (.int .u32 ((rd_T200 l0_0 x23_2).f3)) := (blk_cell BK133.out 3).trans rfl
                have hcz55_4 : wc.cell? ⟨gb133, 4, none⟩ = some (.slice A132_4 ((rd_T200 l0_0 x23_2).f4).length c132_4) := (blk_cell BK133.out 4).trans rfl
                have hfz55_0 := blk_frozen BK133.out 0
                have hfz55_1 := blk_frozen BK133.out 1
                have hfz55_2 := blk_frozen BK133.out 2
                have hfz55_3 := blk_frozen BK133.out 3
                have hfz55_4 := blk_frozen BK133.out 4
                go_wp2
                go_meet
                case rel => exact ⟨_, (true), (by first | rfl | (simp; done) | (simp [*]; done)), H', ⟨by have := HJ1.out; have := HK2.out; have := HJ14.out; first | omega | exact Nat.le_refl _⟩, ⟨by (with_reducible repeat (first | apply Kd.R_alloc | apply Kd.R_drewN | apply Kd.R_drew)); exact HO_4.out⟩, ⟨by (with_reducible repeat (first | refine blk_drewN ?_ _ | refine blk_drew ?_ | refine blk_alloc ?_ _)); exact BK123.out⟩, ⟨by (with_reducible repeat (first | refine blk_drewN ?_ _ | refine blk_drew ?_ | refine blk_alloc ?_ _)); exact BK133.out⟩, ⟨by repeat (first | (with_reducible first | exact HB.out | apply below_alloc | apply pw_below_drewN | apply below_drew1 | refine below_set ?_ GE123.out | refine below_set ?_ GE133.out) | exact HB.out)⟩⟩
             case rest =>
              clear HC41
              try clear c1
              try clear p1
              try clear q1
              try clear hx1
              try clear c2
              try clear p2
              try clear c3
              try clear c4
              try clear c5
              try clear c5b0
              try clear c5b1
              try clear c6
              try clear c7
              try clear c7b0
              try clear c7b1
              try clear c8
              try clear c8b0
              try clear c8b1
              try clear c11
              try clear c12
              try clear c12b0
              try clear c13
              try clear c13b0
              try clear p13
              try clear q13
              try clear hx13
              try clear c14
              try clear c14b0
              try clear c17
              try clear c20
              try clear c20b0
              try clear c20b1
              try clear c21
              try clear c23
              try clear c23b0
              try clear c23b1
              try clear c24
              try clear c25
              try clear c25b0
              try clear c25b1
              try clear c26
              try clear c28
              try clear c31
              try clear c31b0
              try clear c31b1
              try clear c32
              try clear c32b0
              try clear c32b1
              try clear c33
              try clear c33b0
              try clear c33b1
              try clear c34
              try clear c34b0
              try clear c34b1
              try clear c35
              try clear c36
              try clear c36b0
              try clear c36b1
              try clear c36b2
              try clear c37
              try clear c39
              try clear c42
              try clear c42b0
              try clear c42b1
              try clear c43
              try clear c43b0
              try clear c43b1
              try clear c44
              try clear c46
              try clear c48
              try clear c48b0
              try clear c48b1
              try clear c49
              try clear c49b0
              try clear c49b1
              try clear c50
              try clear c52
              try clear c54
              try clear hcz11_0
              try clear hcz18_0
              try clear hcz18_1
              try clear hcz18_2
              try clear hcz18_3
              try clear hcz18_4
              try clear hcz27_0
              try clear hcz27_1
              try clear hcz27_2
              try clear hcz27_3
              try clear hcz27_4
              try clear hcz29_0
              try clear hcz29_1
              try clear hcz29_2
              try clear hcz29_3
              try clear hcz29_4
              try clear hcz38_0
              try clear hcz38_1
              try clear hcz38_2
              try clear hcz38_3
              try clear hcz38_4
              try clear hcz40_0
              try clear hcz40_1
              try clear hcz40_2
              try clear hcz40_3
              try clear hcz40_4
              try clear hcz45_0
              try clear hcz45_1
              try clear hcz45_2
              try clear hcz45_3
              try clear hcz45_4
              try clear hcz47_0
              try clear hcz47_1
              try clear hcz47_2
              try clear hcz47_3
              try clear hcz47_4
              try clear hcz4_0
              try clear hcz51_0
              try clear hcz51_1
              try clear hcz51_2
              try clear hcz51_3
              try clear hcz51_4
              try clear hcz53_0
              try clear hcz53_1
              try clear hcz53_2
              try clear hcz53_3
              try clear hcz53_4
              try clear hcz55_0
              try clear hcz55_1
              try clear hcz55_2
              try clear hcz55_3
              try clear hcz55_4
              try clear hfz11_0
              try clear hfz18_0
              try clear hfz18_1
              try clear hfz18_2
              try clear hfz18_3
              try clear hfz18_4
              try clear hfz27_0
              try clear hfz27_1
              try clear hfz27_2
              try clear hfz27_3
              try clear hfz27_4
              try clear hfz29_0
              try clear hfz29_1
              try clear hfz29_2
              try clear hfz29_3
              try clear hfz29_4
              try clear hfz38_0
              try clear hfz38_1
              try clear hfz38_2
              try clear hfz38_3
              try clear hfz38_4
              try clear hfz40_0
              try clear hfz40_1
              try clear hfz40_2
              try clear hfz40_3
              try clear hfz40_4
              try clear hfz45_0
              try clear hfz45_1
              try clear hfz45_2
              try clear hfz45_3
              try clear hfz45_4
              try clear hfz47_0
              try clear hfz47_1
              try clear hfz47_2
              try clear hfz47_3
              try clear hfz47_4
              try clear hfz4_0
              try clear hfz51_0
              try clear hfz51_1
              try clear hfz51_2
              try clear hfz51_3
              try clear hfz51_4
              try clear hfz53_0
              try clear hfz53_1
              try clear hfz53_2
              try clear hfz53_3
              try clear hfz53_4
              try clear hfz55_0
              try clear hfz55_1
              try clear hfz55_2
              try clear hfz55_3
              try clear hfz55_4
              try clear hx132_0
              try clear hx132_1
              try clear hx132_2
              try clear hx132_3
              try clear hx132_4
              try clear p1
              try clear p13
              try clear p132
              try clear p2
              try clear q1
              try clear q13
              try clear q132
              obtain ⟨kq, x70_40, rfl, HA, HJ40, HO_4, BK123, BK133, HB⟩ := hcut
              cases kq with
              | zero => exact absurd HA.out (by simp [pattern_tree.j6])
              | succ kj40 =>
               have H := HA.out
               clear HA
               simp only [pattern_tree.j6] at H
               by_cases c56 : x70_40 = true
               ·subst c56
                have H1 : (some false) = some r := by rw [if_pos rfl] at H; exact H
                clear H
                have H := H1
                clear H1
                obtain rfl := Option.some.inj H
                go_wp2
                go_ret
                exact ⟨by first | rfl | (simp [errW_none, errW_some] <;> rfl) | (simp [*, errW_none, errW_some] <;> rfl), by repeat (first | (with_reducible first | exact HB.out | apply below_alloc | apply pw_below_drewN | apply below_drew1 | refine below_set ?_ GE123.out | refine below_set ?_ GE133.out) | exact HB.out)⟩
               ·replace c56 := Bool.eq_false_iff.mpr c56
                subst c56
                have H1 : (pattern_tree.l1 kj40 (l0_0.length : Int) x4_2 x23_2 l0_0 (l0_0.length : Int) x23_2 ((rd_T200 l0_0 x23_2).f4) (((rd_T200 l0_0 x23_2).f4).length : Int) 0) = some r := by rw [if_neg (show ¬ (false = true) by decide)] at H; exact H
                clear H
                have H := H1
                clear H1
                have H' := Aside0.mk H
                clear H
                have hnb57 := NB133_123.out
                have hnc57 := NB123_133.out
                have hcz58_0 : wc.cell? ⟨gb133, 0, none⟩ = some (.int .u8 ((rd_T200 l0_0 x23_2).f0)) := (blk_cell BK133.out 0).trans rfl
                have hcz58_1 : wc.cell? ⟨gb133, 1, none⟩ = some (.int .i32 ((rd_T200 l0_0 x23_2).f1)) := (blk_cell BK133.out 1).trans rfl
                have hcz58_2 : wc.cell? ⟨gb133, 2, none⟩ = some (.int .u32 ((rd_T200 l0_0 x23_2).f2)) := (blk_cell BK133.out 2).trans rfl
                have hcz58_3 : wc.cell? ⟨gb133, 3, none⟩ = some (.int .u32 ((rd_T200 l0_0 x23_2).f3)) := (blk_cell BK133.out 3).trans rfl
                have hcz58_4 : wc.cell? ⟨gb133, 4, none⟩ = some (.slice A132_4 ((rd_T200 l0_0 x23_2).f4).length c132_4) := (blk_cell BK133.out 4).trans rfl
                have hfz58_0 := blk_frozen BK133.out 0
                have hfz58_1 := blk_frozen BK133.out 1
                have hfz58_2 := blk_frozen BK133.out 2
                have hfz58_3 := blk_frozen BK133.out 3
                have hfz58_4 := blk_frozen BK133.out 4
                go_wp2
                go_loopg [74] kj40 (fun kq v74 w' => ∃ (x4_5 : List Bool) (x74_5 : Int), v74 = .int .i64 x74_5 ∧ Aside0 (pattern_tree.l1 kq (l0_0.length : Int) x4_5 x23_2 l0_0 (l0_0.length : Int) x23_2 ((rd_T200 l0_0 x23_2).f4) (((rd_T200 l0_0 x23_2).f4).length : Int) x74_5 = some r) ∧ Aside0 (kq ≤ kj40) ∧ Aside0 (Kd.R Kd.bool 4 w' w.heap.size (fun _ => True) v125 x4_5) ∧ Aside0 (w'.heap[gb123]? = some (.cells #[(.slice (some ad132) l0_0.length c0_0)] 150 (0, 0))) ∧ Aside0 (w'.heap[gb133]? = some (.cells #[.int .u8 ((rd_T200 l0_0 x23_2).f0), .int .i32 ((rd_T200 l0_0 x23_2).f1), .int .u32 ((rd_T200 l0_0 x23_2).f2), .int .u32 ((rd_T200 l0_0 x23_2).f3), (.slice A132_4 ((rd_T200 l0_0 x23_2).f4).length c132_4)] 200 (0, 0))) ∧ Aside0 (Below w.heap.size w w'))
                case atStart => exact ⟨(x4_2), (0), (by first | rfl | (simp; done) | (simp [*]; done)), H', ⟨Nat.le_refl _⟩, ⟨by (with_reducible repeat (first | apply Kd.R_alloc | apply Kd.R_drewN | apply Kd.R_drew)); exact HO_4.out⟩, ⟨by (with_reducible repeat (first | refine blk_drewN ?_ _ | refine blk_drew ?_ | refine blk_alloc ?_ _)); exact BK123.out⟩, ⟨by (with_reducible repeat (first | refine blk_drewN ?_ _ | refine blk_drew ?_ | refine blk_alloc ?_ _)); exact BK133.out⟩, ⟨by repeat (first | (with_reducible first | exact HB.out | apply below_alloc | apply pw_below_drewN | apply below_drew1 | refine below_set ?_ GE123.out | refine below_set ?_ GE133.out) | exact HB.out)⟩⟩
                case round =>
                 clear H'
                 try clear c1
                 try clear p1
                 try clear q1
                 try clear hx1
                 try clear c2
                 try clear p2
                 try clear c3
                 try clear c4
                 try clear c5
                 try clear c5b0
                 try clear c5b1
                 try clear c6
                 try clear c7
                 try clear c7b0
                 try clear c7b1
                 try clear c8
                 try clear c8b0
                 try clear c8b1
                 try clear c11
                 try clear c12
                 try clear c12b0
                 try clear c13
                 try clear c13b0
                 try clear p13
                 try clear q13
                 try clear hx13
                 try clear c14
                 try clear c14b0
                 try clear c17
                 try clear c20
                 try clear c20b0
                 try clear c20b1
                 try clear c21
                 try clear c23
                 try clear c23b0
                 try clear c23b1
                 try clear c24
                 try clear c25
                 try clear c25b0
                 try clear c25b1
                 try clear c26
                 try clear c28
                 try clear c31
                 try clear c31b0
                 try clear c31b1
                 try clear c32
                 try clear c32b0
                 try clear c32b1
                 try clear c33
                 try clear c33b0
                 try clear c33b1
                 try clear c34
                 try clear c34b0
                 try clear c34b1
                 try clear c35
                 try clear c36
                 try clear c36b0
                 try clear c36b1
                 try clear c36b2
                 try clear c37
                 try clear c39
                 try clear c42
                 try clear c42b0
                 try clear c42b1
                 try clear c43
                 try clear c43b0
                 try clear c43b1
                 try clear c44
                 try clear c46
                 try clear c48
                 try clear c48b0
                 try clear c48b1
                 try clear c49
                 try clear c49b0
                 try clear c49b1
                 try clear c50
                 try clear c52
                 try clear c54
                 try clear c56
                 try clear c57
                 try clear hcz11_0
                 try clear hcz18_0
                 try clear hcz18_1
                 try clear hcz18_2
                 try clear hcz18_3
                 try clear hcz18_4
                 try clear hcz27_0
                 try clear hcz27_1
                 try clear hcz27_2
                 try clear hcz27_3
                 try clear hcz27_4
                 try clear hcz29_0
                 try clear hcz29_1
                 try clear hcz29_2
                 try clear hcz29_3
                 try clear hcz29_4
                 try clear hcz38_0
                 try clear hcz38_1
                 try clear hcz38_2
                 try clear hcz38_3
                 try clear hcz38_4
                 try clear hcz40_0
                 try clear hcz40_1
                 try clear hcz40_2
                 try clear hcz40_3
                 try clear hcz40_4
                 try clear hcz45_0
                 try clear hcz45_1
                 try clear hcz45_2
                 try clear hcz45_3
                 try clear hcz45_4
                 try clear hcz47_0
                 try clear hcz47_1
                 try clear hcz47_2
                 try clear hcz47_3
                 try clear hcz47_4
                 try clear hcz4_0
                 try clear hcz51_0
                 try clear hcz51_1
                 try clear hcz51_2
                 try clear hcz51_3
                 try clear hcz51_4
                 try clear hcz53_0
                 try clear hcz53_1
                 try clear hcz53_2
                 try clear hcz53_3
                 try clear hcz53_4
                 try clear hcz55_0
                 try clear hcz55_1
                 try clear hcz55_2
                 try clear hcz55_3
                 try clear hcz55_4
                 try clear hcz58_0
                 try clear hcz58_1
                 try clear hcz58_2
                 try clear hcz58_3
                 try clear hcz58_4
                 try clear hfz11_0
                 try clear hfz18_0
                 try clear hfz18_1
                 try clear hfz18_2
                 try clear hfz18_3
                 try clear hfz18_4
                 try clear hfz27_0
                 try clear hfz27_1
                 try clear hfz27_2
                 try clear hfz27_3
                 try clear hfz27_4
                 try clear hfz29_0
                 try clear hfz29_1
                 try clear hfz29_2
                 try clear hfz29_3
                 try clear hfz29_4
                 try clear hfz38_0
                 try clear hfz38_1
                 try clear hfz38_2
                 try clear hfz38_3
                 try clear hfz38_4
                 try clear hfz40_0
                 try clear hfz40_1
                 try clear hfz40_2
                 try clear hfz40_3
                 try clear hfz40_4
                 try clear hfz45_0
                 try clear hfz45_1
                 try clear hfz45_2
                 try clear hfz45_3
                 try clear hfz45_4
                 try clear hfz47_0
                 try clear hfz47_1
                 try clear hfz47_2
                 try clear hfz47_3
                 try clear hfz47_4
                 try clear hfz4_0
                 try clear hfz51_0
                 try clear hfz51_1
                 try clear hfz51_2
                 try clear hfz51_3
                 try clear hfz51_4
                 try clear hfz53_0
                 try clear hfz53_1
                 try clear hfz53_2
                 try clear hfz53_3
                 try clear hfz53_4
                 try clear hfz55_0
                 try clear hfz55_1
                 try clear hfz55_2
                 try clear hfz55_3
                 try clear hfz55_4
                 try clear hfz58_0
                 try clear hfz58_1
                 try clear hfz58_2
                 try clear hfz58_3
                 try clear hfz58_4
                 try clear hx132_0
                 try clear hx132_1
                 try clear hx132_2
                 try clear hx132_3
                 try clear hx132_4
                 try clear p1
                 try clear p13
                 try clear p132
                 try clear p2
                 try clear q1
                 try clear q13
                 try clear q132
                 obtain ⟨x4_5, x74_5, rfl, HA, HK5, HO_4, BK123, BK133, HB⟩ := hrel
                 cases gk with
                 | zero => exact absurd HA.out (by simp [pattern_tree.l1])
                 | succ k5 =>
                  have H := HA.out
                  clear HA
                  simp only [pattern_tree.l1] at H
                  by_cases c59 : x74_5 < (((rd_T200 l0_0 x23_2).f4).length : Int)
                  ·rw [if_pos c59] at H
                   have c59b0 : decide (x74_5 < (((rd_T200 l0_0 x23_2).f4).length : Int)) = true := decide_eq_true c59
                   clear c59
                   by_cases c60 : 0 ≤ x74_5
                   ·rw [if_pos c60] at H
                    have c60b0 : decide (0 ≤ x74_5) = true := decide_eq_true c60
                    clear c60
                    by_cases c61 : x74_5 < (((rd_T200 l0_0 x23_2).f4).length : Int)
                    ·rw [if_pos c61] at H
                     have c61b0 : decide (x74_5 < (((rd_T200 l0_0 x23_2).f4).length : Int)) = true := decide_eq_true c61
                     clear c61
                     by_cases c62 : (rd ((rd_T200 l0_0 x23_2).f4) x74_5) ≤ x23_2
                     ·rw [if_pos c62] at H
                      have c62b0 : decide ((rd ((rd_T200 l0_0 x23_2).f4) x74_5) ≤ x23_2) = true := decide_eq_true c62
                      clear c62
                      obtain rfl := Option.some.inj H
                      have p134 : 0 ≤ (x74_5 : Int) := of_decide_eq_true (by first | (with_reducible assumption) | assumption)
                      have q134 : x74_5 < (((rd_T200 l0_0 x23_2).f4).length : Int) := of_decide_eq_true (by first | (with_reducible assumption) | assumption)
                      obtain ⟨ad134, e134, hx134_0⟩ := Kd.at_int HR132_4.out x74_5 p134 q134
                      cases e134
                      replace hx134_0 := (HB.out.cell (World.block_lt_of_cell? w _ hx134_0)).trans hx134_0
                      replace p134 := eq_true p134
                      replace q134 := eq_true q134
                      go_wp2
                      go_ret
                      exact ⟨by first | rfl | (simp [errW_none, errW_some] <;> rfl) | (simp [*, errW_none, errW_some] <;> rfl), by repeat (first | (with_reducible first | exact HB.out | apply below_alloc | apply pw_below_drewN | apply below_drew1 | refine below_set ?_ GE123.out | refine below_set ?_ GE133.out) | exact HB.out)⟩
                     ·rw [if_neg c62] at H
                      have c62b0 : decide ((rd ((rd_T200 l0_0 x23_2).f4) x74_5) ≤ x23_2) = false := decide_eq_false c62
                      clear c62
                      by_cases c63 : (rd ((rd_T200 l0_0 x23_2).f4) x74_5) ≥ (l0_0.length : Int)
                      ·rw [if_pos c63] at H
                       have c63b0 : decide ((l0_0.length : Int) ≤ (rd ((rd_T200 l0_0 x23_2).f4) x74_5)) = true := decide_eq_true c63
                       clear c63
                       obtain rfl := Option.some.inj H
                       have p134 : 0 ≤ (x74_5 : Int) := of_decide_eq_true (by first | (with_reducible assumption) | assumption)
                       have q134 : x74_5 < (((rd_T200 l0_0 x23_2).f4).length : Int) := of_decide_eq_true (by first | (with_reducible assumption) | assumption)
                       obtain ⟨ad134, e134, hx134_0⟩ := Kd.at_int HR132_4.out x74_5 p134 q134
                       cases e134
                       replace hx134_0 := (HB.out.cell (World.block_lt_of_cell? w _ hx134_0)).trans hx134_0
                       replace p134 := eq_true p134
                       replace q134 := eq_true q134
                       go_wp2
                       go_ret
                       exact ⟨by first | rfl | (simp [errW_none, errW_some] <;> rfl) | (simp [*, errW_none, errW_some] <;> rfl), by repeat (first | (with_reducible first | exact HB.out | apply below_alloc | apply pw_below_drewN | apply below_drew1 | refine below_set ?_ GE123.out | refine below_set ?_ GE133.out) | exact HB.out)⟩
                      ·rw [if_neg c63] at H
                       have c63b0 : decide ((l0_0.length : Int) ≤ (rd ((rd_T200 l0_0 x23_2).f4) x74_5)) = false := decide_eq_false c63
                       clear c63
                       by_cases c64 : 0 ≤ (rd ((rd_T200 l0_0 x23_2).f4) x74_5)
                       ·rw [if_pos c64] at H
                        have c64b0 : decide (0 ≤ (rd ((rd_T200 l0_0 x23_2).f4) x74_5)) = true := decide_eq_true c64
                        clear c64
                        by_cases c65 : (rd ((rd_T200 l0_0 x23_2).f4) x74_5) < (x4_5.length : Int)
                        ·rw [if_pos c65] at H
                         have c65b0 : decide ((rd ((rd_T200 l0_0 x23_2).f4) x74_5) < (x4_5.length : Int)) = true := decide_eq_true c65
                         clear c65
                         obtain ⟨bq66, hbq66⟩ : ∃ b_ : Bool, b_ = (rdOf false x4_5 (rd ((rd_T200 l0_0 x23_2).f4) x74_5)) := ⟨_, rfl⟩
                         replace H : (if bq66 = true then (some false) else (pattern_tree.l1 k5 (l0_0.length : Int) (x4_5.set ((rd ((rd_T200 l0_0 x23_2).f4) x74_5) : Int).toNat true) x23_2 l0_0 (l0_0.length : Int) x23_2 ((rd_T200 l0_0 x23_2).f4) (((rd_T200 l0_0 x23_2).f4).length : Int) (wrap64 (x74_5 + 1)))) = some r := by rw [← hbq66] at H; exact H
                         have Nbq66 := Aside0.mk hbq66
                         clear hbq66
                         by_cases c67 : bq66 = true
                         ·subst c67
                          have H1 : (some false) = some r := by rw [if_pos rfl] at H; exact H
                          clear H
                          have H := H1
                          clear H1
                          obtain rfl := Option.some.inj H
                          have p134 : 0 ≤ (x74_5 : Int) := of_decide_eq_true (by first | (with_reducible assumption) | assumption)
                          have q134 : x74_5 < (((rd_T200 l0_0 x23_2).f4).length : Int) := of_decide_eq_true (by first | (with_reducible assumption) | assumption)
                          obtain ⟨ad134, e134, hx134_0⟩ := Kd.at_int HR132_4.out x74_5 p134 q134
                          cases e134
                          replace hx134_0 := (HB.out.cell (World.block_lt_of_cell? w _ hx134_0)).trans hx134_0
                          replace p134 := eq_true p134
                          replace q134 := eq_true q134
                          obtain ⟨Ao68, co68, eo68⟩ := Kd.R_slice HO_4.out
                          subst eo68
                          have p135 : 0 ≤ ((rd ((rd_T200 l0_0 x23_2).f4) x74_5) : Int) := of_decide_eq_true (by first | (with_reducible assumption) | assumption)
                          have q135 : (rd ((rd_T200 l0_0 x23_2).f4) x74_5) < (x4_5.length : Int) := of_decide_eq_true (by first | (with_reducible assumption) | assumption)
                          obtain ⟨ad135, e135, hx135_0⟩ := Kd.at_bool (Kd.R_reads' HO_4.out).2.2 (rd ((rd_T200 l0_0 x23_2).f4) x74_5) p135 q135
                          (try rw [← Nbq66.out] at hx135_0)
                          cases e135
                          replace p135 := eq_true p135
                          replace q135 := eq_true q135
                          go_wp2
                          go_ret
                          exact ⟨by first | rfl | (simp [errW_none, errW_some] <;> rfl) | (simp [*, errW_none, errW_some] <;> rfl), by repeat (first | (with_reducible first | exact HB.out | apply below_alloc | apply pw_below_drewN | apply below_drew1 | refine below_set ?_ GE123.out | refine below_set ?_ GE133.out) | exact HB.out)⟩
                         ·replace c67 := Bool.eq_false_iff.mpr c67
                          subst c67
                          have H1 : (pattern_tree.l1 k5 (l0_0.length : Int) (x4_5.set ((rd ((rd_T200 l0_0 x23_2).f4) x74_5) : Int).toNat true) x23_2 l0_0 (l0_0.length : Int) x23_2 ((rd_T200 l0_0 x23_2).f4) (((rd_T200 l0_0 x23_2).f4).length : Int) (wrap64 (x74_5 + 1))) = some r := by rw [if_neg (show ¬ (false = true) by decide)] at H; exact H
                          clear H
                          have H := H1
                          clear H1
                          obtain ⟨y136, hy136⟩ : ∃ y_ : List Bool, y_ = (x4_5.set ((rd ((rd_T200 l0_0 x23_2).f4) x74_5) : Int).toNat true) := ⟨_, rfl⟩
                          replace H : (pattern_tree.l1 k5 (l0_0.length : Int) y136 x23_2 l0_0 (l0_0.length : Int) x23_2 ((rd_T200 l0_0 x23_2).f4) (((rd_T200 l0_0 x23_2).f4).length : Int) (wrap64 (x74_5 + 1))) = some r := by first | (rw [hy136]; with_reducible exact H) | (have H2_ := (Option.bind_some _ _).symm.trans H; rw [hy136]; with_reducible exact H2_) | (have H2_ := (Option.bind_some _ _).symm.trans H; with_reducible exact H2_) | with_reducible exact H | (rw [hy136]; exact H) | exact H
                          have Ny136 := Aside0.mk hy136
                          clear hy136
                          have H' := Aside0.mk H
                          clear H
                          have p134 : 0 ≤ (x74_5 : Int) := of_decide_eq_true (by first | (with_reducible assumption) | assumption)
                          have q134 : x74_5 < (((rd_T200 l0_0 x23_2).f4).length : Int) := of_decide_eq_true (by first | (with_reducible assumption) | assumption)
                          obtain ⟨ad134, e134, hx134_0⟩ := Kd.at_int HR132_4.out x74_5 p134 q134
                          cases e134
                          replace hx134_0 := (HB.out.cell (World.block_lt_of_cell? w _ hx134_0)).trans hx134_0
                          replace p134 := eq_true p134
                          replace q134 := eq_true q134
                          obtain ⟨Ao70, co70, eo70⟩ := Kd.R_slice HO_4.out
                          subst eo70
                          have p135 : 0 ≤ ((rd ((rd_T200 l0_0 x23_2).f4) x74_5) : Int) := of_decide_eq_true (by first | (with_reducible assumption) | assumption)
                          have q135 : (rd ((rd_T200 l0_0 x23_2).f4) x74_5) < (x4_5.length : Int) := of_decide_eq_true (by first | (with_reducible assumption) | assumption)
                          obtain ⟨ad135, e135, hx135_0⟩ := Kd.at_bool (Kd.R_reads' HO_4.out).2.2 (rd ((rd_T200 l0_0 x23_2).f4) x74_5) p135 q135
                          (try rw [← Nbq66.out] at hx135_0)
                          cases e135
                          replace p135 := eq_true p135
                          replace q135 := eq_true q135
                          have p69 : 0 ≤ ((rd ((rd_T200 l0_0 x23_2).f4) x74_5) : Int) := of_decide_eq_true (by first | (with_reducible assumption) | assumption)
                          have q69 : ((rd ((rd_T200 l0_0 x23_2).f4) x74_5) : Int) < ((x4_5.length : Int) : Int) := of_decide_eq_true (by first | (with_reducible assumption) | assumption)
                          obtain ⟨go69, co69, eo69, gb69, gl69, cl69, HG69⟩ := Kd.R_form HO_4.out (by omega)
                          (first | cases eo69 | (injection eo69 with ea_ en_ ec_; (first | subst ea_ | (injection ea_ with ea_; subst ea_)); subst ec_; clear en_))
                          have GB69 := Aside0.mk gb69
                          have GG69 := Aside0.mk HG69
                          clear gb69 gl69 HG69
                          (first | simp only [add_plain] at hx135_0 | skip)
                          obtain ⟨hx69_0, hf69_0⟩ := Kd.R_celln false HO_4.out ((rd ((rd_T200 l0_0 x23_2).f4) x74_5) : Int) p69 q69
                          replace p69 := eq_true p69
                          replace q69 := eq_true q69
                          have HP71 := Kd.R_putg HO_4.out ((rd ((rd_T200 l0_0 x23_2).f4) x74_5) : Int) true
                          go_wp2_with (first | ((with_reducible refine gate_store (t := 4) (p := 94) rfl ?_); refine store_event (t := 4) (p := 94) (v := ?vo_w72) (w1 := (wr.setCell ⟨go69, ((rd ((rd_T200 l0_0 x23_2).f4) x74_5) : Int).toNat, none⟩ (.bool true))) ?hg ?ho ?hn ?hr ?_; (case ho => rfl); (case hg => rfl); (case hn => rfl); (case hr => first | (go_simp; done) | (go_simp; rfl)); intro w72 hw; have hg : wr.grownBy w72 (some go69) := (by rw [hw]; exact HP71.2); have hp_ : Kd.R Kd.bool 4 w72 w.heap.size (fun _ => True) (.slice (some ⟨go69, 0, none⟩) x4_5.length co70) y136 := (by rw [hw, Ny136.out]; exact HP71.1); clear HP71; have n0_ := Aside0.mk (hp_); have n1_ := Aside0.mk (blk_grown (g := gb123) (o := .cells #[.slice (some ad132) l0_0.length c0_0] 150 (0, 0)) (by (with_reducible repeat (first | refine blk_drewN ?_ _ | refine blk_drew ?_ | refine blk_alloc ?_ _)); exact BK123.out) hg (Kd.R_ne HO_4.out BK123.out (by decide))); have n2_ := Aside0.mk (blk_grown (g := gb133) (o := .cells #[.int .u8 ((rd_T200 l0_0 x23_2).f0), .int .i32 ((rd_T200 l0_0 x23_2).f1), .int .u32 ((rd_T200 l0_0 x23_2).f2), .int .u32 ((rd_T200 l0_0 x23_2).f3), .slice (some ad134) ((rd_T200 l0_0 x23_2).f4).length c132_4] 200 (0, 0)) (by (with_reducible repeat (first | refine blk_drewN ?_ _ | refine blk_drew ?_ | refine blk_alloc ?_ _)); exact BK133.out) hg (Kd.R_ne HO_4.out BK133.out (by decide))); have n3_ := Aside0.mk ((by rw [hw]; exact below_set (HB.out) GB69.out : Below w.heap.size w w72)); clear HO_4; clear BK123; clear BK133; clear HB; have HO_4 := n0_; have BK123 := n1_; have BK133 := n2_; have HB := n3_; clear n0_ n1_ n2_ n3_; clear hg hw hp_))
                          go_roundg k5
                          case measure => have := HJ1.out; have := HK2.out; have := HJ14.out; have := HJ40.out; have := HK5.out; omega
                          case rel => exact ⟨(y136), (wrap64 (x74_5 + 1)), (by first | rfl | (simp; done) | (simp [*]; done)), H', ⟨by have := HJ1.out; have := HK2.out; have := HJ14.out; have := HJ40.out; have := HK5.out; omega⟩, ⟨by (with_reducible repeat (first | apply Kd.R_alloc | apply Kd.R_drewN | apply Kd.R_drew)); exact HO_4.out⟩, ⟨by (with_reducible repeat (first | refine blk_drewN ?_ _ | refine blk_drew ?_ | refine blk_alloc ?_ _)); exact BK123.out⟩, ⟨by (with_reducible repeat (first | refine blk_drewN ?_ _ | refine blk_drew ?_ | refine blk_alloc ?_ _)); exact BK133.out⟩, ⟨by repeat (first | (with_reducible first | exact HB.out | apply below_alloc | apply pw_below_drewN | apply below_drew1 | refine below_set ?_ GE123.out | refine below_set ?_ GE133.out) | exact HB.out)⟩⟩
                        ·rw [if_neg c65] at H
                         exact absurd H (by simp)
                       ·rw [if_neg c64] at H
                        exact absurd H (by simp)
                    ·rw [if_neg c61] at H
                     exact absurd H (by simp)
                   ·rw [if_neg c60] at H
                    exact absurd H (by simp)
                  ·rw [if_neg c59] at H
                   have c59b0 : decide (x74_5 < (((rd_T200 l0_0 x23_2).f4).length : Int)) = false := decide_eq_false c59
                   clear c59
                   have H' := Aside0.mk H
                   clear H
                   go_wp2
                   go_roundg k5
                   case measure => have := HJ1.out; have := HK2.out; have := HJ14.out; have := HJ40.out; have := HK5.out; omega
                   case rel => exact ⟨(x4_5), (wrap64 (x23_2 + 1)), (by first | rfl | (simp; done) | (simp [*]; done)), H', ⟨by have := HJ1.out; have := HK2.out; have := HJ14.out; have := HJ40.out; have := HK5.out; omega⟩, ⟨by (with_reducible repeat (first | apply Kd.R_alloc | apply Kd.R_drewN | apply Kd.R_drew)); exact HO_4.out⟩, ⟨by (with_reducible repeat (first | refine blk_drewN ?_ _ | refine blk_drew ?_ | refine blk_alloc ?_ _)); exact BK123.out⟩, ⟨by repeat (first | (with_reducible first | exact HB.out | apply below_alloc | apply pw_below_drewN | apply below_drew1 | refine below_set ?_ GE123.out | refine below_set ?_ GE133.out) | exact HB.out)⟩⟩
          ·rw [if_neg c14] at H
           exact absurd H (by simp)
         ·rw [if_neg c13] at H
          exact absurd H (by simp)
        ·rw [if_neg c12] at H
         have c12b0 : decide (x23_2 < (l0_0.length : Int)) = false := decide_eq_false c12
         clear c12
         by_cases c73 : 1 ≤ (x4_2.length : Int)
         ·rw [if_pos c73] at H
          have c73b0 := eq_true c73
          have c73b1 : decide (1 ≤ (x4_2.length : Int)) = true := decide_eq_true c73
          clear c73
          obtain ⟨y127, hy127⟩ : ∃ y_ : List Bool, y_ = (x4_2.drop 1) := ⟨_, rfl⟩
          replace H : ((slices_Contains_bool_bool.f k2 y127 false).bind fun t131 => (some (!t131))) = some r := by first | (rw [hy127]; with_reducible exact H) | (have H2_ := (Option.bind_some _ _).symm.trans H; rw [hy127]; with_reducible exact H2_) | (have H2_ := (Option.bind_some _ _).symm.trans H; with_reducible exact H2_) | with_reducible exact H | (rw [hy127]; exact H) | exact H
          have Ny127 := Aside0.mk hy127
          clear hy127
          replace H := Option.bind_eq_some_iff.mp H
          obtain ⟨t131, A740, H⟩ := H
          replace H : (some (!t131)) = some r := H
          have A74 := Aside0.mk A740
          clear A740
          obtain rfl := Option.some.inj H
          obtain ⟨Ao76, co76, eo76⟩ := Kd.R_slice HO_4.out
          subst eo76
          have q75 : (1 : Int) ≤ ((x4_2.length : Int) : Int) := of_decide_eq_true (by first | (with_reducible assumption) | assumption)
          obtain ⟨i075, hi075, _, hsz75, _⟩ := info_parts info4
          have hroom75 : x4_2.length ≤ co76 := (Kd.R_reads' HO_4.out).2.1
          have hC75 : Kd.C Kd.bool _ Ao76 x4_2.length x4_2 := (Kd.R_reads' HO_4.out).2.2
          have hcut75 := cut_from (P := Tryd.prog) 214 4 .i64 Tryd.underlying214 hi075 1 hsz75 Ao76 x4_2.length co76 1 (by omega) q75
          have hr75 := Kd.C_drop (m := (1 : Int).toNat) (c := co76) hC75 (by omega) hroom75
          obtain ⟨A75, hA75⟩ : ∃ A1, A1 = (if co76 = (1 : Int).toNat then Ao76 else (Ao76 : Option Addr).map (·.add ((1 : Int).toNat * 1))) := ⟨_, rfl⟩
          obtain ⟨c75, hc75⟩ : ∃ c1, c1 = co76 - (1 : Int).toNat := ⟨_, rfl⟩
          have hy75 : y127.length = x4_2.length - (1 : Int).toNat := (by rw [Ny127.out, List.length_drop] <;> omega)
          rw [show (x4_2).drop (1 : Int).toNat = y127 from Ny127.out.symm] at hr75
          replace hr75 : Kd.C Kd.bool _ A75 y127.length y127 := (by rw [hA75]; exact hr75)
          rw [← hy75, ← hA75, ← hc75] at hcut75
          have HR130 := Aside0.mk hr75
          have HC130 := Aside0.mk (show y127.length ≤ c75 from by rw [hy75, hc75]; exact Nat.sub_le_sub_right hroom75 _)
          clear hr75 hC75 hroom75 hi075 hsz75 hc75
          have KY75 := Aside0.mk hy75
          have KA75 := Aside0.mk hA75
          clear hy75 hA75
          have KL75 := Aside0.mk (show 1 ≤ x4_2.length from by omega)
          replace q75 := eq_true q75
          go_wp2_with (first | ((with_reducible refine gate_callee (f := 123) rfl ?_); refine goesL_ (some 99) rfl rfl Tryd.func123 (by kernel_rfl) rfl #[.slice A75 y127.length c75, .bool false] rfl (by (try simp only [List.map_toArray, List.map_cons, List.map_nil]); first | done | rfl | (simp only [List.length_drop, List.length_take]; rfl)) ?_; (with_reducible refine (slices_Contains_bool_bool.calls k2 _ _ y127 false t131 _ ?side1 ?side2 A74.out).mono ?_); (case side1 => repeat (first | exact (by repeat (first | (with_reducible exact HR130.out) | (with_reducible refine Kd.C_alloc ?_ _) | (with_reducible refine Kd.C_drewN ?_ _) | (with_reducible refine Kd.C_drew ?_) | exact HR130.out)) | (with_reducible refine Kd.C_alloc ?_ _) | (with_reducible refine Kd.C_drewN ?_ _) | (with_reducible refine Kd.C_drew ?_))); (case side2 => exact HC130.out); rintro e w' ⟨rfl, ⟨nd, rfl⟩⟩; refine ⟨_, rfl, ?_⟩))
          go_ret
          exact ⟨by first | rfl | (simp [errW_none, errW_some] <;> rfl) | (simp [*, errW_none, errW_some] <;> rfl), by repeat (first | (with_reducible first | exact HB.out | apply below_alloc | apply pw_below_drewN | apply below_drew1 | refine below_set ?_ GE123.out) | exact HB.out)⟩
         ·rw [if_neg c73] at H
          exact absurd H (by simp)
     ·rw [if_neg c8] at H
      exact absurd H (by simp)
    ·rw [if_neg c7] at H
     exact absurd H (by simp)
end Go.Proofs.YtplkoabikliagaaDoor.K
