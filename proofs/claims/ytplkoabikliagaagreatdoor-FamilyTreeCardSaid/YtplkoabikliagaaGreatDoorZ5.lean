/- Part 5 of a proof: walks and plain laws, merged by wip/tools/pack.py. -/
import Derived.Test.YtplkoabikliagaaGreatDoorZ1
import Derived.Test.YtplkoabikliagaaGreatDoorZ4
import Derived.Test.YtplkoabikliagaaGreatDoorZ2
import Derived.Handy
import Derived.Deep.RegionHeld3
import Derived.Deep.DrawnRows
import Derived.Deep.DeepCutAuto
namespace Go.Proofs.YtplkoabikliagaaGreatDoor.K
open Go.RowKit Go.Proofs.YtplkoabikliagaaGreatDoorW.PrintWords Go.Proofs.YtplkoabikliagaaGreatDoorW.PrintLast Go.Proofs.YtplkoabikliagaaGreatDoorW.PrintMore
attribute [local go_sem] z1o z1p z1B z1C z1b z1c z1q z1r
set_option linter.unusedVariables false
set_option linter.unusedSimpArgs false
def z0w.f : Nat → List ByteArray → List (z1J) → List (S81) → Int → Option (List Int)
 | 0, _, _, _, _ => none
 | k + 1, l0_0, l0_1, l0_2, a1 => if a1 = 0 then (some (([0] : List Int))) else (if 0 ≤ a1 then (if a1 < (l0_2.length : Int) then ((z0w.f k l0_0 l0_1 l0_2 ((z0s l0_2 a1).f1)).bind fun t297 => (if t297.length < 17592186044416 then (some (t297 ++ [a1])) else (none))) else (none)) else (none))
theorem z0w.z1t : ∀ k, (∀ y0 y1 y2 y3, LeO (z0w.f k y0 y1 y2 y3) (z0w.f (k + 1) y0 y1 y2 y3))
 | 0 => fun _ _ _ _ r h => by simp [z0w.f] at h
 | k + 1 => by
  have ih0 := z0w.z1t k
  ·intro y0 y1 y2 y3
   unfold z0w.f
   repeat' first
   | (with_reducible exact ih0 _ _ _ _)
   | (with_reducible exact LeO.refl _)
   | (with_reducible exact LeO.none _)
   | (with_reducible refine LeO.ite ?_ ?_)
   | (with_reducible refine LeO.bind ?_ (fun _ => ?_))
theorem z0w.mono : ∀ a0 a1 a2 a3 k, LeO (z0w.f k a0 a1 a2 a3) (z0w.f (k + 1) a0 a1 a2 a3) := by
 intro a0 a1 a2 a3 k
 have ih0 := z0w.z1t k
 exact ih0 a0 a1 a2 a3
def z0w.T3 : Bool × List (List Nat × List Nat) := (true, [([], []), ([], []), ([1], [1]), ([], []), ([2, 3], [2, 3]), ([4], [4]), ([5], [5]), ([0, 6], [0, 6]), ([7, 7, 0, 1, 2, 3, 4, 5, 6, 7], [7])])
def z0w.B3 : List Nat := [0, 0, 2, 0, 14, 30, 62, 127, 255]
theorem z0w.tab3 : rtab .any (opsOf Tryz.f55 3) = z0w.T3 := by kernel_rfl
theorem z0w.w0t : z5v z0w.T3.2 z0w.B3 = true := by kernel_rfl
set_option maxHeartbeats 8000000 in
set_option maxRecDepth 100000 in
theorem z0w.calls (k : Nat) : ∀ (z0U : Option Addr) (c0_0 : Nat) (l0_0 : List ByteArray) (z0X : Option Addr) (c0_1 : Nat) (l0_1 : List (z1J)) (z2c : Option Addr) (c0_2 : Nat) (l0_2 : List (S81)) (a1 : Int) (r : List Int) (w : World) (hr0_0 : Kd.C Kd.string w z0U l0_0.length l0_0) (hc0_0 : l0_0.length ≤ c0_0) (hr0_1 : Kd.C z5a w z0X l0_1.length l0_1) (hc0_1 : l0_1.length ≤ c0_1) (hr0_2 : Kd.C k81 w z2c l0_2.length l0_2) (hc0_2 : l0_2.length ≤ c0_2) (h : z0w.f k l0_0 l0_1 l0_2 a1 = some r),
  Calls Tryz.prog 55 #[.agg #[.slice z0U l0_0.length c0_0, .slice z0X l0_1.length c0_1, .slice z2c l0_2.length c0_2], .int .i64 a1] w fun e w' => ∃ v0_ : Value, e = .returned (v0_) ∧ Kd.R (Kd.int .i64) 3 w' w.heap.size (fun _ => True) v0_ r ∧ Below w.heap.size w w' := by
 induction k using Nat.strongRecOn with
 | _ k ih =>
 intro z0U c0_0 l0_0 z0X c0_1 l0_1 z2c c0_2 l0_2 a1 r w hr0_0 hc0_0 hr0_1 hc0_1 hr0_2 hc0_2 h
 cases k with
 | zero => exact absurd h (by simp [z0w.f])
 | succ k =>
 simp only [z0w.f] at h
 have hu28 := Tryz.underlying28
 have z2g := z0a.mk hr0_0
 have z1g := z0a.mk hc0_0
 clear hr0_0 hc0_0
 have z2x := z0a.mk hr0_1
 have z1j := z0a.mk hc0_1
 clear hr0_1 hc0_1
 have z3X := z0a.mk hr0_2
 have z2T := z0a.mk hc0_2
 clear hr0_2 hc0_2
 have HB := z0a.mk (Below.refl w.heap.size w)
 have H : (if a1 = 0 then (some (([0] : List Int))) else (if 0 ≤ a1 then (if a1 < (l0_2.length : Int) then ((z0w.f k l0_0 l0_1 l0_2 ((z0s l0_2 a1).f1)).bind fun t297 => (if t297.length < 17592186044416 then (some (t297 ++ [a1])) else (none))) else (none)) else (none))) = some r := h
 clear h
 by_cases c3 : a1 = 0
 ·rw [if_pos c3] at H
  have c3b0 : (a1 == 0) = true := beq_iff_eq.mpr c3
  have c3b1 : (a1 != 0) = false := bne_eq_false_iff_eq.mpr c3
  clear c3
  obtain ⟨y293, hy293⟩ : ∃ y_ : List Int, y_ = (([0] : List Int)) := ⟨_, rfl⟩
  replace H : (some y293) = some r := by first | (rw [hy293]; with_reducible exact H) | (have H2_ := (Option.bind_some _ _).symm.trans H; rw [hy293]; with_reducible exact H2_) | (have H2_ := (Option.bind_some _ _).symm.trans H; with_reducible exact H2_) | with_reducible exact H | (rw [hy293]; exact H) | exact H
  have Ny293 := z0a.mk hy293
  clear hy293
  obtain rfl := Option.some.inj H
  go_enter Tryz.func55, Tryz.ntmps55
  go_wp2_with (first | ((with_reducible refine z0o (N := 2) rfl ?_); refine zo (cs := #[.slice z0U l0_0.length c0_0, .slice z0X l0_1.length c0_1, .slice z2c l0_2.length c0_2]) (t := 28) ?_; intro x1k hg w4 hbox hb; have z8K := z0a.mk hbox; have GW292 := zG HB hg; have w1N := zG HB hg; replace HB := zB HB hb; clear hb hbox hg) | ((with_reducible refine z0o (N := 8) rfl ?_); refine Kd.y6H (Kd.int .i64) _ 3 ?hg (N := 8) ?hd (xs := ([0] : List Int)) (inner := [.int .i64 0]) (ok := fun _ => True) (okp := fun _ => True) ?hr ?hp (fun _ hk => hk) trivial (Below.refl _ _) (Nat.le_refl _) (by simp) ?_; (case hd => rfl); (case hg => rfl); (case hr => first | (go_simp; done) | (go_simp; rfl)); (case hp => exact (Reps.one (show Kd.M (Kd.int .i64) _ _ _ 0 [.int .i64 0] from rfl) (Reps.none _ _))); intro v294 w5 ho6 hb hg_ hnew_; clear hg_ hnew_; (first | rw [← Ny293.out] at ho6 | (simp only [Int.reduceToNat] at ho6; rw [← Ny293.out] at ho6)); have HO295 := z0a.mk (Kd.z2n ho6 (z1x zb)); replace z8K := zK z8K hb; replace HB := zB HB hb; clear hb ho6))
  go_ret
  exact ⟨_, zr, by (with_reducible repeat (first | apply Kd.z0Z | apply Kd.z0Y | apply Kd.z1n)); exact HO295.out, by repeat (first | (with_reducible first | exact HB.out | apply z1w | apply z1d | apply z1l | refine z1X ?_ w1N.out) | exact HB.out)⟩
 rw [if_neg c3] at H
 have c3b0 : (a1 == 0) = false := beq_eq_false_iff_ne.mpr c3
 have c3b1 : (a1 != 0) = true := bne_iff_ne.mpr c3
 by_cases c7 : 0 ≤ a1
 rotate_left
 ·rw [if_neg c7] at H
  exact absurd H (by simp)
 rw [if_pos c7] at H
 have c7b0 : decide (0 ≤ a1) = true := decide_eq_true c7
 clear c7
 by_cases c8 : a1 < (l0_2.length : Int)
 rotate_left
 ·rw [if_neg c8] at H
  exact absurd H (by simp)
 rw [if_pos c8] at H
 have c8b0 : decide (a1 < (l0_2.length : Int)) = true := decide_eq_true c8
 clear c8
 replace H := Option.bind_eq_some_iff.mp H
 obtain ⟨t297, A90, H⟩ := H
 replace H : (if t297.length < 17592186044416 then (some (t297 ++ [a1])) else (none)) = some r := H
 have A9 := z0a.mk A90
 clear A90
 by_cases c10 : t297.length < 17592186044416
 rotate_left
 ·rw [if_neg c10] at H
  exact absurd H (by simp)
 rw [if_pos c10] at H
 have LMc10 := z0a.mk c10
 clear c10
 obtain ⟨y300, hy300⟩ : ∃ y_ : List Int, y_ = (t297 ++ [a1]) := ⟨_, rfl⟩
 replace H : (some y300) = some r := by first | (rw [hy300]; with_reducible exact H) | (have H2_ := (Option.bind_some _ _).symm.trans H; rw [hy300]; with_reducible exact H2_) | (have H2_ := (Option.bind_some _ _).symm.trans H; with_reducible exact H2_) | with_reducible exact H | (rw [hy300]; exact H) | exact H
 have Ny300 := z0a.mk hy300
 clear hy300
 obtain rfl := Option.some.inj H
 go_enter Tryz.func55, Tryz.ntmps55
 try go_wp2_with (first | ((with_reducible refine z0o (N := 2) rfl ?_); refine zo (cs := #[.slice z0U l0_0.length c0_0, .slice z0X l0_1.length c0_1, .slice z2c l0_2.length c0_2]) (t := 28) ?_; intro x1k hg w11 hbox hb; have z8K := z0a.mk hbox; have GW292 := zG HB hg; have w1N := zG HB hg; replace HB := zB HB hb; clear hb hbox hg))
 have n0_ := z0a.mk (z0e z8K.out)
 have n1_ := z0a.mk (z1l HB.out)
 clear z8K
 clear HB
 have z8K := n0_
 have HB := n1_
 clear n0_ n1_
 have p296 : 0 ≤ (a1 : Int) := za
 have q296 : a1 < (l0_2.length : Int) := za
 obtain ⟨ad296, w3m, c296_2, e296, y6l, y6m, y6n, x5C, x5D⟩ := z3e z3X.out a1 p296 q296
 have y6o := y6n
 have y6p := y6m
 have y6q := y6l
 cases e296
 replace y6l := zx HB y6l
 replace y6m := zx HB y6m
 replace y6n := zx HB y6n
 have w1O := z0a.mk x5D
 have HC296_2 := z0a.mk x5C
 clear x5D x5C
 replace p296 := eq_true p296
 replace q296 := eq_true q296
 refine z6l (n := 9) (S := fun w' => w'.cell? ⟨x1k, 0, none⟩ = some (.slice z0U l0_0.length c0_0) ∧ w'.cell? ⟨x1k, 1, none⟩ = some (.slice z0X l0_1.length c0_1) ∧ w'.cell? ⟨x1k, 2, none⟩ = some (.slice (some ad296) l0_2.length c0_2) ∧ w'.cell? (ad296.add ((a1).toNat * 3)) = some (.string ((z0s l0_2 a1).f0)) ∧ w'.cell? ⟨(ad296.add ((a1).toNat * 3)).block, (ad296.add ((a1).toNat * 3)).off + 1, none⟩ = some (.int .i64 ((z0s l0_2 a1).f1)) ∧ w'.cell? ⟨(ad296.add ((a1).toNat * 3)).block, (ad296.add ((a1).toNat * 3)).off + 2, none⟩ = some (.slice w3m ((z0s l0_2 a1).f2).length c296_2)) (ds := []) #[false, false, false, false, false, false, false, false, false] (by kernel_rfl) rfl rfl ⟨(z0p z8K.out 0).trans rfl, (z0p z8K.out 1).trans rfl, (z0p z8K.out 2).trans rfl, ((HB.out.cell (World.block_lt_of_cell? w _ y6q)).trans y6q), ((HB.out.cell (World.block_lt_of_cell? w _ y6p)).trans y6p), ((HB.out.cell (World.block_lt_of_cell? w _ y6o)).trans y6o)⟩ (fun hHeld => ?_); refine z3I z0w.tab3 z0w.w0t (fun HT_ HW_ => ?_)
 generalize w11.drew = w12 at z8K HB w1O y6l y6m y6n hHeld ⊢
 refine z1O (i := 1) (N := some 10) (v := ?_) (a' := ?_) #[false, true, false, false, false, false, false, false, false] rfl rfl (z1s HT_.out (by kernel_rfl)) (fun _ _ _ h => h) (Or.inl ⟨by rfl, ?_⟩) ?_ ?_
 rotate_left
 ·intro w'
  go_simp
  with_reducible rfl
 rotate_left
 ·simp only [Act.put, List.setIfInBounds_toArray, List.set_cons_zero, List.set_cons_succ, z0V, z0W]
  rfl
 refine z1O (i := 3) (N := some 12) (v := ?_) (a' := ?_) #[false, true, false, true, false, false, false, false, false] rfl rfl (z1s HT_.out (by kernel_rfl)) (fun _ _ _ h => h) (Or.inl ⟨by rfl, ?_⟩) ?_ ?_
 rotate_left
 ·intro w'
  go_simp
  with_reducible rfl
 rotate_left
 ·simp only [Act.put, List.setIfInBounds_toArray, List.set_cons_zero, List.set_cons_succ, z0V, z0W]
  rfl
 refine z2R (i := 0) (N := some 9) (v := ?_) (a' := ?_) #[true, true, false, true, false, false, false, false, false] rfl rfl (z1D HT_.out HW_.out (by kernel_rfl)) (fun _ _ _ h => h) (Or.inl ⟨by rfl, ?_⟩) hHeld ?_ ?_
 rotate_left
 ·rintro w' ⟨s0, s1, s2, s3, s4, s5⟩
  go_simp
  with_reducible rfl
 rotate_left
 ·simp only [Act.put, List.setIfInBounds_toArray, List.set_cons_zero, List.set_cons_succ, z0V, z0W]
  rfl
 refine z2R (i := 2) (N := some 11) (v := ?_) (a' := ?_) #[true, true, true, true, false, false, false, false, false] rfl rfl (z1D HT_.out HW_.out (by kernel_rfl)) (fun _ _ _ h => h) (Or.inl ⟨by rfl, ?_⟩) hHeld ?_ ?_
 rotate_left
 ·rintro w' ⟨s0, s1, s2, s3, s4, s5⟩
  go_simp
  with_reducible rfl
 rotate_left
 ·simp only [Act.put, List.setIfInBounds_toArray, List.set_cons_zero, List.set_cons_succ, z0V, z0W]
  rfl
 refine z1O (i := 4) (N := some 13) (v := ?_) (a' := ?_) #[true, true, true, true, true, false, false, false, false] rfl rfl (z1s HT_.out (by kernel_rfl)) (fun _ _ _ h => h) (Or.inl ⟨by rfl, ?_⟩) ?_ ?_
 rotate_left
 ·intro w'
  go_simp
  with_reducible rfl
 rotate_left
 ·simp only [Act.put, List.setIfInBounds_toArray, List.set_cons_zero, List.set_cons_succ, z0V, z0W]
  rfl
 refine z1O (i := 5) (N := some 14) (v := ?_) (a' := ?_) #[true, true, true, true, true, true, false, false, false] rfl rfl (z1s HT_.out (by kernel_rfl)) (fun _ _ _ h => h) (Or.inl ⟨by rfl, ?_⟩) ?_ ?_
 rotate_left
 ·intro w'
  go_simp
  with_reducible rfl
 rotate_left
 ·simp only [Act.put, List.setIfInBounds_toArray, List.set_cons_zero, List.set_cons_succ, z0V, z0W]
  rfl
 refine z2R (i := 6) (N := some 15) (v := ?_) (a' := ?_) #[true, true, true, true, true, true, true, false, false] rfl rfl (z1D HT_.out HW_.out (by kernel_rfl)) (fun _ _ _ h => h) (Or.inl ⟨by rfl, ?_⟩) hHeld ?_ ?_
 rotate_left
 ·rintro w' ⟨s0, s1, s2, s3, s4, s5⟩
  go_simp
  with_reducible rfl
 rotate_left
 ·simp only [Act.put, List.setIfInBounds_toArray, List.set_cons_zero, List.set_cons_succ, z0V, z0W]
  rfl
 refine x6C (i := 7) (N := some 16) #[true, true, true, true, true, true, true, true, false] rfl rfl (z8Z HT_.out (by kernel_rfl)) (by decide) (fun K hK => ?_)
 refine y4W Tryz.func55 (by kernel_rfl) rfl #[.agg #[.slice z0U l0_0.length c0_0, .slice z0X l0_1.length c0_1, .slice (some ad296) l0_2.length c0_2], .int .i64 ((z0s l0_2 a1).f1)] (by rfl) rfl rfl zq ?_
 with_reducible refine (ih k (by omega) _ _ l0_0 _ _ l0_1 _ _ l0_2 ((z0s l0_2 a1).f1) t297 _ ?z0M ?z4Y ?z0Q ?z6g ?z1z ?z6O A9.out).mono ?_
 (case z0M => exact zs)
 (case z4Y => exact z1g.out)
 (case z0Q => exact zs)
 (case z6g => exact z1j.out)
 (case z1z => exact zs)
 (case z6O => exact z2T.out)
 rintro e w13 ⟨v298, rfl, ho0, hb⟩
 refine ⟨_, rfl, ?_⟩
 have n0_ := z0a.mk (Kd.z2n ho0 (z1x zb))
 have n1_ := z0a.mk (z0O (g := x1k) (o := .cells #[.slice z0U l0_0.length c0_0, .slice z0X l0_1.length c0_1, .slice (some ad296) l0_2.length c0_2] 28 (0, 0)) zk hb)
 have n2_ := z0a.mk (z2X zb hb)
 clear z8K
 clear HB
 have HO299 := n0_
 have z8K := n1_
 have HB := n2_
 clear n0_ n1_ n2_
 (try clear hb)
 (try clear hb2)
 (try clear hk)
 (try clear hi)
 (try clear ho0)
 refine hK.out _ _ ⟨(z0p z8K.out 0).trans rfl, (z0p z8K.out 1).trans rfl, (z0p z8K.out 2).trans rfl, ((HB.out.cell (World.block_lt_of_cell? w _ y6q)).trans y6q), ((HB.out.cell (World.block_lt_of_cell? w _ y6p)).trans y6p), ((HB.out.cell (World.block_lt_of_cell? w _ y6o)).trans y6o)⟩ (fun hHeld => ?_)
 clear hK K
 refine y4g (a' := ?_) ?_ ?_
 rotate_left
 ·show Act.put _ (some 16) _ = _
  simp only [Act.put, List.setIfInBounds_toArray, List.set_cons_zero, List.set_cons_succ, z0V, z0W]
  rfl
 refine z1O (i := 8) (N := some 5) (v := ?_) (a' := ?_) #[true, true, true, true, true, true, true, true, true] rfl rfl (z1s HT_.out (by kernel_rfl)) (fun _ _ _ h => h) (Or.inl ⟨by rfl, ?_⟩) ?_ ?_
 rotate_left
 ·intro w'
  go_simp
  with_reducible rfl
 rotate_left
 ·simp only [Act.put, List.setIfInBounds_toArray, List.set_cons_zero, List.set_cons_succ, z0V, z0W]
  rfl
 refine y0q (z5u HT_.out (by kernel_rfl)) ?_
 try go_wp2_with (first | ((with_reducible refine z2Z (b := .append) (xs := #[.tmp 17, .tmp 19]) rfl ?_); at_builtin; refine Kd.z9S (Kd.int .i64) (w0 := w) w.heap.size rfl (.tmp 17) (.tmp 19) 31 3 (.int .i64 0) 8 rfl Tryz.underlying31 info3 rfl (by decide) (by omega) v298 t297 a1 [.int .i64 a1] (fun _ => True) (fun _ => False) rfl rfl ?aP (fun _ hk => hk.elim) ?aF ?aO ?aB ?aS ?aL ?_; (case aP => exact rfl); (case aB => exact zb); (case aF => exact (fun _ _ => trivial)); (case aO => exact (by (with_reducible repeat (first | apply Kd.z0Z | apply Kd.z0Y | apply Kd.z1n)); exact HO299.out)); (case aS => exact (z1x zb)); (case aL => have := LMc10.out; omega); intro v301 w14 ho hb hg hat; rw [← Ny300.out] at ho; have HO302 := z0a.mk (ho); replace z8K := z0a.mk (z5t (g := x1k) (o := .cells #[.slice z0U l0_0.length c0_0, .slice z0X l0_1.length c0_1, .slice (some ad296) l0_2.length c0_2] 28 (0, 0)) zk hg (Kd.x7G HO299.out z8K.out (by decide))); replace HB := z0a.mk (hb); clear HO299; clear ho hb hg hat))
 go_ret
 exact ⟨_, zr, by (with_reducible repeat (first | apply Kd.z0Z | apply Kd.z0Y | apply Kd.z1n)); exact HO302.out, by repeat (first | (with_reducible first | exact HB.out | apply z1w | apply z1d | apply z1l | refine z1X ?_ w1N.out) | exact HB.out)⟩
def z1U.f (k : Nat) (l0_0 : List ByteArray) (l0_1 : List (z1J)) (l0_2 : List (S81)) (a1 : Int) : Option (List Int × Int) := (z0I.f k l0_0 l0_1 l0_2 a1).bind fun t304 => (if t304 = 0 then ((z0w.f k l0_0 l0_1 l0_2 a1).bind fun t305 => (some (t305, 0))) else (some (([] : List Int), t304)))
theorem z1U.mono : ∀ a0 a1 a2 a3 k, LeO (z1U.f k a0 a1 a2 a3) (z1U.f (k + 1) a0 a1 a2 a3) := by
 intro a0 a1 a2 a3 k
 unfold z1U.f
 repeat' first
   | (with_reducible exact z0w.mono _ _ _ _ _)
   | (with_reducible exact z0I.mono _ _ _ _ _)
   | (with_reducible exact LeO.refl _)
   | (with_reducible exact LeO.none _)
   | (with_reducible refine LeO.ite ?_ ?_)
   | (with_reducible refine LeO.bind ?_ (fun _ => ?_))
set_option maxHeartbeats 8000000 in
set_option maxRecDepth 100000 in
theorem z1U.calls (k : Nat) (z0U : Option Addr) (c0_0 : Nat) (l0_0 : List ByteArray) (z0X : Option Addr) (c0_1 : Nat) (l0_1 : List (z1J)) (z2c : Option Addr) (c0_2 : Nat) (l0_2 : List (S81)) (a1 : Int) (r1 : List Int) (r2 : Int) (w : World) (hr0_0 : Kd.C Kd.string w z0U l0_0.length l0_0) (hc0_0 : l0_0.length ≤ c0_0) (hr0_1 : Kd.C z5a w z0X l0_1.length l0_1) (hc0_1 : l0_1.length ≤ c0_1) (hr0_2 : Kd.C k81 w z2c l0_2.length l0_2) (hc0_2 : l0_2.length ≤ c0_2) (h : z1U.f k l0_0 l0_1 l0_2 a1 = some (r1, r2)) :
  Calls Tryz.prog 13 #[.agg #[.slice z0U l0_0.length c0_0, .slice z0X l0_1.length c0_1, .slice z2c l0_2.length c0_2], .int .i64 a1] w fun e w' => ∃ v0_ : Value, e = .returned (.tuple #[v0_, .int .i64 r2]) ∧ Kd.R (Kd.int .i64) 3 w' w.heap.size (fun _ => True) v0_ r1 ∧ Below w.heap.size w w' := by
 have hu28 := Tryz.underlying28
 have z2g := z0a.mk hr0_0
 have z1g := z0a.mk hc0_0
 clear hr0_0 hc0_0
 have z2x := z0a.mk hr0_1
 have z1j := z0a.mk hc0_1
 clear hr0_1 hc0_1
 have z3X := z0a.mk hr0_2
 have z2T := z0a.mk hc0_2
 clear hr0_2 hc0_2
 have HB := z0a.mk (Below.refl w.heap.size w)
 have H : ((z0I.f k l0_0 l0_1 l0_2 a1).bind fun t304 => (if t304 = 0 then ((z0w.f k l0_0 l0_1 l0_2 a1).bind fun t305 => (some (t305, 0))) else (some (([] : List Int), t304)))) = some (r1, r2) := h
 clear h
 replace H := Option.bind_eq_some_iff.mp H
 obtain ⟨t304, A30, H⟩ := H
 replace H : (if t304 = 0 then ((z0w.f k l0_0 l0_1 l0_2 a1).bind fun t305 => (some (t305, 0))) else (some (([] : List Int), t304))) = some (r1, r2) := H
 have A3 := z0a.mk A30
 clear A30
 by_cases c4 : t304 = 0
 rotate_left
 ·rw [if_neg c4] at H
  have c4b0 : (t304 == 0) = false := beq_eq_false_iff_ne.mpr c4
  have c4b1 : (t304 != 0) = true := bne_iff_ne.mpr c4
  simp only [Option.some.injEq, Prod.mk.injEq] at H
  obtain ⟨rfl, rfl⟩ := H
  go_enter Tryz.func13, Tryz.ntmps13
  go_wp2_with (first | ((with_reducible refine z0o (N := 2) rfl ?_); refine zo (cs := #[.slice z0U l0_0.length c0_0, .slice z0X l0_1.length c0_1, .slice z2c l0_2.length c0_2]) (t := 28) ?_; intro gb303 hg w11 hbox hb; have y4n := z0a.mk hbox; have GW303 := zG HB hg; have w1P := zG HB hg; replace HB := zB HB hb; clear hb hbox hg; obtain ⟨z8o, y0D, y5Z, z8p, y0E, y6a⟩ := zc3 w11 y4n.out) | ((with_reducible refine z0m (f := 54) rfl ?_); refine z1a (some 9) rfl rfl Tryz.func54 (by kernel_rfl) rfl #[.agg #[.slice z0U l0_0.length c0_0, .slice z0X l0_1.length c0_1, .slice z2c l0_2.length c0_2], .int .i64 a1] rfl zq ?_; (with_reducible refine (z0I.calls k _ _ l0_0 _ _ l0_1 _ _ l0_2 a1 t304 _ ?z0M z1g.out ?z0Q z1j.out ?z1z z2T.out A3.out).mono ?_); (case z0M => exact zs); (case z0Q => exact zs); (case z1z => exact zs); rintro e w13 ⟨rfl, hb⟩; refine ⟨_, rfl, ?_⟩; replace y4n := zK y4n hb; replace HB := zB HB hb; (try clear hb)))
  go_ret2
  exact ⟨_, zr, by first | exact Kd.z5O _ _ _ _ _ | exact Kd.y6P _ _ _ _ _ | exact Kd.y6T _ _ _ _ _ | exact Kd.y6I _ _ _ _ _ | exact Kd.y6O _ _ _ _ _, by repeat (first | (with_reducible first | exact HB.out | apply z1w | apply z1d | apply z1l | refine z1X ?_ w1P.out) | exact HB.out)⟩
 rw [if_pos c4] at H
 have c4b0 : (t304 == 0) = true := beq_iff_eq.mpr c4
 have c4b1 : (t304 != 0) = false := bne_eq_false_iff_eq.mpr c4
 clear c4
 replace H := Option.bind_eq_some_iff.mp H
 obtain ⟨t305, A50, H⟩ := H
 replace H : (some (t305, 0)) = some (r1, r2) := H
 have A5 := z0a.mk A50
 clear A50
 simp only [Option.some.injEq, Prod.mk.injEq] at H
 obtain ⟨rfl, rfl⟩ := H
 go_enter Tryz.func13, Tryz.ntmps13
 go_wp2_with (first | ((with_reducible refine z0o (N := 2) rfl ?_); refine zo (cs := #[.slice z0U l0_0.length c0_0, .slice z0X l0_1.length c0_1, .slice z2c l0_2.length c0_2]) (t := 28) ?_; intro gb303 hg w6 hbox hb; have y4n := z0a.mk hbox; have GW303 := zG HB hg; have w1P := zG HB hg; replace HB := zB HB hb; clear hb hbox hg; obtain ⟨z4b, z4c, z5U, z4d, z4e, z5V⟩ := zc3 w6 y4n.out) | ((with_reducible refine z0m (f := 54) rfl ?_); refine z1a (some 9) rfl rfl Tryz.func54 (by kernel_rfl) rfl #[.agg #[.slice z0U l0_0.length c0_0, .slice z0X l0_1.length c0_1, .slice z2c l0_2.length c0_2], .int .i64 a1] rfl zq ?_; (with_reducible refine (z0I.calls k _ _ l0_0 _ _ l0_1 _ _ l0_2 a1 t304 _ ?z0M z1g.out ?z0Q z1j.out ?z1z z2T.out A3.out).mono ?_); (case z0M => exact zs); (case z0Q => exact zs); (case z1z => exact zs); rintro e w8 ⟨rfl, hb⟩; refine ⟨_, rfl, ?_⟩; replace y4n := zK y4n hb; replace HB := zB HB hb; (try clear hb); obtain ⟨z5l, z5m, z9e, z5n, z5o, z9f⟩ := zc3 w8 y4n.out) | ((with_reducible refine z0m (f := 55) rfl ?_); refine z1a (some 15) rfl rfl Tryz.func55 (by kernel_rfl) rfl #[.agg #[.slice z0U l0_0.length c0_0, .slice z0X l0_1.length c0_1, .slice z2c l0_2.length c0_2], .int .i64 a1] rfl zq ?_; (with_reducible refine (z0w.calls k _ _ l0_0 _ _ l0_1 _ _ l0_2 a1 t305 _ ?z0M z1g.out ?z0Q z1j.out ?z1z z2T.out A5.out).mono ?_); (case z0M => exact zs); (case z0Q => exact zs); (case z1z => exact zs); rintro e w10 ⟨v306, rfl, ho0, hb⟩; refine ⟨_, rfl, ?_⟩; have HO307 := z0a.mk (Kd.z2n ho0 (z1x zb)); replace y4n := zK y4n hb; replace HB := zB HB hb; (try clear hb); (try clear ho0)))
 go_ret2
 exact ⟨_, zr, by (with_reducible repeat (first | apply Kd.z0Z | apply Kd.z0Y | apply Kd.z1n)); exact HO307.out, by repeat (first | (with_reducible first | exact HB.out | apply z1w | apply z1d | apply z1l | refine z1X ?_ w1P.out) | exact HB.out)⟩
def z1k.l0 : Nat → Int → Int → List ByteArray → List (z1J) → List (S81) → Option (Int × Int)
 | 0, _, _, _, _, _ => none
 | k + 1, x1, x2, x5E, x5F, y0Q => if x1 = x2 then (some (x1, 0)) else (if x1 > x2 then (if 0 ≤ x1 then (if x1 < (y0Q.length : Int) then (z1k.l0 k ((z0s y0Q x1).f1) x2 x5E x5F y0Q) else (none)) else (none)) else (if 0 ≤ x2 then (if x2 < (y0Q.length : Int) then (z1k.l0 k x1 ((z0s y0Q x2).f1) x5E x5F y0Q) else (none)) else (none)))
def z1k.f (k : Nat) (l0_0 : List ByteArray) (l0_1 : List (z1J)) (l0_2 : List (S81)) (a1 : Int) (a2 : Int) : Option (Int × Int) := (z0L.f k l0_0 l0_1 l0_2 (([a1, a2] : List Int))).bind fun t312 => (if t312 = 0 then (z1k.l0 k a1 a2 l0_0 l0_1 l0_2) else (some (0, t312)))
theorem z1k.z1t : ∀ k, (∀ y0 y1 y2 y3 y4, LeO (z1k.l0 k y0 y1 y2 y3 y4) (z1k.l0 (k + 1) y0 y1 y2 y3 y4))
 | 0 => fun _ _ _ _ _ r h => by simp [z1k.l0] at h
 | k + 1 => by
  have ih0 := z1k.z1t k
  ·intro y0 y1 y2 y3 y4
   unfold z1k.l0
   repeat' first
   | (with_reducible exact ih0 _ _ _ _ _)
   | (with_reducible exact z0L.mono _ _ _ _ _)
   | (with_reducible exact LeO.refl _)
   | (with_reducible exact LeO.none _)
   | (with_reducible refine LeO.ite ?_ ?_)
   | (with_reducible refine LeO.bind ?_ (fun _ => ?_))
theorem z1k.mono : ∀ a0 a1 a2 a3 a4 k, LeO (z1k.f k a0 a1 a2 a3 a4) (z1k.f (k + 1) a0 a1 a2 a3 a4) := by
 intro a0 a1 a2 a3 a4 k
 have ih0 := z1k.z1t k
 unfold z1k.f
 repeat' first
   | (with_reducible exact ih0 _ _ _ _ _)
   | (with_reducible exact z0L.mono _ _ _ _ _)
   | (with_reducible exact LeO.refl _)
   | (with_reducible exact LeO.none _)
   | (with_reducible refine LeO.ite ?_ ?_)
   | (with_reducible refine LeO.bind ?_ (fun _ => ?_))
set_option maxHeartbeats 8000000 in
set_option maxRecDepth 100000 in
theorem z1k.calls (k : Nat) (z0U : Option Addr) (c0_0 : Nat) (l0_0 : List ByteArray) (z0X : Option Addr) (c0_1 : Nat) (l0_1 : List (z1J)) (z2c : Option Addr) (c0_2 : Nat) (l0_2 : List (S81)) (a1 : Int) (a2 : Int) (r1 : Int) (r2 : Int) (w : World) (hr0_0 : Kd.C Kd.string w z0U l0_0.length l0_0) (hc0_0 : l0_0.length ≤ c0_0) (hr0_1 : Kd.C z5a w z0X l0_1.length l0_1) (hc0_1 : l0_1.length ≤ c0_1) (hr0_2 : Kd.C k81 w z2c l0_2.length l0_2) (hc0_2 : l0_2.length ≤ c0_2) (h : z1k.f k l0_0 l0_1 l0_2 a1 a2 = some (r1, r2)) :
  Calls Tryz.prog 14 #[.agg #[.slice z0U l0_0.length c0_0, .slice z0X l0_1.length c0_1, .slice z2c l0_2.length c0_2], .int .i64 a1, .int .i64 a2] w fun e w' => e = .returned (.tuple #[.int .i64 r1, .int .i64 r2]) ∧ Below w.heap.size w w' := by
 have hu28 := Tryz.underlying28
 have z2g := z0a.mk hr0_0
 have z1g := z0a.mk hc0_0
 clear hr0_0 hc0_0
 have z2x := z0a.mk hr0_1
 have z1j := z0a.mk hc0_1
 clear hr0_1 hc0_1
 have z3X := z0a.mk hr0_2
 have z2T := z0a.mk hc0_2
 clear hr0_2 hc0_2
 have HB := z0a.mk (Below.refl w.heap.size w)
 have H : ((z0L.f k l0_0 l0_1 l0_2 (([a1, a2] : List Int))).bind fun t312 => (if t312 = 0 then (z1k.l0 k a1 a2 l0_0 l0_1 l0_2) else (some (0, t312)))) = some (r1, r2) := h
 clear h
 obtain ⟨y309, hy309⟩ : ∃ y_ : List Int, y_ = (([a1, a2] : List Int)) := ⟨_, rfl⟩
 replace H : ((z0L.f k l0_0 l0_1 l0_2 y309).bind fun t312 => (if t312 = 0 then (z1k.l0 k a1 a2 l0_0 l0_1 l0_2) else (some (0, t312)))) = some (r1, r2) := by first | (rw [hy309]; with_reducible exact H) | (have H2_ := (Option.bind_some _ _).symm.trans H; rw [hy309]; with_reducible exact H2_) | (have H2_ := (Option.bind_some _ _).symm.trans H; with_reducible exact H2_) | with_reducible exact H | (rw [hy309]; exact H) | exact H
 have Ny309 := z0a.mk hy309
 clear hy309
 replace H := Option.bind_eq_some_iff.mp H
 obtain ⟨t312, A40, H⟩ := H
 replace H : (if t312 = 0 then (z1k.l0 k a1 a2 l0_0 l0_1 l0_2) else (some (0, t312))) = some (r1, r2) := H
 have A4 := z0a.mk A40
 clear A40
 by_cases c5 : t312 = 0
 rotate_left
 ·rw [if_neg c5] at H
  have c5b0 : (t312 == 0) = false := beq_eq_false_iff_ne.mpr c5
  have c5b1 : (t312 != 0) = true := bne_iff_ne.mpr c5
  simp only [Option.some.injEq, Prod.mk.injEq] at H
  obtain ⟨rfl, rfl⟩ := H
  go_enter Tryz.func14, Tryz.ntmps14
  go_wp2_with (first | ((with_reducible refine z0o (N := 3) rfl ?_); refine zo (cs := #[.slice z0U l0_0.length c0_0, .slice z0X l0_1.length c0_1, .slice z2c l0_2.length c0_2]) (t := 28) ?_; intro w3n hg w20 hbox hb; have y0i := z0a.mk hbox; have GW308 := zG HB hg; have GE308 := zG HB hg; replace HB := zB HB hb; clear hb hbox hg; obtain ⟨z9E, z9F, y3j, z9G, z9H, y3k⟩ := zc3 w20 y0i.out) | ((with_reducible refine z0o (N := 12) rfl ?_); refine Kd.y6H (Kd.int .i64) _ 3 ?hg (N := 12) ?hd (xs := ([a1, a2] : List Int)) (inner := [.int .i64 a1, .int .i64 a2]) (ok := fun _ => True) (okp := fun _ => True) ?hr ?hp (fun _ hk => hk) trivial (Below.refl _ _) (Nat.le_refl _) (by simp) ?_; (case hd => rfl); (case hg => rfl); (case hr => first | (go_simp; done) | (go_simp; rfl)); (case hp => exact (Reps.one (show Kd.M (Kd.int .i64) _ _ _ a1 [.int .i64 a1] from rfl) (Reps.one (show Kd.M (Kd.int .i64) _ _ _ a2 [.int .i64 a2] from rfl) (Reps.none _ _)))); intro v310 w22 ho23 hb hg_ hnew_; clear hg_ hnew_; (first | rw [← Ny309.out] at ho23 | (simp only [Int.reduceToNat] at ho23; rw [← Ny309.out] at ho23)); have HO311 := z0a.mk (Kd.z2n ho23 (z1x zb)); replace y0i := zK y0i hb; replace HB := zB HB hb; clear hb ho23; obtain ⟨Ao24, co24, eo24⟩ := Kd.z2q HO311.out; subst eo24) | ((with_reducible refine z0m (f := 52) rfl ?_); refine z1a (some 13) rfl rfl Tryz.func52 (by kernel_rfl) rfl #[.agg #[.slice z0U l0_0.length c0_0, .slice z0X l0_1.length c0_1, .slice z2c l0_2.length c0_2], .slice Ao24 y309.length co24] rfl zq ?_; (with_reducible refine (z0L.calls k _ _ l0_0 _ _ l0_1 _ _ l0_2 _ _ y309 t312 _ ?z0M z1g.out ?z0Q z1j.out ?z1z z2T.out ?z6I ?y3d A4.out).mono ?_); (case z0M => exact zs); (case z0Q => exact zs); (case z1z => exact zs); (case z6I => repeat (first | exact (Kd.z1K HO311.out).2.2 | (with_reducible refine Kd.z3F ?_ _) | (with_reducible refine Kd.z3G ?_ _) | (with_reducible refine Kd.z3x ?_))); (case y3d => exact (Kd.z1K HO311.out).2.1); rintro e w25 ⟨rfl, hb⟩; refine ⟨_, rfl, ?_⟩; replace HO311 := z0a.mk (Kd.z2f (by (with_reducible repeat (first | apply Kd.z0Z | apply Kd.z0Y | apply Kd.z1n)); exact HO311.out) hb); replace y0i := zK y0i hb; replace HB := zB HB hb; (try clear hb)))
  go_ret2
  exact ⟨zr, zb⟩
 rw [if_pos c5] at H
 have c5b0 : (t312 == 0) = true := beq_iff_eq.mpr c5
 have c5b1 : (t312 != 0) = false := bne_eq_false_iff_eq.mpr c5
 clear c5
 have H' := z0a.mk H
 clear H
 go_enter Tryz.func14, Tryz.ntmps14
 go_wp2_with (first | ((with_reducible refine z0o (N := 3) rfl ?_); refine zo (cs := #[.slice z0U l0_0.length c0_0, .slice z0X l0_1.length c0_1, .slice z2c l0_2.length c0_2]) (t := 28) ?_; intro w3n hg w6 hbox hb; have y0i := z0a.mk hbox; have GW308 := zG HB hg; have GE308 := zG HB hg; replace HB := zB HB hb; clear hb hbox hg; obtain ⟨z4b, z4c, z5U, z4d, z4e, z5V⟩ := zc3 w6 y0i.out) | ((with_reducible refine z0o (N := 12) rfl ?_); refine Kd.y6H (Kd.int .i64) _ 3 ?hg (N := 12) ?hd (xs := ([a1, a2] : List Int)) (inner := [.int .i64 a1, .int .i64 a2]) (ok := fun _ => True) (okp := fun _ => True) ?hr ?hp (fun _ hk => hk) trivial (Below.refl _ _) (Nat.le_refl _) (by simp) ?_; (case hd => rfl); (case hg => rfl); (case hr => first | (go_simp; done) | (go_simp; rfl)); (case hp => exact (Reps.one (show Kd.M (Kd.int .i64) _ _ _ a1 [.int .i64 a1] from rfl) (Reps.one (show Kd.M (Kd.int .i64) _ _ _ a2 [.int .i64 a2] from rfl) (Reps.none _ _)))); intro v310 w8 ho9 hb hg_ hnew_; clear hg_ hnew_; (first | rw [← Ny309.out] at ho9 | (simp only [Int.reduceToNat] at ho9; rw [← Ny309.out] at ho9)); have HO311 := z0a.mk (Kd.z2n ho9 (z1x zb)); replace y0i := zK y0i hb; replace HB := zB HB hb; clear hb ho9; obtain ⟨Ao10, co10, eo10⟩ := Kd.z2q HO311.out; subst eo10) | ((with_reducible refine z0m (f := 52) rfl ?_); refine z1a (some 13) rfl rfl Tryz.func52 (by kernel_rfl) rfl #[.agg #[.slice z0U l0_0.length c0_0, .slice z0X l0_1.length c0_1, .slice z2c l0_2.length c0_2], .slice Ao10 y309.length co10] rfl zq ?_; (with_reducible refine (z0L.calls k _ _ l0_0 _ _ l0_1 _ _ l0_2 _ _ y309 t312 _ ?z0M z1g.out ?z0Q z1j.out ?z1z z2T.out ?z6I ?y3d A4.out).mono ?_); (case z0M => exact zs); (case z0Q => exact zs); (case z1z => exact zs); (case z6I => repeat (first | exact (Kd.z1K HO311.out).2.2 | (with_reducible refine Kd.z3F ?_ _) | (with_reducible refine Kd.z3G ?_ _) | (with_reducible refine Kd.z3x ?_))); (case y3d => exact (Kd.z1K HO311.out).2.1); rintro e w11 ⟨rfl, hb⟩; refine ⟨_, rfl, ?_⟩; replace HO311 := z0a.mk (Kd.z2f (by (with_reducible repeat (first | apply Kd.z0Z | apply Kd.z0Y | apply Kd.z1n)); exact HO311.out) hb); replace y0i := zK y0i hb; replace HB := zB HB hb; (try clear hb)))
 go_loopg [1, 2] k (fun kq v1 v2 w' => ∃ (x1_1 : Int) (x2_1 : Int), v1 = .int .i64 x1_1 ∧ v2 = .int .i64 x2_1 ∧ z0a (z1k.l0 kq x1_1 x2_1 l0_0 l0_1 l0_2 = some (r1, r2)) ∧ z0a (kq ≤ k) ∧ z0a (w'.heap[w3n]? = some (.cells #[(.slice z0U l0_0.length c0_0), (.slice z0X l0_1.length c0_1), (.slice z2c l0_2.length c0_2)] 28 (0, 0))) ∧ z0a (Below w.heap.size w w'))
 case atStart => exact ⟨(a1), (a2), ze, ze, H', ⟨Nat.le_refl _⟩, ⟨zk⟩, ⟨zb⟩⟩
 case round =>
  clear H'
  try clear c5
  try clear c5b0
  try clear c5b1
  try clear z4b
  try clear z4c
  try clear z5U
  try clear z4d
  try clear z4e
  try clear z5V
  obtain ⟨x1_1, x2_1, rfl, rfl, HA, HK1, y0i, HB⟩ := hrel
  cases gk with
  | zero => exact absurd HA.out (by simp [z1k.l0])
  | succ k1 =>
   have H := HA.out
   clear HA
   simp only [z1k.l0] at H
   by_cases c12 : x1_1 = x2_1
   ·rw [if_pos c12] at H
    have c12b0 : (x1_1 == x2_1) = true := beq_iff_eq.mpr c12
    have c12b1 : (x1_1 != x2_1) = false := bne_eq_false_iff_eq.mpr c12
    clear c12
    simp only [Option.some.injEq, Prod.mk.injEq] at H
    obtain ⟨rfl, rfl⟩ := H
    go_wp2
    go_ret2
    exact ⟨zr, zb⟩
   rw [if_neg c12] at H
   have c12b0 : (x1_1 == x2_1) = false := beq_eq_false_iff_ne.mpr c12
   have c12b1 : (x1_1 != x2_1) = true := bne_iff_ne.mpr c12
   by_cases c13 : x1_1 > x2_1
   ·rw [if_pos c13] at H
    have c13b0 : decide (x2_1 < x1_1) = true := decide_eq_true c13
    clear c13
    by_cases c14 : 0 ≤ x1_1
    rotate_left
    ·rw [if_neg c14] at H
     exact absurd H (by simp)
    rw [if_pos c14] at H
    have c14b0 : decide (0 ≤ x1_1) = true := decide_eq_true c14
    clear c14
    by_cases c15 : x1_1 < (l0_2.length : Int)
    rotate_left
    ·rw [if_neg c15] at H
     exact absurd H (by simp)
    rw [if_pos c15] at H
    have c15b0 : decide (x1_1 < (l0_2.length : Int)) = true := decide_eq_true c15
    clear c15
    have H' := z0a.mk H
    clear H
    obtain ⟨z5Y, z6y, z8t, z5Z, z6z, z8u⟩ := zc3 wr y0i.out
    have p313 : 0 ≤ (x1_1 : Int) := za
    have q313 : x1_1 < (l0_2.length : Int) := za
    obtain ⟨ad313, A313_2, c313_2, e313, x5G, x5H, x5I, x5J, x5K⟩ := z3e z3X.out x1_1 p313 q313
    cases e313
    replace x5G := zx HB x5G
    replace x5H := zx HB x5H
    replace x5I := zx HB x5I
    have HR313_2 := z0a.mk x5K
    have HC313_2 := z0a.mk x5J
    clear x5K x5J
    replace p313 := eq_true p313
    replace q313 := eq_true q313
    go_wp2
    go_roundg k1
    case measure => have := HK1.out; omega
    case rel => exact ⟨((z0s l0_2 x1_1).f1), (x2_1), ze, ze, H', ⟨by have := HK1.out; omega⟩, ⟨zk⟩, ⟨zb⟩⟩
   rw [if_neg c13] at H
   have c13b0 : decide (x2_1 < x1_1) = false := decide_eq_false c13
   clear c13
   by_cases c17 : 0 ≤ x2_1
   rotate_left
   ·rw [if_neg c17] at H
    exact absurd H (by simp)
   rw [if_pos c17] at H
   have c17b0 : decide (0 ≤ x2_1) = true := decide_eq_true c17
   clear c17
   by_cases c18 : x2_1 < (l0_2.length : Int)
   rotate_left
   ·rw [if_neg c18] at H
    exact absurd H (by simp)
   rw [if_pos c18] at H
   have c18b0 : decide (x2_1 < (l0_2.length : Int)) = true := decide_eq_true c18
   clear c18
   have H' := z0a.mk H
   clear H
   obtain ⟨z6A, z8e, z8f, z6B, z8g, z8h⟩ := zc3 wr y0i.out
   have p314 : 0 ≤ (x2_1 : Int) := za
   have q314 : x2_1 < (l0_2.length : Int) := za
   obtain ⟨ad314, A314_2, c314_2, e314, x5L, x5M, x5N, x5O, x5P⟩ := z3e z3X.out x2_1 p314 q314
   cases e314
   replace x5L := zx HB x5L
   replace x5M := zx HB x5M
   replace x5N := zx HB x5N
   have HR314_2 := z0a.mk x5P
   have HC314_2 := z0a.mk x5O
   clear x5P x5O
   replace p314 := eq_true p314
   replace q314 := eq_true q314
   go_wp2
   go_roundg k1
   case measure => have := HK1.out; omega
   case rel => exact ⟨(x1_1), ((z0s l0_2 x2_1).f1), ze, ze, H', ⟨by have := HK1.out; omega⟩, ⟨zk⟩, ⟨zb⟩⟩
mutual
def z0l.j0 : Nat → Int → Int → Int → List ByteArray → List (z1J) → List (S81) → Option (Int × Int)
 | 0, _, _, _, _, _, _ => none
 | k + 1, x1, x2, x8, x5Q, x5R, x5S => if x8 = 0 then ((z0w.f k x5Q x5R x5S x1).bind fun t318 => ((z0w.f k x5Q x5R x5S x2).bind fun t321 => (z0l.l0 k t318 t321 0 0))) else (some (0, x8))
def z0l.l0 : Nat → List Int → List Int → Int → Int → Option (Int × Int)
 | 0, _, _, _, _ => none
 | k + 1, x9, x10, x11, x12 => if x12 < (x9.length : Int) then (z0l.j2 k x9 x10 x11 x12 (decide (x12 < (x10.length : Int)))) else (z0l.j2 k x9 x10 x11 x12 false)
def z0l.j2 : Nat → List Int → List Int → Int → Int → Bool → Option (Int × Int)
 | 0, _, _, _, _, _ => none
 | k + 1, x9, x10, x11, x12, x39 => if x39 = true then (if 0 ≤ x12 then (if x12 < (x9.length : Int) then (if x12 < (x10.length : Int) then (if (rd x9 x12) = (rd x10 x12) then (z0l.l0 k x9 x10 (rd x9 x12) (wrap64 (x12 + 1))) else (z0l.l0 k x9 x10 x11 (wrap64 (x12 + 1)))) else (none)) else (none)) else (none)) else (some (x11, 0))
end
def z0l.f (k : Nat) (l0_0 : List ByteArray) (l0_1 : List (z1J)) (l0_2 : List (S81)) (a1 : Int) (a2 : Int) : Option (Int × Int) := (z0I.f k l0_0 l0_1 l0_2 a1).bind fun t316 => (if t316 = 0 then ((z0I.f k l0_0 l0_1 l0_2 a2).bind fun t317 => (z0l.j0 k a1 a2 t317 l0_0 l0_1 l0_2)) else (z0l.j0 k a1 a2 t316 l0_0 l0_1 l0_2))
theorem z0l.z1t : ∀ k, (∀ y0 y1 y2 y3 y4 y5, LeO (z0l.j0 k y0 y1 y2 y3 y4 y5) (z0l.j0 (k + 1) y0 y1 y2 y3 y4 y5)) ∧ (∀ y0 y1 y2 y3, LeO (z0l.l0 k y0 y1 y2 y3) (z0l.l0 (k + 1) y0 y1 y2 y3)) ∧ (∀ y0 y1 y2 y3 y4, LeO (z0l.j2 k y0 y1 y2 y3 y4) (z0l.j2 (k + 1) y0 y1 y2 y3 y4))
 | 0 => ⟨fun _ _ _ _ _ _ r h => by simp [z0l.j0] at h, fun _ _ _ _ r h => by simp [z0l.l0] at h, fun _ _ _ _ _ r h => by simp [z0l.j2] at h⟩
 | k + 1 => by
  obtain ⟨ih0, ih1, ih2⟩ := z0l.z1t k
  refine ⟨?_, ?_, ?_⟩
  ·intro y0 y1 y2 y3 y4 y5
   unfold z0l.j0
   repeat' first
   | (with_reducible exact ih0 _ _ _ _ _ _)
   | (with_reducible exact ih1 _ _ _ _)
   | (with_reducible exact ih2 _ _ _ _ _)
   | (with_reducible exact z0w.mono _ _ _ _ _)
   | (with_reducible exact z0I.mono _ _ _ _ _)
   | (with_reducible exact LeO.refl _)
   | (with_reducible exact LeO.none _)
   | (with_reducible refine LeO.ite ?_ ?_)
   | (with_reducible refine LeO.bind ?_ (fun _ => ?_))
  ·intro y0 y1 y2 y3
   unfold z0l.l0
   repeat' first
   | (with_reducible exact ih0 _ _ _ _ _ _)
   | (with_reducible exact ih1 _ _ _ _)
   | (with_reducible exact ih2 _ _ _ _ _)
   | (with_reducible exact z0w.mono _ _ _ _ _)
   | (with_reducible exact z0I.mono _ _ _ _ _)
   | (with_reducible exact LeO.refl _)
   | (with_reducible exact LeO.none _)
   | (with_reducible refine LeO.ite ?_ ?_)
   | (with_reducible refine LeO.bind ?_ (fun _ => ?_))
  ·intro y0 y1 y2 y3 y4
   unfold z0l.j2
   repeat' first
   | (with_reducible exact ih0 _ _ _ _ _ _)
   | (with_reducible exact ih1 _ _ _ _)
   | (with_reducible exact ih2 _ _ _ _ _)
   | (with_reducible exact z0w.mono _ _ _ _ _)
   | (with_reducible exact z0I.mono _ _ _ _ _)
   | (with_reducible exact LeO.refl _)
   | (with_reducible exact LeO.none _)
   | (with_reducible refine LeO.ite ?_ ?_)
   | (with_reducible refine LeO.bind ?_ (fun _ => ?_))
theorem z0l.mono : ∀ a0 a1 a2 a3 a4 k, LeO (z0l.f k a0 a1 a2 a3 a4) (z0l.f (k + 1) a0 a1 a2 a3 a4) := by
 intro a0 a1 a2 a3 a4 k
 obtain ⟨ih0, ih1, ih2⟩ := z0l.z1t k
 unfold z0l.f
 repeat' first
   | (with_reducible exact ih0 _ _ _ _ _ _)
   | (with_reducible exact ih1 _ _ _ _)
   | (with_reducible exact ih2 _ _ _ _ _)
   | (with_reducible exact z0w.mono _ _ _ _ _)
   | (with_reducible exact z0I.mono _ _ _ _ _)
   | (with_reducible exact LeO.refl _)
   | (with_reducible exact LeO.none _)
   | (with_reducible refine LeO.ite ?_ ?_)
   | (with_reducible refine LeO.bind ?_ (fun _ => ?_))
set_option maxHeartbeats 8000000 in
set_option maxRecDepth 100000 in
theorem z0l.calls (k : Nat) (z0U : Option Addr) (c0_0 : Nat) (l0_0 : List ByteArray) (z0X : Option Addr) (c0_1 : Nat) (l0_1 : List (z1J)) (z2c : Option Addr) (c0_2 : Nat) (l0_2 : List (S81)) (a1 : Int) (a2 : Int) (r1 : Int) (r2 : Int) (w : World) (hr0_0 : Kd.C Kd.string w z0U l0_0.length l0_0) (hc0_0 : l0_0.length ≤ c0_0) (hr0_1 : Kd.C z5a w z0X l0_1.length l0_1) (hc0_1 : l0_1.length ≤ c0_1) (hr0_2 : Kd.C k81 w z2c l0_2.length l0_2) (hc0_2 : l0_2.length ≤ c0_2) (h : z0l.f k l0_0 l0_1 l0_2 a1 a2 = some (r1, r2)) :
  Calls Tryz.prog 15 #[.agg #[.slice z0U l0_0.length c0_0, .slice z0X l0_1.length c0_1, .slice z2c l0_2.length c0_2], .int .i64 a1, .int .i64 a2] w fun e w' => e = .returned (.tuple #[.int .i64 r1, .int .i64 r2]) ∧ Below w.heap.size w w' := by
 have hu28 := Tryz.underlying28
 have z2g := z0a.mk hr0_0
 have z1g := z0a.mk hc0_0
 clear hr0_0 hc0_0
 have z2x := z0a.mk hr0_1
 have z1j := z0a.mk hc0_1
 clear hr0_1 hc0_1
 have z3X := z0a.mk hr0_2
 have z2T := z0a.mk hc0_2
 clear hr0_2 hc0_2
 have HB := z0a.mk (Below.refl w.heap.size w)
 have H : ((z0I.f k l0_0 l0_1 l0_2 a1).bind fun t316 => (if t316 = 0 then ((z0I.f k l0_0 l0_1 l0_2 a2).bind fun t317 => (z0l.j0 k a1 a2 t317 l0_0 l0_1 l0_2)) else (z0l.j0 k a1 a2 t316 l0_0 l0_1 l0_2))) = some (r1, r2) := h
 clear h
 replace H := Option.bind_eq_some_iff.mp H
 obtain ⟨t316, A40, H⟩ := H
 replace H : (if t316 = 0 then ((z0I.f k l0_0 l0_1 l0_2 a2).bind fun t317 => (z0l.j0 k a1 a2 t317 l0_0 l0_1 l0_2)) else (z0l.j0 k a1 a2 t316 l0_0 l0_1 l0_2)) = some (r1, r2) := H
 have A4 := z0a.mk A40
 clear A40
 have HC5 := z0a.mk H
 clear H
 go_enter Tryz.func15, Tryz.ntmps15
 go_upto_if 17 with (first | ((with_reducible refine z0o (N := 3) rfl ?_); refine zo (cs := #[.slice z0U l0_0.length c0_0, .slice z0X l0_1.length c0_1, .slice z2c l0_2.length c0_2]) (t := 28) ?_; intro y9O hg w6 hbox hb; have z3C := z0a.mk hbox; have w3o := zG HB hg; have w3p := zG HB hg; replace HB := zB HB hb; clear hb hbox hg; obtain ⟨z4b, z4c, z5U, z4d, z4e, z5V⟩ := zc3 w6 z3C.out) | (go_at_call 54; (with_reducible refine (z0I.calls k _ _ l0_0 _ _ l0_1 _ _ l0_2 a1 t316 _ ?z0M z1g.out ?z0Q z1j.out ?z1z z2T.out A4.out).mono ?_); (case z0M => exact zs); (case z0Q => exact zs); (case z1z => exact zs); rintro e w8 ⟨rfl, hb⟩; replace z3C := zK z3C hb; replace HB := zB HB hb; (try clear hb)))
 repeat (go_quiet (first | ((with_reducible refine z0o (N := 3) rfl ?_); refine zo (cs := #[.slice z0U l0_0.length c0_0, .slice z0X l0_1.length c0_1, .slice z2c l0_2.length c0_2]) (t := 28) ?_; intro y9O hg w6 hbox hb; have z3C := z0a.mk hbox; have w3o := zG HB hg; have w3p := zG HB hg; replace HB := zB HB hb; clear hb hbox hg; obtain ⟨z4b, z4c, z5U, z4d, z4e, z5V⟩ := zc3 w6 z3C.out) | (go_at_call 54; (with_reducible refine (z0I.calls k _ _ l0_0 _ _ l0_1 _ _ l0_2 a1 t316 _ ?z0M z1g.out ?z0Q z1j.out ?z1z z2T.out A4.out).mono ?_); (case z0M => exact zs); (case z0Q => exact zs); (case z1z => exact zs); rintro e w8 ⟨rfl, hb⟩; replace z3C := zK z3C hb; replace HB := zB HB hb; (try clear hb))); go_upto_if 17 with (first | ((with_reducible refine z0o (N := 3) rfl ?_); refine zo (cs := #[.slice z0U l0_0.length c0_0, .slice z0X l0_1.length c0_1, .slice z2c l0_2.length c0_2]) (t := 28) ?_; intro y9O hg w6 hbox hb; have z3C := z0a.mk hbox; have w3o := zG HB hg; have w3p := zG HB hg; replace HB := zB HB hb; clear hb hbox hg; obtain ⟨z4b, z4c, z5U, z4d, z4e, z5V⟩ := zc3 w6 z3C.out) | (go_at_call 54; (with_reducible refine (z0I.calls k _ _ l0_0 _ _ l0_1 _ _ l0_2 a1 t316 _ ?z0M z1g.out ?z0Q z1j.out ?z1z z2T.out A4.out).mono ?_); (case z0M => exact zs); (case z0Q => exact zs); (case z1z => exact zs); rintro e w8 ⟨rfl, hb⟩; replace z3C := zK z3C hb; replace HB := zB HB hb; (try clear hb))))
 (try simp only [Act.put, List.setIfInBounds_toArray, List.set_cons_zero, List.set_cons_succ])
 go_cut [8] (fun v8 wc => ∃ (kq : Nat) (x8_4 : Int), v8 = .int .i64 x8_4 ∧ z0a (z0l.j0 kq a1 a2 x8_4 l0_0 l0_1 l0_2 = some (r1, r2)) ∧ z0a (kq ≤ k) ∧ z0a (wc.heap[y9O]? = some (.cells #[(.slice z0U l0_0.length c0_0), (.slice z0X l0_1.length c0_1), (.slice z2c l0_2.length c0_2)] 28 (0, 0))) ∧ z0a (Below w.heap.size w wc))
 case first =>
  have H := HC5.out
  clear HC5
  by_cases c9 : t316 = 0
  rotate_left
  ·rw [if_neg c9] at H
   have c9b0 : (t316 == 0) = false := beq_eq_false_iff_ne.mpr c9
   have c9b1 : (t316 != 0) = true := bne_iff_ne.mpr c9
   (first | rw [c9b0] | (simp only [z0V, z0W]; rw [c9b0]) | skip)
   have H' := z0a.mk H
   clear H
   go_wp2
   repeat (go_quiet (fail); try go_wp2)
   go_meet
   case rel => exact ⟨_, (t316), ze, H', ⟨zl⟩, ⟨zk⟩, ⟨zb⟩⟩
  rw [if_pos c9] at H
  have c9b0 : (t316 == 0) = true := beq_iff_eq.mpr c9
  have c9b1 : (t316 != 0) = false := bne_eq_false_iff_eq.mpr c9
  clear c9
  (first | rw [c9b0] | (simp only [z0V, z0W]; rw [c9b0]) | skip)
  replace H := Option.bind_eq_some_iff.mp H
  obtain ⟨t317, A100, H⟩ := H
  replace H : (z0l.j0 k a1 a2 t317 l0_0 l0_1 l0_2) = some (r1, r2) := H
  have A10 := z0a.mk A100
  clear A100
  have H' := z0a.mk H
  clear H
  obtain ⟨z3M, z6J, z6K, z3N, z6L, z6M⟩ := zc3 w8 z3C.out
  go_wp2_with (first | (go_at_call 54; (with_reducible refine (z0I.calls k _ _ l0_0 _ _ l0_1 _ _ l0_2 a2 t317 _ ?z0M z1g.out ?z0Q z1j.out ?z1z z2T.out A10.out).mono ?_); (case z0M => exact zs); (case z0Q => exact zs); (case z1z => exact zs); rintro e w12 ⟨rfl, hb⟩; replace z3C := zK z3C hb; replace HB := zB HB hb; (try clear hb)))
  repeat (go_quiet (first | (go_at_call 54; (with_reducible refine (z0I.calls k _ _ l0_0 _ _ l0_1 _ _ l0_2 a2 t317 _ ?z0M z1g.out ?z0Q z1j.out ?z1z z2T.out A10.out).mono ?_); (case z0M => exact zs); (case z0Q => exact zs); (case z1z => exact zs); rintro e w12 ⟨rfl, hb⟩; have n0_ := z0a.mk (z0O (g := y9O) (o := .cells #[.slice z0U l0_0.length c0_0, .slice z0X l0_1.length c0_1, .slice z2c l0_2.length c0_2] 28 (0, 0)) zk hb); have n1_ := z0a.mk (z2X zb hb); clear z3C; clear HB; have z3C := n0_; have HB := n1_; clear n0_ n1_; (try clear hb); (try clear hb2); (try clear hk); (try clear hi))); try go_wp2_with (first | (go_at_call 54; (with_reducible refine (z0I.calls k _ _ l0_0 _ _ l0_1 _ _ l0_2 a2 t317 _ ?z0M z1g.out ?z0Q z1j.out ?z1z z2T.out A10.out).mono ?_); (case z0M => exact zs); (case z0Q => exact zs); (case z1z => exact zs); rintro e w12 ⟨rfl, hb⟩; have n0_ := z0a.mk (z0O (g := y9O) (o := .cells #[.slice z0U l0_0.length c0_0, .slice z0X l0_1.length c0_1, .slice z2c l0_2.length c0_2] 28 (0, 0)) zk hb); have n1_ := z0a.mk (z2X zb hb); clear z3C; clear HB; have z3C := n0_; have HB := n1_; clear n0_ n1_; (try clear hb); (try clear hb2); (try clear hk); (try clear hi))))
  go_meet
  case rel => exact ⟨_, (t317), ze, H', ⟨zl⟩, ⟨zk⟩, ⟨zb⟩⟩
 case rest =>
  clear HC5
  try clear z4b
  try clear z4c
  try clear z5U
  try clear z4d
  try clear z4e
  try clear z5V
  obtain ⟨kq, x8_4, rfl, HA, HJ4, z3C, HB⟩ := hcut
  cases kq with
  | zero => exact absurd HA.out (by simp [z0l.j0])
  | succ kj4 =>
   have H := HA.out
   clear HA
   simp only [z0l.j0] at H
   by_cases c13 : x8_4 = 0
   rotate_left
   ·rw [if_neg c13] at H
    have c13b0 : (x8_4 == 0) = false := beq_eq_false_iff_ne.mpr c13
    have c13b1 : (x8_4 != 0) = true := bne_iff_ne.mpr c13
    simp only [Option.some.injEq, Prod.mk.injEq] at H
    obtain ⟨rfl, rfl⟩ := H
    go_wp2
    repeat (go_quiet (fail); try go_wp2)
    go_ret2
    exact ⟨zr, zb⟩
   rw [if_pos c13] at H
   have c13b0 : (x8_4 == 0) = true := beq_iff_eq.mpr c13
   have c13b1 : (x8_4 != 0) = false := bne_eq_false_iff_eq.mpr c13
   clear c13
   replace H := Option.bind_eq_some_iff.mp H
   obtain ⟨t318, A140, H⟩ := H
   replace H : ((z0w.f kj4 l0_0 l0_1 l0_2 a2).bind fun t321 => (z0l.l0 kj4 t318 t321 0 0)) = some (r1, r2) := H
   have A14 := z0a.mk A140
   clear A140
   replace H := Option.bind_eq_some_iff.mp H
   obtain ⟨t321, A150, H⟩ := H
   replace H : (z0l.l0 kj4 t318 t321 0 0) = some (r1, r2) := H
   have A15 := z0a.mk A150
   clear A150
   have H' := z0a.mk H
   clear H
   obtain ⟨z5Y, z6y, z8t, z5Z, z6z, z8u⟩ := zc3 wc z3C.out
   go_wp2_with (first | (go_at_call 55; (with_reducible refine (z0w.calls kj4 _ _ l0_0 _ _ l0_1 _ _ l0_2 a1 t318 _ ?z0M z1g.out ?z0Q z1j.out ?z1z z2T.out A14.out).mono ?_); (case z0M => exact zs); (case z0Q => exact zs); (case z1z => exact zs); rintro e w17 ⟨v319, rfl, ho0, hb⟩; have HO320 := z0a.mk (Kd.z2n ho0 (z1x zb)); replace z3C := zK z3C hb; replace HB := zB HB hb; (try clear hb); (try clear ho0); obtain ⟨z4j, z4k, z4y, z4l, z4m, z4z⟩ := zc3 w17 z3C.out) | (go_at_call 55; (with_reducible refine (z0w.calls kj4 _ _ l0_0 _ _ l0_1 _ _ l0_2 a2 t321 _ ?z0M z1g.out ?z0Q z1j.out ?z1z z2T.out A15.out).mono ?_); (case z0M => exact zs); (case z0Q => exact zs); (case z1z => exact zs); rintro e w19 ⟨v322, rfl, ho0, hb⟩; have HO323 := z0a.mk (Kd.z2n (Kd.x0p ho0 (Kd.w2j (by (with_reducible repeat (first | apply Kd.z0Z | apply Kd.z0Y | apply Kd.z1n)); exact HO320.out))) (z1x zb)); replace HO320 := z0a.mk (Kd.y1r (by (with_reducible repeat (first | apply Kd.z0Z | apply Kd.z0Y | apply Kd.z1n)); exact HO320.out) (Kd.y6G ho0) hb); replace z3C := zK z3C hb; replace HB := zB HB hb; (try clear hb); (try clear ho0)))
   repeat (go_quiet (first | (go_at_call 55; (with_reducible refine (z0w.calls kj4 _ _ l0_0 _ _ l0_1 _ _ l0_2 a1 t318 _ ?z0M z1g.out ?z0Q z1j.out ?z1z z2T.out A14.out).mono ?_); (case z0M => exact zs); (case z0Q => exact zs); (case z1z => exact zs); rintro e w17 ⟨v319, rfl, ho0, hb⟩; have HO320 := z0a.mk (Kd.z2n ho0 (z1x zb)); replace z3C := zK z3C hb; replace HB := zB HB hb; (try clear hb); (try clear ho0); obtain ⟨z4j, z4k, z4y, z4l, z4m, z4z⟩ := zc3 w17 z3C.out) | (go_at_call 55; (with_reducible refine (z0w.calls kj4 _ _ l0_0 _ _ l0_1 _ _ l0_2 a2 t321 _ ?z0M z1g.out ?z0Q z1j.out ?z1z z2T.out A15.out).mono ?_); (case z0M => exact zs); (case z0Q => exact zs); (case z1z => exact zs); rintro e w19 ⟨v322, rfl, ho0, hb⟩; have HO323 := z0a.mk (Kd.z2n (Kd.x0p ho0 (Kd.w2j (by (with_reducible repeat (first | apply Kd.z0Z | apply Kd.z0Y | apply Kd.z1n)); exact HO320.out))) (z1x zb)); replace HO320 := z0a.mk (Kd.y1r (by (with_reducible repeat (first | apply Kd.z0Z | apply Kd.z0Y | apply Kd.z1n)); exact HO320.out) (Kd.y6G ho0) hb); replace z3C := zK z3C hb; replace HB := zB HB hb; (try clear hb); (try clear ho0))); try go_wp2_with (first | (go_at_call 55; (with_reducible refine (z0w.calls kj4 _ _ l0_0 _ _ l0_1 _ _ l0_2 a1 t318 _ ?z0M z1g.out ?z0Q z1j.out ?z1z z2T.out A14.out).mono ?_); (case z0M => exact zs); (case z0Q => exact zs); (case z1z => exact zs); rintro e w17 ⟨v319, rfl, ho0, hb⟩; have HO320 := z0a.mk (Kd.z2n ho0 (z1x zb)); replace z3C := zK z3C hb; replace HB := zB HB hb; (try clear hb); (try clear ho0); obtain ⟨z4j, z4k, z4y, z4l, z4m, z4z⟩ := zc3 w17 z3C.out) | (go_at_call 55; (with_reducible refine (z0w.calls kj4 _ _ l0_0 _ _ l0_1 _ _ l0_2 a2 t321 _ ?z0M z1g.out ?z0Q z1j.out ?z1z z2T.out A15.out).mono ?_); (case z0M => exact zs); (case z0Q => exact zs); (case z1z => exact zs); rintro e w19 ⟨v322, rfl, ho0, hb⟩; have HO323 := z0a.mk (Kd.z2n (Kd.x0p ho0 (Kd.w2j (by (with_reducible repeat (first | apply Kd.z0Z | apply Kd.z0Y | apply Kd.z1n)); exact HO320.out))) (z1x zb)); replace HO320 := z0a.mk (Kd.y1r (by (with_reducible repeat (first | apply Kd.z0Z | apply Kd.z0Y | apply Kd.z1n)); exact HO320.out) (Kd.y6G ho0) hb); replace z3C := zK z3C hb; replace HB := zB HB hb; (try clear hb); (try clear ho0))))
   go_loopg [11, 12] kj4 (fun kq v11 v12 w' => ∃ (x11_2 : Int) (x12_2 : Int), v11 = .int .i64 x11_2 ∧ v12 = .int .i64 x12_2 ∧ z0a (z0l.l0 kq t318 t321 x11_2 x12_2 = some (r1, r2)) ∧ z0a (kq ≤ kj4) ∧ z0a (Kd.R (Kd.int .i64) 3 w' w.heap.size (fun k_ => some k_ ≠ (v322 : Value).ownBlock) v319 t318) ∧ z0a (Kd.R (Kd.int .i64) 3 w' w.heap.size (fun k_ => some k_ ≠ (v319 : Value).ownBlock) v322 t321) ∧ z0a (w'.heap[y9O]? = some (.cells #[(.slice z0U l0_0.length c0_0), (.slice z0X l0_1.length c0_1), (.slice z2c l0_2.length c0_2)] 28 (0, 0))) ∧ z0a (Below w.heap.size w w'))
   case atStart => exact ⟨(0), (0), ze, ze, H', ⟨Nat.le_refl _⟩, ⟨by (with_reducible repeat (first | apply Kd.z0Z | apply Kd.z0Y | apply Kd.z1n)); exact Kd.z3D HO320.out (fun _ hk => hk.2)⟩, ⟨by (with_reducible repeat (first | apply Kd.z0Z | apply Kd.z0Y | apply Kd.z1n)); exact Kd.z3D HO323.out (fun _ hk => hk.2)⟩, ⟨zk⟩, ⟨zb⟩⟩
   case round =>
    clear H'
    try clear c13
    try clear c13b0
    try clear c13b1
    try clear z5Y
    try clear z6y
    try clear z8t
    try clear z4j
    try clear z4k
    try clear z4y
    try clear z4b
    try clear z4c
    try clear z5U
    try clear z5Z
    try clear z6z
    try clear z8u
    try clear z4l
    try clear z4m
    try clear z4z
    try clear z4d
    try clear z4e
    try clear z5V
    obtain ⟨x11_2, x12_2, rfl, rfl, HA, HK2, HO_9, HO_10, z3C, HB⟩ := hrel
    cases gk with
    | zero => exact absurd HA.out (by simp [z0l.l0])
    | succ k2 =>
     have H := HA.out
     clear HA
     simp only [z0l.l0] at H
     have HC20 := z0a.mk H
     clear H
     go_upto_region 10 with (fail)
     repeat (go_quiet (fail); go_upto_region 10 with (fail))
     go_cut [39] (fun v39 wc => ∃ (kq : Nat) (x39_19 : Bool), v39 = .bool x39_19 ∧ z0a (z0l.j2 kq t318 t321 x11_2 x12_2 x39_19 = some (r1, r2)) ∧ z0a (kq ≤ k2) ∧ z0a (Kd.R (Kd.int .i64) 3 wc w.heap.size (fun k_ => some k_ ≠ (v322 : Value).ownBlock) v319 t318) ∧ z0a (Kd.R (Kd.int .i64) 3 wc w.heap.size (fun k_ => some k_ ≠ (v319 : Value).ownBlock) v322 t321) ∧ z0a (wc.heap[y9O]? = some (.cells #[(.slice z0U l0_0.length c0_0), (.slice z0X l0_1.length c0_1), (.slice z2c l0_2.length c0_2)] 28 (0, 0))) ∧ z0a (Below w.heap.size w wc))
     case first =>
      have H := HC20.out
      clear HC20
      by_cases c21 : x12_2 < (t318.length : Int)
      rotate_left
      ·rw [if_neg c21] at H
       have c21b0 : decide (x12_2 < (t318.length : Int)) = false := decide_eq_false c21
       clear c21
       (first | rw [c21b0] | (simp only [z0V, z0W]; rw [c21b0]) | skip)
       have H' := z0a.mk H
       clear H
       obtain ⟨Ao24, co24, eo24⟩ := Kd.z2q HO_9.out
       subst eo24
       go_wp2
       repeat (go_quiet (fail); try go_wp2)
       go_meet
       case rel => exact ⟨_, (false), ze, H', ⟨by have := HJ4.out; have := HK2.out; first | omega | exact Nat.le_refl _⟩, ⟨by (with_reducible repeat (first | apply Kd.z0Z | apply Kd.z0Y | apply Kd.z1n)); exact HO_9.out⟩, ⟨by (with_reducible repeat (first | apply Kd.z0Z | apply Kd.z0Y | apply Kd.z1n)); exact HO_10.out⟩, ⟨zk⟩, ⟨zb⟩⟩
      rw [if_pos c21] at H
      have c21b0 : decide (x12_2 < (t318.length : Int)) = true := decide_eq_true c21
      clear c21
      (first | rw [c21b0] | (simp only [z0V, z0W]; rw [c21b0]) | skip)
      have H' := z0a.mk H
      clear H
      obtain ⟨Ao22, co22, eo22⟩ := Kd.z2q HO_9.out
      subst eo22
      obtain ⟨Ao23, co23, eo23⟩ := Kd.z2q HO_10.out
      subst eo23
      go_wp2
      repeat (go_quiet (fail); try go_wp2)
      go_meet
      case rel => exact ⟨_, (decide (x12_2 < (t321.length : Int))), ze, H', ⟨by have := HJ4.out; have := HK2.out; first | omega | exact Nat.le_refl _⟩, ⟨by (with_reducible repeat (first | apply Kd.z0Z | apply Kd.z0Y | apply Kd.z1n)); exact HO_9.out⟩, ⟨by (with_reducible repeat (first | apply Kd.z0Z | apply Kd.z0Y | apply Kd.z1n)); exact HO_10.out⟩, ⟨zk⟩, ⟨zb⟩⟩
     case rest =>
      clear HC20
      try clear c13
      try clear c13b0
      try clear c13b1
      try clear z5Y
      try clear z6y
      try clear z8t
      try clear z4j
      try clear z4k
      try clear z4y
      try clear z4b
      try clear z4c
      try clear z5U
      try clear z5Z
      try clear z6z
      try clear z8u
      try clear z4l
      try clear z4m
      try clear z4z
      try clear z4d
      try clear z4e
      try clear z5V
      obtain ⟨kq, x39_19, rfl, HA, HJ19, HO_9, HO_10, z3C, HB⟩ := hcut
      cases kq with
      | zero => exact absurd HA.out (by simp [z0l.j2])
      | succ kj19 =>
       have H := HA.out
       clear HA
       simp only [z0l.j2] at H
       by_cases c25 : x39_19 = true
       rotate_left
       ·replace c25 := Bool.eq_false_iff.mpr c25
        subst c25
        have H1 : (some (x11_2, 0)) = some (r1, r2) := by rw [if_neg (show ¬ (false = true) by decide)] at H; exact H
        clear H
        have H := H1
        clear H1
        simp only [Option.some.injEq, Prod.mk.injEq] at H
        obtain ⟨rfl, rfl⟩ := H
        go_wp2
        repeat (go_quiet (fail); try go_wp2)
        go_ret2
        exact ⟨zr, zb⟩
       subst c25
       have H1 : (if 0 ≤ x12_2 then (if x12_2 < (t318.length : Int) then (if x12_2 < (t321.length : Int) then (if (rd t318 x12_2) = (rd t321 x12_2) then (z0l.l0 kj19 t318 t321 (rd t318 x12_2) (wrap64 (x12_2 + 1))) else (z0l.l0 kj19 t318 t321 x11_2 (wrap64 (x12_2 + 1)))) else (none)) else (none)) else (none)) = some (r1, r2) := by rw [if_pos rfl] at H; exact H
       clear H
       have H := H1
       clear H1
       by_cases c26 : 0 ≤ x12_2
       rotate_left
       ·rw [if_neg c26] at H
        exact absurd H (by simp)
       rw [if_pos c26] at H
       have c26b0 : decide (0 ≤ x12_2) = true := decide_eq_true c26
       clear c26
       by_cases c27 : x12_2 < (t318.length : Int)
       rotate_left
       ·rw [if_neg c27] at H
        exact absurd H (by simp)
       rw [if_pos c27] at H
       have c27b0 : decide (x12_2 < (t318.length : Int)) = true := decide_eq_true c27
       clear c27
       by_cases c28 : x12_2 < (t321.length : Int)
       rotate_left
       ·rw [if_neg c28] at H
        exact absurd H (by simp)
       rw [if_pos c28] at H
       have c28b0 : decide (x12_2 < (t321.length : Int)) = true := decide_eq_true c28
       clear c28
       by_cases c29 : (rd t318 x12_2) = (rd t321 x12_2)
       rotate_left
       ·rw [if_neg c29] at H
        have c29b0 : ((rd t318 x12_2) == (rd t321 x12_2)) = false := beq_eq_false_iff_ne.mpr c29
        have c29b1 : ((rd t318 x12_2) != (rd t321 x12_2)) = true := bne_iff_ne.mpr c29
        have H' := z0a.mk H
        clear H
        obtain ⟨Ao32, co32, eo32⟩ := Kd.z2q HO_9.out
        subst eo32
        have p324 : 0 ≤ (x12_2 : Int) := za
        have q324 : x12_2 < (t318.length : Int) := za
        obtain ⟨ad324, e324, w1Q⟩ := Kd.z3d (Kd.z1K HO_9.out).2.2 x12_2 p324 q324
        cases e324
        replace p324 := eq_true p324
        replace q324 := eq_true q324
        obtain ⟨Ao33, co33, eo33⟩ := Kd.z2q HO_10.out
        subst eo33
        have p325 : 0 ≤ (x12_2 : Int) := za
        have q325 : x12_2 < (t321.length : Int) := za
        obtain ⟨ad325, e325, w1R⟩ := Kd.z3d (Kd.z1K HO_10.out).2.2 x12_2 p325 q325
        cases e325
        replace p325 := eq_true p325
        replace q325 := eq_true q325
        go_wp2
        repeat (go_quiet (fail); try go_wp2)
        go_roundg kj19
        case measure => have := HJ4.out; have := HK2.out; have := HJ19.out; omega
        case rel => exact ⟨(x11_2), (wrap64 (x12_2 + 1)), ze, ze, H', ⟨by have := HJ4.out; have := HK2.out; have := HJ19.out; omega⟩, ⟨by (with_reducible repeat (first | apply Kd.z0Z | apply Kd.z0Y | apply Kd.z1n)); exact HO_9.out⟩, ⟨by (with_reducible repeat (first | apply Kd.z0Z | apply Kd.z0Y | apply Kd.z1n)); exact HO_10.out⟩, ⟨zk⟩, ⟨zb⟩⟩
       rw [if_pos c29] at H
       have c29b0 : ((rd t318 x12_2) == (rd t321 x12_2)) = true := beq_iff_eq.mpr c29
       have c29b1 : ((rd t318 x12_2) != (rd t321 x12_2)) = false := bne_eq_false_iff_eq.mpr c29
       clear c29
       have H' := z0a.mk H
       clear H
       obtain ⟨Ao30, co30, eo30⟩ := Kd.z2q HO_9.out
       subst eo30
       have p324 : 0 ≤ (x12_2 : Int) := za
       have q324 : x12_2 < (t318.length : Int) := za
       obtain ⟨ad324, e324, w1Q⟩ := Kd.z3d (Kd.z1K HO_9.out).2.2 x12_2 p324 q324
       cases e324
       replace p324 := eq_true p324
       replace q324 := eq_true q324
       obtain ⟨Ao31, co31, eo31⟩ := Kd.z2q HO_10.out
       subst eo31
       have p325 : 0 ≤ (x12_2 : Int) := za
       have q325 : x12_2 < (t321.length : Int) := za
       obtain ⟨ad325, e325, w1R⟩ := Kd.z3d (Kd.z1K HO_10.out).2.2 x12_2 p325 q325
       cases e325
       replace p325 := eq_true p325
       replace q325 := eq_true q325
       have p326 : 0 ≤ (x12_2 : Int) := za
       have q326 : x12_2 < (t318.length : Int) := za
       obtain ⟨ad326, e326, hx326_0⟩ := Kd.z3d (Kd.z1K HO_9.out).2.2 x12_2 p326 q326
       obtain rfl : ad324 = ad326 := (by injection e326)
       replace p326 := eq_true p326
       replace q326 := eq_true q326
       go_wp2
       repeat (go_quiet (fail); try go_wp2)
       go_roundg kj19
       case measure => have := HJ4.out; have := HK2.out; have := HJ19.out; omega
       case rel => exact ⟨(rd t318 x12_2), (wrap64 (x12_2 + 1)), ze, ze, H', ⟨by have := HJ4.out; have := HK2.out; have := HJ19.out; omega⟩, ⟨by (with_reducible repeat (first | apply Kd.z0Z | apply Kd.z0Y | apply Kd.z1n)); exact HO_9.out⟩, ⟨by (with_reducible repeat (first | apply Kd.z0Z | apply Kd.z0Y | apply Kd.z1n)); exact HO_10.out⟩, ⟨zk⟩, ⟨zb⟩⟩
def z0E.l0 : Nat → List (S51) → List Int → Int → List ByteArray → List (z1J) → List (S81) → Option ((List (S51)) × Int)
 | 0, _, _, _, _, _, _ => none
 | k + 1, x7, x8, x9, w1S, w1T, y6r => if x9 < (x8.length : Int) then (if 0 ≤ x9 then (if 0 ≤ (rd x8 x9) then (if (rd x8 x9) < (y6r.length : Int) then (if x7.length + ((z0s y6r (rd x8 x9)).f2).length < 1172812402961 then (z0E.l0 k (x7 ++ ((z0s y6r (rd x8 x9)).f2)) x8 (wrap64 (x9 + 1)) w1S w1T y6r) else (none)) else (none)) else (none)) else (none)) else (some (x7, 0))
def z0E.f (k : Nat) (l0_0 : List ByteArray) (l0_1 : List (z1J)) (l0_2 : List (S81)) (a1 : Int) : Option ((List (S51)) × Int) := (z0I.f k l0_0 l0_1 l0_2 a1).bind fun t330 => (if t330 = 0 then ((z0w.f k l0_0 l0_1 l0_2 a1).bind fun t331 => (z0E.l0 k ([] : List (S51)) t331 0 l0_0 l0_1 l0_2)) else (some (([] : List (S51)), t330)))
theorem z0E.z1t : ∀ k, (∀ y0 y1 y2 y3 y4 y5, LeO (z0E.l0 k y0 y1 y2 y3 y4 y5) (z0E.l0 (k + 1) y0 y1 y2 y3 y4 y5))
 | 0 => fun _ _ _ _ _ _ r h => by simp [z0E.l0] at h
 | k + 1 => by
  have ih0 := z0E.z1t k
  ·intro y0 y1 y2 y3 y4 y5
   unfold z0E.l0
   repeat' first
   | (with_reducible exact ih0 _ _ _ _ _ _)
   | (with_reducible exact z0w.mono _ _ _ _ _)
   | (with_reducible exact z0I.mono _ _ _ _ _)
   | (with_reducible exact LeO.refl _)
   | (with_reducible exact LeO.none _)
   | (with_reducible refine LeO.ite ?_ ?_)
   | (with_reducible refine LeO.bind ?_ (fun _ => ?_))
theorem z0E.mono : ∀ a0 a1 a2 a3 k, LeO (z0E.f k a0 a1 a2 a3) (z0E.f (k + 1) a0 a1 a2 a3) := by
 intro a0 a1 a2 a3 k
 have ih0 := z0E.z1t k
 unfold z0E.f
 repeat' first
   | (with_reducible exact ih0 _ _ _ _ _ _)
   | (with_reducible exact z0w.mono _ _ _ _ _)
   | (with_reducible exact z0I.mono _ _ _ _ _)
   | (with_reducible exact LeO.refl _)
   | (with_reducible exact LeO.none _)
   | (with_reducible refine LeO.ite ?_ ?_)
   | (with_reducible refine LeO.bind ?_ (fun _ => ?_))
def z0E.T9 : Bool × List (List Nat × List Nat) := (true, [([], []), ([], []), ([1], [1]), ([], []), ([], []), ([3, 4], [3, 4]), ([5], [5]), ([2, 6], [2, 6]), ([7], [7]), ([8], [8]), ([0, 9], [0, 9]), ([10, 10, 0, 1, 2, 3, 4, 5, 6, 7, 8, 9, 10], [0, 10])])
def z0E.B9 : List Nat := [0, 0, 2, 0, 0, 24, 56, 126, 254, 510, 1023, 2047]
theorem z0E.tab9 : rtab .any (opsOf Tryz.f17 9) = z0E.T9 := by kernel_rfl
theorem z0E.bits9 : z5v z0E.T9.2 z0E.B9 = true := by kernel_rfl
set_option maxHeartbeats 8000000 in
set_option maxRecDepth 100000 in
theorem z0E.calls (k : Nat) (z0U : Option Addr) (c0_0 : Nat) (l0_0 : List ByteArray) (z0X : Option Addr) (c0_1 : Nat) (l0_1 : List (z1J)) (P0_2_ : Nat → Prop) (z2c : Option Addr) (c0_2 : Nat) (l0_2 : List (S81)) (a1 : Int) (r1 : List (S51)) (r2 : Int) (w : World) (hr0_0 : Kd.C Kd.string w z0U l0_0.length l0_0) (hc0_0 : l0_0.length ≤ c0_0) (hr0_1 : Kd.C z5a w z0X l0_1.length l0_1) (hc0_1 : l0_1.length ≤ c0_1) (hs0_2 : Kd.V k81 81 w w.heap.size (fun k_ => P0_2_ k_) (.slice z2c l0_2.length c0_2) l0_2) (h : z0E.f k l0_0 l0_1 l0_2 a1 = some (r1, r2)) :
  Calls Tryz.prog 17 #[.agg #[.slice z0U l0_0.length c0_0, .slice z0X l0_1.length c0_1, .slice z2c l0_2.length c0_2], .int .i64 a1] w fun e w' => ∃ v0_ : Value, e = .returned (.tuple #[v0_, .int .i64 r2]) ∧ Kd.N k51 51 w' w.heap.size (fun k_ => (P0_2_ k_ ∨ w.heap.size ≤ k_)) v0_ r1 ∧ Below w.heap.size w w' := by
 have hu28 := Tryz.underlying28
 have z2g := z0a.mk hr0_0
 have z1g := z0a.mk hc0_0
 clear hr0_0 hc0_0
 have z2x := z0a.mk hr0_1
 have z1j := z0a.mk hc0_1
 clear hr0_1 hc0_1
 have z8L := z0a.mk (show Kd.V k81 81 w w.heap.size (fun k_ => (P0_2_ k_ ∨ w.heap.size ≤ k_)) (.slice z2c l0_2.length c0_2) l0_2 from Kd.y4w hs0_2 (fun k_ hk => .inl hk))
 have HB := z0a.mk (Below.refl w.heap.size w)
 have H : ((z0I.f k l0_0 l0_1 l0_2 a1).bind fun t330 => (if t330 = 0 then ((z0w.f k l0_0 l0_1 l0_2 a1).bind fun t331 => (z0E.l0 k ([] : List (S51)) t331 0 l0_0 l0_1 l0_2)) else (some (([] : List (S51)), t330)))) = some (r1, r2) := h
 clear h
 replace H := Option.bind_eq_some_iff.mp H
 obtain ⟨t330, A30, H⟩ := H
 replace H : (if t330 = 0 then ((z0w.f k l0_0 l0_1 l0_2 a1).bind fun t331 => (z0E.l0 k ([] : List (S51)) t331 0 l0_0 l0_1 l0_2)) else (some (([] : List (S51)), t330))) = some (r1, r2) := H
 have A3 := z0a.mk A30
 clear A30
 by_cases c4 : t330 = 0
 rotate_left
 ·rw [if_neg c4] at H
  have c4b0 : (t330 == 0) = false := beq_eq_false_iff_ne.mpr c4
  have c4b1 : (t330 != 0) = true := bne_iff_ne.mpr c4
  simp only [Option.some.injEq, Prod.mk.injEq] at H
  obtain ⟨rfl, rfl⟩ := H
  go_enter Tryz.func17, Tryz.ntmps17
  go_wp2_with (first | ((with_reducible refine z0o (N := 2) rfl ?_); refine zo (cs := #[.slice z0U l0_0.length c0_0, .slice z0X l0_1.length c0_1, .slice z2c l0_2.length c0_2]) (t := 28) ?_; intro z8X hg w20 hbox hb; have z6j := z0a.mk hbox; have GW329 := zG HB hg; have w1U := zG HB hg; replace z8L := z0a.mk (Kd.y5b (Kd.x0w (by (with_reducible repeat (first | apply Kd.z6w | apply Kd.z6x | apply Kd.z9a)); exact z8L.out) z8X (Nat.le_of_eq hg.symm)) hb); replace HB := zB HB hb; clear hb hbox hg; obtain ⟨z9E, z9F, y3j, z9G, z9H, y3k⟩ := zc3 w20 z6j.out) | ((with_reducible refine z0m (f := 54) rfl ?_); refine z1a (some 12) rfl rfl Tryz.func54 (by kernel_rfl) rfl #[.agg #[.slice z0U l0_0.length c0_0, .slice z0X l0_1.length c0_1, .slice z2c l0_2.length c0_2], .int .i64 a1] rfl zq ?_; (with_reducible refine (z0I.calls k _ _ l0_0 _ _ l0_1 _ _ l0_2 a1 t330 _ ?z0M z1g.out ?z0Q z1j.out ?z1z ?z6O A3.out).mono ?_); (case z0M => exact zs); (case z0Q => exact zs); (case z1z => repeat (first | exact (Kd.z5S z8L.out).2.2 | (with_reducible refine Kd.z3F ?_ _) | (with_reducible refine Kd.z3G ?_ _) | (with_reducible refine Kd.z3x ?_))); (case z6O => exact (Kd.z5S z8L.out).2.1); rintro e w22 ⟨rfl, hb⟩; refine ⟨_, rfl, ?_⟩; replace z8L := z0a.mk (Kd.y5b (by (with_reducible repeat (first | apply Kd.z6w | apply Kd.z6x | apply Kd.z9a)); exact z8L.out) hb); replace z6j := zK z6j hb; replace HB := zB HB hb; (try clear hb)))
  go_ret2
  exact ⟨_, zr, by first | exact Kd.z5O _ _ _ _ _ | exact Kd.y6P _ _ _ _ _ | exact Kd.y6T _ _ _ _ _ | exact Kd.y6I _ _ _ _ _ | exact Kd.y6O _ _ _ _ _, by repeat (first | (with_reducible first | exact HB.out | apply z1w | apply z1d | apply z1l | refine z1X ?_ w1U.out) | exact HB.out)⟩
 rw [if_pos c4] at H
 have c4b0 : (t330 == 0) = true := beq_iff_eq.mpr c4
 have c4b1 : (t330 != 0) = false := bne_eq_false_iff_eq.mpr c4
 clear c4
 replace H := Option.bind_eq_some_iff.mp H
 obtain ⟨t331, A50, H⟩ := H
 replace H : (z0E.l0 k ([] : List (S51)) t331 0 l0_0 l0_1 l0_2) = some (r1, r2) := H
 have A5 := z0a.mk A50
 clear A50
 have H' := z0a.mk H
 clear H
 go_enter Tryz.func17, Tryz.ntmps17
 go_wp2_with (first | ((with_reducible refine z0o (N := 2) rfl ?_); refine zo (cs := #[.slice z0U l0_0.length c0_0, .slice z0X l0_1.length c0_1, .slice z2c l0_2.length c0_2]) (t := 28) ?_; intro z8X hg w6 hbox hb; have z6j := z0a.mk hbox; have GW329 := zG HB hg; have w1U := zG HB hg; replace z8L := z0a.mk (Kd.y5b (Kd.x0w (by (with_reducible repeat (first | apply Kd.z6w | apply Kd.z6x | apply Kd.z9a)); exact z8L.out) z8X (Nat.le_of_eq hg.symm)) hb); replace HB := zB HB hb; clear hb hbox hg; obtain ⟨z4b, z4c, z5U, z4d, z4e, z5V⟩ := zc3 w6 z6j.out) | ((with_reducible refine z0m (f := 54) rfl ?_); refine z1a (some 12) rfl rfl Tryz.func54 (by kernel_rfl) rfl #[.agg #[.slice z0U l0_0.length c0_0, .slice z0X l0_1.length c0_1, .slice z2c l0_2.length c0_2], .int .i64 a1] rfl zq ?_; (with_reducible refine (z0I.calls k _ _ l0_0 _ _ l0_1 _ _ l0_2 a1 t330 _ ?z0M z1g.out ?z0Q z1j.out ?z1z ?z6O A3.out).mono ?_); (case z0M => exact zs); (case z0Q => exact zs); (case z1z => repeat (first | exact (Kd.z5S z8L.out).2.2 | (with_reducible refine Kd.z3F ?_ _) | (with_reducible refine Kd.z3G ?_ _) | (with_reducible refine Kd.z3x ?_))); (case z6O => exact (Kd.z5S z8L.out).2.1); rintro e w8 ⟨rfl, hb⟩; refine ⟨_, rfl, ?_⟩; replace z8L := z0a.mk (Kd.y5b (by (with_reducible repeat (first | apply Kd.z6w | apply Kd.z6x | apply Kd.z9a)); exact z8L.out) hb); replace z6j := zK z6j hb; replace HB := zB HB hb; (try clear hb); obtain ⟨z5l, z5m, z9e, z5n, z5o, z9f⟩ := zc3 w8 z6j.out) | ((with_reducible refine z0m (f := 55) rfl ?_); refine z1a (some 18) rfl rfl Tryz.func55 (by kernel_rfl) rfl #[.agg #[.slice z0U l0_0.length c0_0, .slice z0X l0_1.length c0_1, .slice z2c l0_2.length c0_2], .int .i64 a1] rfl zq ?_; (with_reducible refine (z0w.calls k _ _ l0_0 _ _ l0_1 _ _ l0_2 a1 t331 _ ?z0M z1g.out ?z0Q z1j.out ?z1z ?z6O A5.out).mono ?_); (case z0M => exact zs); (case z0Q => exact zs); (case z1z => repeat (first | exact (Kd.z5S z8L.out).2.2 | (with_reducible refine Kd.z3F ?_ _) | (with_reducible refine Kd.z3G ?_ _) | (with_reducible refine Kd.z3x ?_))); (case z6O => exact (Kd.z5S z8L.out).2.1); rintro e w10 ⟨v332, rfl, ho0, hb⟩; refine ⟨_, rfl, ?_⟩; have HO333 := z0a.mk (Kd.z2n (Kd.w2B (M := fun k_ => (w.heap.size ≤ k_)) ho0 (z1x zb) (fun k_ h_ => h_)) (z1x zb)); replace z8L := z0a.mk (Kd.x6I (by (with_reducible repeat (first | apply Kd.z6w | apply Kd.z6x | apply Kd.z9a)); exact z8L.out) (Kd.y6G ho0) hb); replace z6j := zK z6j hb; replace HB := zB HB hb; (try clear hb); (try clear ho0)))
 go_loopg [7, 9] k (fun kq v7 v9 w' => ∃ (x7_1 : List (S51)) (x9_1 : Int), v9 = .int .i64 x9_1 ∧ z0a (z0E.l0 kq x7_1 t331 x9_1 l0_0 l0_1 l0_2 = some (r1, r2)) ∧ z0a (kq ≤ k) ∧ z0a (Kd.N k51 51 w' w.heap.size (fun k_ => (P0_2_ k_ ∨ w.heap.size ≤ k_) ∧ some k_ ≠ (v332 : Value).ownBlock ∧ k_ ≠ z8X) v7 x7_1) ∧ z0a (Kd.R (Kd.int .i64) 3 w' w.heap.size (fun k_ => (w.heap.size ≤ k_)) v332 t331) ∧ z0a (Kd.V k81 81 w' w.heap.size (fun k_ => (P0_2_ k_ ∨ w.heap.size ≤ k_) ∧ some k_ ≠ (v7 : Value).ownBlock ∧ some k_ ≠ (v332 : Value).ownBlock ∧ k_ ≠ z8X) (.slice z2c l0_2.length c0_2) l0_2) ∧ z0a (w'.heap[z8X]? = some (.cells #[(.slice z0U l0_0.length c0_0), (.slice z0X l0_1.length c0_1), (.slice z2c l0_2.length c0_2)] 28 (0, 0))) ∧ z0a (Below w.heap.size w w'))
 case atStart => exact ⟨(([] : List (S51))), (0), ze, H', ⟨Nat.le_refl _⟩, ⟨by first | exact Kd.z5O _ _ _ _ _ | exact Kd.y6P _ _ _ _ _ | exact Kd.y6T _ _ _ _ _ | exact Kd.y6I _ _ _ _ _ | exact Kd.y6O _ _ _ _ _⟩, ⟨by (with_reducible repeat (first | apply Kd.z0Z | apply Kd.z0Y | apply Kd.z1n)); exact Kd.z3D HO333.out (fun _ hk => hk.1)⟩, ⟨by (with_reducible repeat (first | apply Kd.z6w | apply Kd.z6x | apply Kd.z9a)); exact Kd.y4w z8L.out (fun _ hk => ⟨hk.1.1, ⟨(by simp [Value.ownBlock]), ⟨hk.2, hk.1.2⟩⟩⟩)⟩, ⟨zk⟩, ⟨zb⟩⟩
 case round =>
  clear H'
  try clear c4
  try clear c4b0
  try clear c4b1
  try clear z4b
  try clear z4c
  try clear z5U
  try clear z5l
  try clear z5m
  try clear z9e
  try clear z4d
  try clear z4e
  try clear z5V
  try clear z5n
  try clear z5o
  try clear z9f
  obtain ⟨x7_1, x9_1, rfl, HA, HK1, HO_7, HO_8, HO_330002, z6j, HB⟩ := hrel
  cases gk with
  | zero => exact absurd HA.out (by simp [z0E.l0])
  | succ k1 =>
   have H := HA.out
   clear HA
   simp only [z0E.l0] at H
   by_cases c11 : x9_1 < (t331.length : Int)
   rotate_left
   ·rw [if_neg c11] at H
    have c11b0 : decide (x9_1 < (t331.length : Int)) = false := decide_eq_false c11
    clear c11
    simp only [Option.some.injEq, Prod.mk.injEq] at H
    obtain ⟨rfl, rfl⟩ := H
    obtain ⟨Ao19, co19, eo19⟩ := Kd.z2q HO_8.out
    subst eo19
    go_wp2
    go_ret2
    exact ⟨_, zr, by (with_reducible repeat (first | apply Kd.y4Z | apply Kd.y5a | apply Kd.y6Q)); exact Kd.w2z HO_7.out (fun _ hk => hk.1), by repeat (first | (with_reducible first | exact HB.out | apply z1w | apply z1d | apply z1l | refine z1X ?_ w1U.out) | exact HB.out)⟩
   rw [if_pos c11] at H
   have c11b0 : decide (x9_1 < (t331.length : Int)) = true := decide_eq_true c11
   clear c11
   by_cases c12 : 0 ≤ x9_1
   rotate_left
   ·rw [if_neg c12] at H
    exact absurd H (by simp)
   rw [if_pos c12] at H
   have c12b0 : decide (0 ≤ x9_1) = true := decide_eq_true c12
   clear c12
   by_cases c13 : 0 ≤ (rd t331 x9_1)
   rotate_left
   ·rw [if_neg c13] at H
    exact absurd H (by simp)
   rw [if_pos c13] at H
   have c13b0 : decide (0 ≤ (rd t331 x9_1)) = true := decide_eq_true c13
   clear c13
   by_cases c14 : (rd t331 x9_1) < (l0_2.length : Int)
   rotate_left
   ·rw [if_neg c14] at H
    exact absurd H (by simp)
   rw [if_pos c14] at H
   have c14b0 : decide ((rd t331 x9_1) < (l0_2.length : Int)) = true := decide_eq_true c14
   clear c14
   by_cases c15 : x7_1.length + ((z0s l0_2 (rd t331 x9_1)).f2).length < 1172812402961
   rotate_left
   ·rw [if_neg c15] at H
    exact absurd H (by simp)
   rw [if_pos c15] at H
   have LMc15 := z0a.mk c15
   clear c15
   obtain ⟨y336, hy336⟩ : ∃ y_ : List (S51), y_ = (x7_1 ++ ((z0s l0_2 (rd t331 x9_1)).f2)) := ⟨_, rfl⟩
   replace H : (z0E.l0 k1 y336 t331 (wrap64 (x9_1 + 1)) l0_0 l0_1 l0_2) = some (r1, r2) := by first | (rw [hy336]; with_reducible exact H) | (have H2_ := (Option.bind_some _ _).symm.trans H; rw [hy336]; with_reducible exact H2_) | (have H2_ := (Option.bind_some _ _).symm.trans H; with_reducible exact H2_) | with_reducible exact H | (rw [hy336]; exact H) | exact H
   have Ny336 := z0a.mk hy336
   clear hy336
   have H' := z0a.mk H
   clear H
   obtain ⟨Ao16, co16, eo16⟩ := Kd.z2q HO_8.out
   subst eo16
   try go_wp2
   have n0_ := z0a.mk (Kd.y6Q HO_7.out)
   have n1_ := z0a.mk (Kd.z1n HO_8.out)
   have n2_ := z0a.mk (Kd.z9a HO_330002.out)
   have n3_ := z0a.mk (z0e z6j.out)
   have n4_ := z0a.mk (z1l HB.out)
   clear HO_7
   clear HO_8
   clear HO_330002
   clear z6j
   clear HB
   have HO_7 := n0_
   have HO_8 := n1_
   have HO_330002 := n2_
   have z6j := n3_
   have HB := n4_
   clear n0_ n1_ n2_ n3_ n4_
   have p334 : 0 ≤ (x9_1 : Int) := za
   have q334 : x9_1 < (t331.length : Int) := za
   obtain ⟨ad334, e334, x5T⟩ := Kd.z3d (Kd.z1K HO_8.out).2.2 x9_1 p334 q334
   cases e334
   replace p334 := eq_true p334
   replace q334 := eq_true q334
   have p335 : 0 ≤ ((rd t331 x9_1) : Int) := za
   have q335 : (rd t331 x9_1) < (l0_2.length : Int) := za
   obtain ⟨ad335, w3q, c335_2, e335, x5U, x5V, y9P, x5W, x5X⟩ := z3e (Kd.z5S HO_330002.out).2.2 (rd t331 x9_1) p335 q335
   cases e335
   obtain ⟨ce335, hce335, hMe335, hcc335⟩ := Kd.V_get HO_330002.out z81 (rd t331 x9_1) p335 (by first | exact q335 | exact of_decide_eq_true (by first | (with_reducible assumption) | assumption) | (have e_ := (Kd.z5S HO_330002.out).1; omega))
   obtain ⟨ua335_2, uc335_2, rfl, ul335_2, ge335_2⟩ := x2k hMe335
   have hv335_2 := hcc335 2 _ rfl
   rw [z2o _ _ 2 (by omega)] at hv335_2
   replace hv335_2 := Option.some.inj (hv335_2.symm.trans y9P)
   injection hv335_2 with hva_ hvn_ hvc_
   rw [hva_] at ge335_2
   rw [hvc_] at ul335_2
   have HL335_2 := z0a.mk (show Kd.V k51 51 _ w.heap.size _ _ ((z0s l0_2 (rd t331 x9_1)).f2) from Kd.V_mk ul335_2 ge335_2)
   clear hva_ hvn_ hvc_ ge335_2 ul335_2
   clear hcc335 hce335
   have w1V := z0a.mk x5X
   have HC335_2 := z0a.mk x5W
   clear x5X x5W
   replace p335 := eq_true p335
   replace q335 := eq_true q335
   refine z6l (n := 12) (S := fun w' => w'.cell? ⟨z8X, 0, none⟩ = some (.slice z0U l0_0.length c0_0) ∧ w'.cell? ⟨z8X, 1, none⟩ = some (.slice z0X l0_1.length c0_1) ∧ w'.cell? ⟨z8X, 2, none⟩ = some (.slice (some ad335) l0_2.length c0_2) ∧ w'.cell? (ad334.add (x9_1).toNat) = some (.int .i64 (rd t331 x9_1)) ∧ w'.cell? (ad335.add (((rd t331 x9_1)).toNat * 3)) = some (.string ((z0s l0_2 (rd t331 x9_1)).f0)) ∧ w'.cell? ⟨(ad335.add (((rd t331 x9_1)).toNat * 3)).block, (ad335.add (((rd t331 x9_1)).toNat * 3)).off + 1, none⟩ = some (.int .i64 ((z0s l0_2 (rd t331 x9_1)).f1)) ∧ w'.cell? ⟨(ad335.add (((rd t331 x9_1)).toNat * 3)).block, (ad335.add (((rd t331 x9_1)).toNat * 3)).off + 2, none⟩ = some (.slice w3q ((z0s l0_2 (rd t331 x9_1)).f2).length c335_2)) (ds := [10]) #[false, false, false, false, false, false, false, false, false, false, false, false] (by kernel_rfl) rfl rfl ⟨(z0p z6j.out 0).trans rfl, (z0p z6j.out 1).trans rfl, (z0p z6j.out 2).trans rfl, x5T, x5U, x5V, y9P⟩ (fun hHeld => ?_); refine z3I z0E.tab9 z0E.bits9 (fun HT_ HW_ => ?_)
   generalize wr.drew = w17 at HO_7 HO_8 HO_330002 z6j HB HL335_2 w1V x5T x5U x5V y9P hHeld ⊢
   refine z1O (i := 0) (N := some 25) (v := ?_) (a' := ?_) #[true, false, false, false, false, false, false, false, false, false, false, false] rfl rfl (z1s HT_.out (by kernel_rfl)) (fun _ _ _ h => h) (Or.inl ⟨by rfl, ?_⟩) ?_ ?_
   rotate_left
   ·intro w'
    go_simp
    with_reducible rfl
   rotate_left
   ·simp only [Act.put, List.setIfInBounds_toArray, List.set_cons_zero, List.set_cons_succ, z0V, z0W]
    rfl
   refine z1O (i := 1) (N := some 26) (v := ?_) (a' := ?_) #[true, true, false, false, false, false, false, false, false, false, false, false] rfl rfl (z1s HT_.out (by kernel_rfl)) (fun _ _ _ h => h) (Or.inl ⟨by rfl, ?_⟩) ?_ ?_
   rotate_left
   ·intro w'
    go_simp
    with_reducible rfl
   rotate_left
   ·simp only [Act.put, List.setIfInBounds_toArray, List.set_cons_zero, List.set_cons_succ, z0V, z0W]
    rfl
   refine z1O (i := 3) (N := some 28) (v := ?_) (a' := ?_) #[true, true, false, true, false, false, false, false, false, false, false, false] rfl rfl (z1s HT_.out (by kernel_rfl)) (fun _ _ _ h => h) (Or.inl ⟨by rfl, ?_⟩) ?_ ?_
   rotate_left
   ·intro w'
    go_simp
    with_reducible rfl
   rotate_left
   ·simp only [Act.put, List.setIfInBounds_toArray, List.set_cons_zero, List.set_cons_succ, z0V, z0W]
    rfl
   refine z1O (i := 4) (N := some 29) (v := ?_) (a' := ?_) #[true, true, false, true, true, false, false, false, false, false, false, false] rfl rfl (z1s HT_.out (by kernel_rfl)) (fun _ _ _ h => h) (Or.inl ⟨by rfl, ?_⟩) ?_ ?_
   rotate_left
   ·intro w'
    go_simp
    with_reducible rfl
   rotate_left
   ·simp only [Act.put, List.setIfInBounds_toArray, List.set_cons_zero, List.set_cons_succ, z0V, z0W]
    rfl
   refine z1O (i := 5) (N := some 30) (v := ?_) (a' := ?_) #[true, true, false, true, true, true, false, false, false, false, false, false] rfl rfl (z1s HT_.out (by kernel_rfl)) (fun _ _ _ h => h) (Or.inl ⟨by rfl, ?_⟩) ?_ ?_
   rotate_left
   ·intro w'
    go_simp
    with_reducible rfl
   rotate_left
   ·simp only [Act.put, List.setIfInBounds_toArray, List.set_cons_zero, List.set_cons_succ, z0V, z0W]
    rfl
   refine z2R (i := 2) (N := some 27) (v := ?_) (a' := ?_) #[true, true, true, true, true, true, false, false, false, false, false, false] rfl rfl (z1D HT_.out HW_.out (by kernel_rfl)) (fun _ _ _ h => h) (Or.inl ⟨by rfl, ?_⟩) hHeld ?_ ?_
   rotate_left
   ·rintro w' ⟨s0, s1, s2, s3, s4, s5, s6⟩
    go_simp
    with_reducible rfl
   rotate_left
   ·simp only [Act.put, List.setIfInBounds_toArray, List.set_cons_zero, List.set_cons_succ, z0V, z0W]
    rfl
   refine z2R (i := 6) (N := some 31) (v := ?_) (a' := ?_) #[true, true, true, true, true, true, true, false, false, false, false, false] rfl rfl (z1D HT_.out HW_.out (by kernel_rfl)) (fun _ _ _ h => h) (Or.inl ⟨by rfl, ?_⟩) hHeld ?_ ?_
   rotate_left
   ·rintro w' ⟨s0, s1, s2, s3, s4, s5, s6⟩
    go_simp
    with_reducible rfl
   rotate_left
   ·simp only [Act.put, List.setIfInBounds_toArray, List.set_cons_zero, List.set_cons_succ, z0V, z0W]
    rfl
   refine z1O (i := 7) (N := some 32) (v := ?_) (a' := ?_) #[true, true, true, true, true, true, true, true, false, false, false, false] rfl rfl (z1s HT_.out (by kernel_rfl)) (fun _ _ _ h => h) (Or.inl ⟨by rfl, ?_⟩) ?_ ?_
   rotate_left
   ·intro w'
    go_simp
    with_reducible rfl
   rotate_left
   ·simp only [Act.put, List.setIfInBounds_toArray, List.set_cons_zero, List.set_cons_succ, z0V, z0W]
    rfl
   refine z1O (i := 8) (N := some 33) (v := ?_) (a' := ?_) #[true, true, true, true, true, true, true, true, true, false, false, false] rfl rfl (z1s HT_.out (by kernel_rfl)) (fun _ _ _ h => h) (Or.inl ⟨by rfl, ?_⟩) ?_ ?_
   rotate_left
   ·intro w'
    go_simp
    with_reducible rfl
   rotate_left
   ·simp only [Act.put, List.setIfInBounds_toArray, List.set_cons_zero, List.set_cons_succ, z0V, z0W]
    rfl
   refine z2R (i := 9) (N := some 34) (v := ?_) (a' := ?_) #[true, true, true, true, true, true, true, true, true, true, false, false] rfl rfl (z1D HT_.out HW_.out (by kernel_rfl)) (fun _ _ _ h => h) (Or.inl ⟨by rfl, ?_⟩) hHeld ?_ ?_
   rotate_left
   ·rintro w' ⟨s0, s1, s2, s3, s4, s5, s6⟩
    go_simp
    with_reducible rfl
   rotate_left
   ·simp only [Act.put, List.setIfInBounds_toArray, List.set_cons_zero, List.set_cons_succ, z0V, z0W]
    rfl
   refine x8d (i := 10) (N := some 35) #[true, true, true, true, true, true, true, true, true, true, true, false] rfl rfl (z8Z HT_.out (by kernel_rfl)) (by decide) (fun K hK => ?_)
   refine Kd.z9Z k51 (w0 := w) w.heap.size (by rfl) (.tmp 25) (.tmp 34) 37 51 (.agg #[(.string ⟨#[]⟩), (.slice none 0 0), (.slice none 0 0), (.slice none 0 0), (.slice none 0 0), (.int .u8 0), (.bool false)]) 120 rfl Tryz.underlying37 x7O rfl (by decide) (by omega) u7 x7_1 ((z0s l0_2 (rd t331 x9_1)).f2) _ _ _ (fun k_ => (P0_2_ k_ ∨ w.heap.size ≤ k_) ∧ some k_ ≠ (.slice (some ad334) t331.length co16 : Value).ownBlock ∧ k_ ≠ z8X) (fun k_ => ((fun k_ => (P0_2_ k_ ∨ w.heap.size ≤ k_) ∧ some k_ ≠ (.slice (some ad334) t331.length co16 : Value).ownBlock ∧ k_ ≠ z8X)) k_ ∧ some k_ ≠ (u7 : Value).ownBlock) rfl rfl ?aO ?aR (fun _ hk => hk) ?aF ?aB ?aS ?aL ?_
   (case aR => exact (by skip; exact Kd.V_F (Kd.y4w (ok' := (fun k_ => ((fun k_ => (P0_2_ k_ ∨ w.heap.size ≤ k_) ∧ some k_ ≠ (.slice (some ad334) t331.length co16 : Value).ownBlock ∧ k_ ≠ z8X)) k_ ∧ some k_ ≠ (u7 : Value).ownBlock)) (HL335_2.out) (fun k_ hk => ⟨⟨hk.1, ⟨hk.2.2.1, hk.2.2.2⟩⟩, hk.2.1⟩))))
   (case aB => exact zb)
   (case aF => exact (fun k_ hk => ⟨(.inr (Nat.le_trans (z1x zb) hk)), Kd.fresh' (Kd.w2j (by (with_reducible repeat (first | apply Kd.z0Z | apply Kd.z0Y | apply Kd.z1n)); exact HO_8.out)) k_ hk, Kd.w2r (g := z8X) (o := .cells #[.slice z0U l0_0.length c0_0, .slice z0X l0_1.length c0_1, .slice (some ad335) l0_2.length c0_2] 28 (0, 0)) zk k_ hk⟩))
   (case aO => exact (by (with_reducible repeat (first | apply Kd.y4Z | apply Kd.y5a | apply Kd.y6Q)); exact HO_7.out))
   (case aS => exact (z1x zb))
   (case aL => have := LMc15.out; omega)
   intro v337 w18 ho hb hg hat
   rw [← Ny336.out] at ho
   have n0_ := z0a.mk (Kd.x8c (by (with_reducible repeat (first | apply Kd.z0Z | apply Kd.z0Y | apply Kd.z1n)); exact HO_8.out) (Kd.x8o (by (with_reducible repeat (first | apply Kd.y4Z | apply Kd.y5a | apply Kd.y6Q)); exact HO_7.out)) (by decide) hg)
   have n1_ := z0a.mk (Kd.x0v (ok := (fun k_ => (P0_2_ k_ ∨ w.heap.size ≤ k_) ∧ some k_ ≠ (.slice (some ad334) t331.length co16 : Value).ownBlock ∧ k_ ≠ z8X)) (by (with_reducible repeat (first | apply Kd.z6w | apply Kd.z6x | apply Kd.z9a)); exact Kd.y4w HO_330002.out (fun _ hk => ⟨⟨hk.1, ⟨hk.2.2.1, hk.2.2.2⟩⟩, hk.2.1⟩)) hg hat)
   have n2_ := z0a.mk (z5t (g := z8X) (o := .cells #[.slice z0U l0_0.length c0_0, .slice z0X l0_1.length c0_1, .slice (some ad335) l0_2.length c0_2] 28 (0, 0)) zk hg (Kd.N_ne HO_7.out z6j.out (by decide)))
   have n3_ := z0a.mk (Kd.x0v (ok := (fun k_ => (P0_2_ k_ ∨ w.heap.size ≤ k_) ∧ some k_ ≠ (.slice (some ad334) t331.length co16 : Value).ownBlock ∧ k_ ≠ z8X)) (by (with_reducible repeat (first | apply Kd.z6w | apply Kd.z6x | apply Kd.z9a)); exact Kd.y4w HL335_2.out (fun _ hk => ⟨⟨hk.1, ⟨hk.2.2.1, hk.2.2.2⟩⟩, hk.2.1⟩)) hg hat)
   have n4_ := z0a.mk (hb)
   have n5_ := z0a.mk (ho)
   clear HO_8
   clear HO_330002
   clear z6j
   clear HL335_2
   clear HB
   clear HO_7
   have HO_8 := n0_
   have HO_330002 := n1_
   have z6j := n2_
   have HL335_2 := n3_
   have HB := n4_
   have HO338 := n5_
   clear n0_ n1_ n2_ n3_ n4_ n5_
   clear ho hb hg hat
   refine hK.out _ _ ?_
   clear hK K
   refine y4g (a' := ?_) ?_ ?_
   rotate_left
   ·show Act.put _ (some 35) _ = _
    simp only [Act.put, List.setIfInBounds_toArray, List.set_cons_zero, List.set_cons_succ, z0V, z0W]
    rfl
   refine z1O (i := 11) (N := some 7) (v := ?_) (a' := ?_) #[true, true, true, true, true, true, true, true, true, true, true, true] rfl rfl (z1s HT_.out (by kernel_rfl)) (fun _ _ _ h => h) (Or.inl ⟨by rfl, ?_⟩) ?_ ?_
   rotate_left
   ·intro w'
    go_simp
    with_reducible rfl
   rotate_left
   ·simp only [Act.put, List.setIfInBounds_toArray, List.set_cons_zero, List.set_cons_succ, z0V, z0W]
    rfl
   refine y0q (z5u HT_.out (by kernel_rfl)) ?_
   try go_wp2
   go_roundg k1
   case measure => have := HK1.out; omega
   case rel => exact ⟨(y336), (wrap64 (x9_1 + 1)), ze, H', ⟨by have := HK1.out; omega⟩, ⟨by (with_reducible repeat (first | apply Kd.y4Z | apply Kd.y5a | apply Kd.y6Q)); exact HO338.out⟩, ⟨by (with_reducible repeat (first | apply Kd.z0Z | apply Kd.z0Y | apply Kd.z1n)); exact HO_8.out⟩, ⟨by (with_reducible repeat (first | apply Kd.z6w | apply Kd.z6x | apply Kd.z9a)); exact Kd.y4w HO_330002.out (fun _ hk => ⟨hk.1.1, ⟨hk.2, ⟨hk.1.2.1, hk.1.2.2⟩⟩⟩)⟩, ⟨zk⟩, ⟨zb⟩⟩
mutual
def z0q.l0 : Nat → List Int → Int → List ByteArray → List (z1J) → List (S81) → Option (List Int × Int)
 | 0, _, _, _, _, _ => none
 | k + 1, x5, x6, y0R, y0S, z7O => if x6 < (z7O.length : Int) then (z0q.l1 k x5 x6 true 0 y0R y0S z7O) else (some (x5, 0))
def z0q.l1 : Nat → List Int → Int → Bool → Int → List ByteArray → List (z1J) → List (S81) → Option (List Int × Int)
 | 0, _, _, _, _, _, _, _ => none
 | k + 1, x5, x6, x7, x8, y0R, y0S, z7O => if x8 < (z7O.length : Int) then (if x7 = true then (if 0 ≤ x8 then (z0q.l1 k x5 x6 (((z0s z7O x8).f1) != x6) (wrap64 (x8 + 1)) y0R y0S z7O) else (none)) else (z0q.l1 k x5 x6 false (wrap64 (x8 + 1)) y0R y0S z7O)) else (if x7 = true then (if x5.length < 17592186044416 then (z0q.l0 k (x5 ++ [x6]) (wrap64 (x6 + 1)) y0R y0S z7O) else (none)) else (z0q.l0 k x5 (wrap64 (x6 + 1)) y0R y0S z7O))
end
def z0q.f (k : Nat) (l0_0 : List ByteArray) (l0_1 : List (z1J)) (l0_2 : List (S81)) : Option (List Int × Int) := (z0d.f k l0_0 l0_1 l0_2).bind fun t340 => (if t340 = 0 then (z0q.l0 k ([] : List Int) 0 l0_0 l0_1 l0_2) else (some (([] : List Int), t340)))
theorem z0q.z1t : ∀ k, (∀ y0 y1 y2 y3 y4, LeO (z0q.l0 k y0 y1 y2 y3 y4) (z0q.l0 (k + 1) y0 y1 y2 y3 y4)) ∧ (∀ y0 y1 y2 y3 y4 y5 y6, LeO (z0q.l1 k y0 y1 y2 y3 y4 y5 y6) (z0q.l1 (k + 1) y0 y1 y2 y3 y4 y5 y6))
 | 0 => ⟨fun _ _ _ _ _ r h => by simp [z0q.l0] at h, fun _ _ _ _ _ _ _ r h => by simp [z0q.l1] at h⟩
 | k + 1 => by
  obtain ⟨ih0, ih1⟩ := z0q.z1t k
  refine ⟨?_, ?_⟩
  ·intro y0 y1 y2 y3 y4
   unfold z0q.l0
   repeat' first
   | (with_reducible exact ih0 _ _ _ _ _)
   | (with_reducible exact ih1 _ _ _ _ _ _ _)
   | (with_reducible exact z0d.mono _ _ _ _)
   | (with_reducible exact LeO.refl _)
   | (with_reducible exact LeO.none _)
   | (with_reducible refine LeO.ite ?_ ?_)
   | (with_reducible refine LeO.bind ?_ (fun _ => ?_))
  ·intro y0 y1 y2 y3 y4 y5 y6
   unfold z0q.l1
   repeat' first
   | (with_reducible exact ih0 _ _ _ _ _)
   | (with_reducible exact ih1 _ _ _ _ _ _ _)
   | (with_reducible exact z0d.mono _ _ _ _)
   | (with_reducible exact LeO.refl _)
   | (with_reducible exact LeO.none _)
   | (with_reducible refine LeO.ite ?_ ?_)
   | (with_reducible refine LeO.bind ?_ (fun _ => ?_))
theorem z0q.mono : ∀ a0 a1 a2 k, LeO (z0q.f k a0 a1 a2) (z0q.f (k + 1) a0 a1 a2) := by
 intro a0 a1 a2 k
 obtain ⟨ih0, ih1⟩ := z0q.z1t k
 unfold z0q.f
 repeat' first
   | (with_reducible exact ih0 _ _ _ _ _)
   | (with_reducible exact ih1 _ _ _ _ _ _ _)
   | (with_reducible exact z0d.mono _ _ _ _)
   | (with_reducible exact LeO.refl _)
   | (with_reducible exact LeO.none _)
   | (with_reducible refine LeO.ite ?_ ?_)
   | (with_reducible refine LeO.bind ?_ (fun _ => ?_))
set_option maxHeartbeats 8000000 in
set_option maxRecDepth 100000 in
theorem z0q.calls (k : Nat) (z0U : Option Addr) (c0_0 : Nat) (l0_0 : List ByteArray) (z0X : Option Addr) (c0_1 : Nat) (l0_1 : List (z1J)) (z2c : Option Addr) (c0_2 : Nat) (l0_2 : List (S81)) (r1 : List Int) (r2 : Int) (w : World) (hr0_0 : Kd.C Kd.string w z0U l0_0.length l0_0) (hc0_0 : l0_0.length ≤ c0_0) (hr0_1 : Kd.C z5a w z0X l0_1.length l0_1) (hc0_1 : l0_1.length ≤ c0_1) (hr0_2 : Kd.C k81 w z2c l0_2.length l0_2) (hc0_2 : l0_2.length ≤ c0_2) (h : z0q.f k l0_0 l0_1 l0_2 = some (r1, r2)) :
  Calls Tryz.prog 19 #[.agg #[.slice z0U l0_0.length c0_0, .slice z0X l0_1.length c0_1, .slice z2c l0_2.length c0_2]] w fun e w' => ∃ v0_ : Value, e = .returned (.tuple #[v0_, .int .i64 r2]) ∧ Kd.R (Kd.int .i64) 3 w' w.heap.size (fun _ => True) v0_ r1 ∧ Below w.heap.size w w' := by
 have hu28 := Tryz.underlying28
 have z2g := z0a.mk hr0_0
 have z1g := z0a.mk hc0_0
 clear hr0_0 hc0_0
 have z2x := z0a.mk hr0_1
 have z1j := z0a.mk hc0_1
 clear hr0_1 hc0_1
 have z3X := z0a.mk hr0_2
 have z2T := z0a.mk hc0_2
 clear hr0_2 hc0_2
 have HB := z0a.mk (Below.refl w.heap.size w)
 have H : ((z0d.f k l0_0 l0_1 l0_2).bind fun t340 => (if t340 = 0 then (z0q.l0 k ([] : List Int) 0 l0_0 l0_1 l0_2) else (some (([] : List Int), t340)))) = some (r1, r2) := h
 clear h
 replace H := Option.bind_eq_some_iff.mp H
 obtain ⟨t340, A20, H⟩ := H
 replace H : (if t340 = 0 then (z0q.l0 k ([] : List Int) 0 l0_0 l0_1 l0_2) else (some (([] : List Int), t340))) = some (r1, r2) := H
 have A2 := z0a.mk A20
 clear A20
 by_cases c3 : t340 = 0
 rotate_left
 ·rw [if_neg c3] at H
  have c3b0 : (t340 == 0) = false := beq_eq_false_iff_ne.mpr c3
  have c3b1 : (t340 != 0) = true := bne_iff_ne.mpr c3
  simp only [Option.some.injEq, Prod.mk.injEq] at H
  obtain ⟨rfl, rfl⟩ := H
  go_enter Tryz.func19, Tryz.ntmps19
  go_wp2_with (first | ((with_reducible refine z0o (N := 1) rfl ?_); refine zo (cs := #[.slice z0U l0_0.length c0_0, .slice z0X l0_1.length c0_1, .slice z2c l0_2.length c0_2]) (t := 28) ?_; intro x7k hg w20 hbox hb; have z8M := z0a.mk hbox; have GW339 := zG HB hg; have w1W := zG HB hg; replace HB := zB HB hb; clear hb hbox hg; obtain ⟨z9E, z9F, y3j, z9G, z9H, y3k⟩ := zc3 w20 z8M.out) | ((with_reducible refine z0m (f := 37) rfl ?_); refine z1a (some 10) rfl rfl Tryz.func37 (by kernel_rfl) rfl #[.agg #[.slice z0U l0_0.length c0_0, .slice z0X l0_1.length c0_1, .slice z2c l0_2.length c0_2]] rfl zq ?_; (with_reducible refine (z0d.calls k _ _ l0_0 _ _ l0_1 _ _ l0_2 t340 _ ?z0M z1g.out ?z0Q z1j.out ?z1z z2T.out A2.out).mono ?_); (case z0M => exact zs); (case z0Q => exact zs); (case z1z => exact zs); rintro e w22 ⟨rfl, hb⟩; refine ⟨_, rfl, ?_⟩; replace z8M := zK z8M hb; replace HB := zB HB hb; (try clear hb)))
  go_ret2
  exact ⟨_, zr, by first | exact Kd.z5O _ _ _ _ _ | exact Kd.y6P _ _ _ _ _ | exact Kd.y6T _ _ _ _ _ | exact Kd.y6I _ _ _ _ _ | exact Kd.y6O _ _ _ _ _, by repeat (first | (with_reducible first | exact HB.out | apply z1w | apply z1d | apply z1l | refine z1X ?_ w1W.out) | exact HB.out)⟩
 rw [if_pos c3] at H
 have c3b0 : (t340 == 0) = true := beq_iff_eq.mpr c3
 have c3b1 : (t340 != 0) = false := bne_eq_false_iff_eq.mpr c3
 clear c3
 have H' := z0a.mk H
 clear H
 go_enter Tryz.func19, Tryz.ntmps19
 go_wp2_with (first | ((with_reducible refine z0o (N := 1) rfl ?_); refine zo (cs := #[.slice z0U l0_0.length c0_0, .slice z0X l0_1.length c0_1, .slice z2c l0_2.length c0_2]) (t := 28) ?_; intro x7k hg w4 hbox hb; have z8M := z0a.mk hbox; have GW339 := zG HB hg; have w1W := zG HB hg; replace HB := zB HB hb; clear hb hbox hg; obtain ⟨y6Z, y7a, x4x, y7b, y7c, x4y⟩ := zc3 w4 z8M.out) | ((with_reducible refine z0m (f := 37) rfl ?_); refine z1a (some 10) rfl rfl Tryz.func37 (by kernel_rfl) rfl #[.agg #[.slice z0U l0_0.length c0_0, .slice z0X l0_1.length c0_1, .slice z2c l0_2.length c0_2]] rfl zq ?_; (with_reducible refine (z0d.calls k _ _ l0_0 _ _ l0_1 _ _ l0_2 t340 _ ?z0M z1g.out ?z0Q z1j.out ?z1z z2T.out A2.out).mono ?_); (case z0M => exact zs); (case z0Q => exact zs); (case z1z => exact zs); rintro e w6 ⟨rfl, hb⟩; refine ⟨_, rfl, ?_⟩; replace z8M := zK z8M hb; replace HB := zB HB hb; (try clear hb)))
 go_loopg [5, 6] k (fun kq v5 v6 w' => ∃ (x5_1 : List Int) (x6_1 : Int), v6 = .int .i64 x6_1 ∧ z0a (z0q.l0 kq x5_1 x6_1 l0_0 l0_1 l0_2 = some (r1, r2)) ∧ z0a (kq ≤ k) ∧ z0a (Kd.R (Kd.int .i64) 3 w' w.heap.size (fun _ => True) v5 x5_1) ∧ z0a (w'.heap[x7k]? = some (.cells #[(.slice z0U l0_0.length c0_0), (.slice z0X l0_1.length c0_1), (.slice z2c l0_2.length c0_2)] 28 (0, 0))) ∧ z0a (Below w.heap.size w w'))
 case atStart => exact ⟨(([] : List Int)), (0), ze, H', ⟨Nat.le_refl _⟩, ⟨by first | exact Kd.z5O _ _ _ _ _ | exact Kd.y6P _ _ _ _ _ | exact Kd.y6T _ _ _ _ _ | exact Kd.y6I _ _ _ _ _ | exact Kd.y6O _ _ _ _ _⟩, ⟨zk⟩, ⟨zb⟩⟩
 case round =>
  clear H'
  try clear c3
  try clear c3b0
  try clear c3b1
  try clear y6Z
  try clear y7a
  try clear x4x
  try clear y7b
  try clear y7c
  try clear x4y
  obtain ⟨x5_1, x6_1, rfl, HA, HK1, HO_5, z8M, HB⟩ := hrel
  cases gk with
  | zero => exact absurd HA.out (by simp [z0q.l0])
  | succ k1 =>
   have H := HA.out
   clear HA
   simp only [z0q.l0] at H
   by_cases c7 : x6_1 < (l0_2.length : Int)
   rotate_left
   ·rw [if_neg c7] at H
    have c7b0 : decide (x6_1 < (l0_2.length : Int)) = false := decide_eq_false c7
    clear c7
    simp only [Option.some.injEq, Prod.mk.injEq] at H
    obtain ⟨rfl, rfl⟩ := H
    obtain ⟨z6A, z8e, z8f, z6B, z8g, z8h⟩ := zc3 wr z8M.out
    go_wp2
    go_ret2
    exact ⟨_, zr, by (with_reducible repeat (first | apply Kd.z0Z | apply Kd.z0Y | apply Kd.z1n)); exact HO_5.out, by repeat (first | (with_reducible first | exact HB.out | apply z1w | apply z1d | apply z1l | refine z1X ?_ w1W.out) | exact HB.out)⟩
   rw [if_pos c7] at H
   have c7b0 : decide (x6_1 < (l0_2.length : Int)) = true := decide_eq_true c7
   clear c7
   have H' := z0a.mk H
   clear H
   obtain ⟨y1c, y4A, x7U, y1d, y4B, x7V⟩ := zc3 wr z8M.out
   go_wp2
   go_loopg [7, 8] k1 (fun kq v7 v8 w' => ∃ (x7_2 : Bool) (x8_2 : Int), v7 = .bool x7_2 ∧ v8 = .int .i64 x8_2 ∧ z0a (z0q.l1 kq x5_1 x6_1 x7_2 x8_2 l0_0 l0_1 l0_2 = some (r1, r2)) ∧ z0a (kq ≤ k1) ∧ z0a (Kd.R (Kd.int .i64) 3 w' w.heap.size (fun _ => True) u5 x5_1) ∧ z0a (w'.heap[x7k]? = some (.cells #[(.slice z0U l0_0.length c0_0), (.slice z0X l0_1.length c0_1), (.slice z2c l0_2.length c0_2)] 28 (0, 0))) ∧ z0a (Below w.heap.size w w'))
   case atStart => exact ⟨(true), (0), ze, ze, H', ⟨Nat.le_refl _⟩, ⟨by (with_reducible repeat (first | apply Kd.z0Z | apply Kd.z0Y | apply Kd.z1n)); exact HO_5.out⟩, ⟨zk⟩, ⟨zb⟩⟩
   case round =>
    clear H'
    try clear c3
    try clear c3b0
    try clear c3b1
    try clear c7
    try clear c7b0
    try clear y6Z
    try clear y7a
    try clear x4x
    try clear y1c
    try clear y4A
    try clear x7U
    try clear y7b
    try clear y7c
    try clear x4y
    try clear y1d
    try clear y4B
    try clear x7V
    obtain ⟨x7_2, x8_2, rfl, rfl, HA, HK2, HO_5, z8M, HB⟩ := hrel
    cases gk with
    | zero => exact absurd HA.out (by simp [z0q.l1])
    | succ k2 =>
     have H := HA.out
     clear HA
     simp only [z0q.l1] at H
     by_cases c9 : x8_2 < (l0_2.length : Int)
     ·rw [if_pos c9] at H
      have c9b0 : decide (x8_2 < (l0_2.length : Int)) = true := decide_eq_true c9
      clear c9
      by_cases c10 : x7_2 = true
      rotate_left
      ·replace c10 := Bool.eq_false_iff.mpr c10
       subst c10
       have H1 : (z0q.l1 k2 x5_1 x6_1 false (wrap64 (x8_2 + 1)) l0_0 l0_1 l0_2) = some (r1, r2) := by rw [if_neg (show ¬ (false = true) by decide)] at H; exact H
       clear H
       have H := H1
       clear H1
       have H' := z0a.mk H
       clear H
       obtain ⟨z9l, z9m, y5T, z9n, z9o, y5U⟩ := zc3 wr z8M.out
       go_wp2
       go_roundg k2
       case measure => have := HK1.out; have := HK2.out; omega
       case rel => exact ⟨(false), (wrap64 (x8_2 + 1)), ze, ze, H', ⟨by have := HK1.out; have := HK2.out; omega⟩, ⟨by (with_reducible repeat (first | apply Kd.z0Z | apply Kd.z0Y | apply Kd.z1n)); exact HO_5.out⟩, ⟨zk⟩, ⟨zb⟩⟩
      subst c10
      have H1 : (if 0 ≤ x8_2 then (z0q.l1 k2 x5_1 x6_1 (((z0s l0_2 x8_2).f1) != x6_1) (wrap64 (x8_2 + 1)) l0_0 l0_1 l0_2) else (none)) = some (r1, r2) := by rw [if_pos rfl] at H; exact H
      clear H
      have H := H1
      clear H1
      by_cases c11 : 0 ≤ x8_2
      rotate_left
      ·rw [if_neg c11] at H
       exact absurd H (by simp)
      rw [if_pos c11] at H
      have c11b0 : decide (0 ≤ x8_2) = true := decide_eq_true c11
      clear c11
      have H' := z0a.mk H
      clear H
      obtain ⟨z8o, y0D, y5Z, z8p, y0E, y6a⟩ := zc3 wr z8M.out
      have p341 : 0 ≤ (x8_2 : Int) := za
      have q341 : x8_2 < (l0_2.length : Int) := za
      obtain ⟨ad341, A341_2, c341_2, e341, x5Y, x5Z, x6a, x6b, x6c⟩ := z3e z3X.out x8_2 p341 q341
      cases e341
      replace x5Y := zx HB x5Y
      replace x5Z := zx HB x5Z
      replace x6a := zx HB x6a
      have HR341_2 := z0a.mk x6c
      have HC341_2 := z0a.mk x6b
      clear x6c x6b
      replace p341 := eq_true p341
      replace q341 := eq_true q341
      go_wp2
      go_roundg k2
      case measure => have := HK1.out; have := HK2.out; omega
      case rel => exact ⟨((((z0s l0_2 x8_2).f1) != x6_1)), (wrap64 (x8_2 + 1)), ze, ze, H', ⟨by have := HK1.out; have := HK2.out; omega⟩, ⟨by (with_reducible repeat (first | apply Kd.z0Z | apply Kd.z0Y | apply Kd.z1n)); exact HO_5.out⟩, ⟨zk⟩, ⟨zb⟩⟩
     rw [if_neg c9] at H
     have c9b0 : decide (x8_2 < (l0_2.length : Int)) = false := decide_eq_false c9
     clear c9
     by_cases c14 : x7_2 = true
     rotate_left
     ·replace c14 := Bool.eq_false_iff.mpr c14
      subst c14
      have H1 : (z0q.l0 k2 x5_1 (wrap64 (x6_1 + 1)) l0_0 l0_1 l0_2) = some (r1, r2) := by rw [if_neg (show ¬ (false = true) by decide)] at H; exact H
      clear H
      have H := H1
      clear H1
      have H' := z0a.mk H
      clear H
      obtain ⟨z4j, z4k, z4y, z4l, z4m, z4z⟩ := zc3 wr z8M.out
      go_wp2
      go_roundg k2
      case measure => have := HK1.out; have := HK2.out; omega
      case rel => exact ⟨(x5_1), (wrap64 (x6_1 + 1)), ze, H', ⟨by have := HK1.out; have := HK2.out; omega⟩, ⟨by (with_reducible repeat (first | apply Kd.z0Z | apply Kd.z0Y | apply Kd.z1n)); exact HO_5.out⟩, ⟨zk⟩, ⟨zb⟩⟩
     subst c14
     have H1 : (if x5_1.length < 17592186044416 then (z0q.l0 k2 (x5_1 ++ [x6_1]) (wrap64 (x6_1 + 1)) l0_0 l0_1 l0_2) else (none)) = some (r1, r2) := by rw [if_pos rfl] at H; exact H
     clear H
     have H := H1
     clear H1
     by_cases c15 : x5_1.length < 17592186044416
     rotate_left
     ·rw [if_neg c15] at H
      exact absurd H (by simp)
     rw [if_pos c15] at H
     have LMc15 := z0a.mk c15
     clear c15
     obtain ⟨y342, hy342⟩ : ∃ y_ : List Int, y_ = (x5_1 ++ [x6_1]) := ⟨_, rfl⟩
     replace H : (z0q.l0 k2 y342 (wrap64 (x6_1 + 1)) l0_0 l0_1 l0_2) = some (r1, r2) := by first | (rw [hy342]; with_reducible exact H) | (have H2_ := (Option.bind_some _ _).symm.trans H; rw [hy342]; with_reducible exact H2_) | (have H2_ := (Option.bind_some _ _).symm.trans H; with_reducible exact H2_) | with_reducible exact H | (rw [hy342]; exact H) | exact H
     have Ny342 := z0a.mk hy342
     clear hy342
     have H' := z0a.mk H
     clear H
     obtain ⟨z5Y, z6y, z8t, z5Z, z6z, z8u⟩ := zc3 wr z8M.out
     go_wp2_with (first | ((with_reducible refine z2Z (b := .append) (xs := #[.tmp 40, .tmp 42]) rfl ?_); at_builtin; refine Kd.z9S (Kd.int .i64) (w0 := w) w.heap.size rfl (.tmp 40) (.tmp 42) 31 3 (.int .i64 0) 8 rfl Tryz.underlying31 info3 rfl (by decide) (by omega) u5 x5_1 x6_1 [.int .i64 x6_1] (fun _ => True) (fun _ => False) rfl rfl ?aP (fun _ hk => hk.elim) ?aF ?aO ?aB ?aS ?aL ?_; (case aP => exact rfl); (case aB => exact zb); (case aF => exact (fun _ _ => trivial)); (case aO => exact (by (with_reducible repeat (first | apply Kd.z0Z | apply Kd.z0Y | apply Kd.z1n)); exact HO_5.out)); (case aS => exact (z1x zb)); (case aL => have := LMc15.out; omega); intro v343 w17 ho hb hg hat; rw [← Ny342.out] at ho; have HO344 := z0a.mk (ho); replace z8M := z0a.mk (z5t (g := x7k) (o := .cells #[.slice z0U l0_0.length c0_0, .slice z0X l0_1.length c0_1, .slice z2c l0_2.length c0_2] 28 (0, 0)) zk hg (Kd.x7G HO_5.out z8M.out (by decide))); replace HB := z0a.mk (hb); clear HO_5; clear ho hb hg hat))
     go_roundg k2
     case measure => have := HK1.out; have := HK2.out; omega
     case rel => exact ⟨(y342), (wrap64 (x6_1 + 1)), ze, H', ⟨by have := HK1.out; have := HK2.out; omega⟩, ⟨by (with_reducible repeat (first | apply Kd.z0Z | apply Kd.z0Y | apply Kd.z1n)); exact HO344.out⟩, ⟨zk⟩, ⟨zb⟩⟩
mutual
def z0C.l0 : Nat → Int → ByteArray → ByteArray → Int → List ByteArray → List (z1J) → List (S81) → Option (ByteArray)
 | 0, _, _, _, _, _, _, _ => none
 | k + 1, x1, x2, x7, x8, y9Q, y9R, y3M => if x8 < (y3M.length : Int) then (if 0 ≤ x8 then (if ((z0s y3M x8).f1) = x1 then (if x2.size + 2 ≤ 9223372036854775807 then ((z0C.f k y9Q y9R y3M x8 (x2 ++ (⟨#[32, 32]⟩ : ByteArray))).bind fun t348 => (if x7.size + t348.size ≤ 9223372036854775807 then (z0C.l0 k x1 x2 (x7 ++ t348) (wrap64 (x8 + 1)) y9Q y9R y3M) else (none))) else (none)) else (z0C.l0 k x1 x2 x7 (wrap64 (x8 + 1)) y9Q y9R y3M)) else (none)) else (some x7)
def z0C.f : Nat → List ByteArray → List (z1J) → List (S81) → Int → ByteArray → Option (ByteArray)
 | 0, _, _, _, _, _ => none
 | k + 1, l0_0, l0_1, l0_2, a1, a2 => if 0 ≤ a1 then (if a1 < (l0_2.length : Int) then (if a2.size + ((z0s l0_2 a1).f0).size ≤ 9223372036854775807 then (if (a2 ++ ((z0s l0_2 a1).f0)).size + 1 ≤ 9223372036854775807 then (z0C.l0 k a1 a2 ((a2 ++ ((z0s l0_2 a1).f0)) ++ (⟨#[10]⟩ : ByteArray)) 0 l0_0 l0_1 l0_2) else (none)) else (none)) else (none)) else (none)
end
theorem z0C.z1t : ∀ k, (∀ y0 y1 y2 y3 y4, LeO (z0C.f k y0 y1 y2 y3 y4) (z0C.f (k + 1) y0 y1 y2 y3 y4)) ∧ (∀ y0 y1 y2 y3 y4 y5 y6, LeO (z0C.l0 k y0 y1 y2 y3 y4 y5 y6) (z0C.l0 (k + 1) y0 y1 y2 y3 y4 y5 y6))
 | 0 => ⟨fun _ _ _ _ _ r h => by simp [z0C.f] at h, fun _ _ _ _ _ _ _ r h => by simp [z0C.l0] at h⟩
 | k + 1 => by
  obtain ⟨ih0, ih1⟩ := z0C.z1t k
  refine ⟨?_, ?_⟩
  ·intro y0 y1 y2 y3 y4
   unfold z0C.f
   repeat' first
   | (with_reducible exact ih0 _ _ _ _ _)
   | (with_reducible exact ih1 _ _ _ _ _ _ _)
   | (with_reducible exact LeO.refl _)
   | (with_reducible exact LeO.none _)
   | (with_reducible refine LeO.ite ?_ ?_)
   | (with_reducible refine LeO.bind ?_ (fun _ => ?_))
  ·intro y0 y1 y2 y3 y4 y5 y6
   unfold z0C.l0
   repeat' first
   | (with_reducible exact ih0 _ _ _ _ _)
   | (with_reducible exact ih1 _ _ _ _ _ _ _)
   | (with_reducible exact LeO.refl _)
   | (with_reducible exact LeO.none _)
   | (with_reducible refine LeO.ite ?_ ?_)
   | (with_reducible refine LeO.bind ?_ (fun _ => ?_))
theorem z0C.mono : ∀ a0 a1 a2 a3 a4 k, LeO (z0C.f k a0 a1 a2 a3 a4) (z0C.f (k + 1) a0 a1 a2 a3 a4) := by
 intro a0 a1 a2 a3 a4 k
 obtain ⟨ih0, ih1⟩ := z0C.z1t k
 exact ih0 a0 a1 a2 a3 a4
set_option maxHeartbeats 8000000 in
set_option maxRecDepth 100000 in
theorem z0C.calls (k : Nat) : ∀ (z0U : Option Addr) (c0_0 : Nat) (l0_0 : List ByteArray) (z0X : Option Addr) (c0_1 : Nat) (l0_1 : List (z1J)) (z2c : Option Addr) (c0_2 : Nat) (l0_2 : List (S81)) (a1 : Int) (a2 : ByteArray) (r : ByteArray) (w : World) (hr0_0 : Kd.C Kd.string w z0U l0_0.length l0_0) (hc0_0 : l0_0.length ≤ c0_0) (hr0_1 : Kd.C z5a w z0X l0_1.length l0_1) (hc0_1 : l0_1.length ≤ c0_1) (hr0_2 : Kd.C k81 w z2c l0_2.length l0_2) (hc0_2 : l0_2.length ≤ c0_2) (h : z0C.f k l0_0 l0_1 l0_2 a1 a2 = some r),
  Calls Tryz.prog 65 #[.agg #[.slice z0U l0_0.length c0_0, .slice z0X l0_1.length c0_1, .slice z2c l0_2.length c0_2], .int .i64 a1, .string a2] w fun e w' => e = .returned (.string r) ∧ Below w.heap.size w w' := by
 induction k using Nat.strongRecOn with
 | _ k ih =>
 intro z0U c0_0 l0_0 z0X c0_1 l0_1 z2c c0_2 l0_2 a1 a2 r w hr0_0 hc0_0 hr0_1 hc0_1 hr0_2 hc0_2 h
 cases k with
 | zero => exact absurd h (by simp [z0C.f])
 | succ k =>
 simp only [z0C.f] at h
 have hu28 := Tryz.underlying28
 have z2g := z0a.mk hr0_0
 have z1g := z0a.mk hc0_0
 clear hr0_0 hc0_0
 have z2x := z0a.mk hr0_1
 have z1j := z0a.mk hc0_1
 clear hr0_1 hc0_1
 have z3X := z0a.mk hr0_2
 have z2T := z0a.mk hc0_2
 clear hr0_2 hc0_2
 have HB := z0a.mk (Below.refl w.heap.size w)
 have H : (if 0 ≤ a1 then (if a1 < (l0_2.length : Int) then (if a2.size + ((z0s l0_2 a1).f0).size ≤ 9223372036854775807 then (if (a2 ++ ((z0s l0_2 a1).f0)).size + 1 ≤ 9223372036854775807 then (z0C.l0 k a1 a2 ((a2 ++ ((z0s l0_2 a1).f0)) ++ (⟨#[10]⟩ : ByteArray)) 0 l0_0 l0_1 l0_2) else (none)) else (none)) else (none)) else (none)) = some r := h
 clear h
 by_cases c4 : 0 ≤ a1
 rotate_left
 ·rw [if_neg c4] at H
  exact absurd H (by simp)
 rw [if_pos c4] at H
 have c4b0 : decide (0 ≤ a1) = true := decide_eq_true c4
 clear c4
 by_cases c5 : a1 < (l0_2.length : Int)
 rotate_left
 ·rw [if_neg c5] at H
  exact absurd H (by simp)
 rw [if_pos c5] at H
 have c5b0 : decide (a1 < (l0_2.length : Int)) = true := decide_eq_true c5
 clear c5
 by_cases c6 : a2.size + ((z0s l0_2 a1).f0).size ≤ 9223372036854775807
 rotate_left
 ·rw [if_neg c6] at H
  exact absurd H (by simp)
 rw [if_pos c6] at H
 have c6b0 := eq_true c6
 have c6b1 : decide (a2.size + ((z0s l0_2 a1).f0).size ≤ 9223372036854775807) = true := decide_eq_true c6
 try have c6b2 : (9223372036854775807 < a2.size + ((z0s l0_2 a1).f0).size) = False := eq_false (Nat.not_lt.2 c6)
 by_cases c7 : (a2 ++ ((z0s l0_2 a1).f0)).size + 1 ≤ 9223372036854775807
 rotate_left
 ·rw [if_neg c7] at H
  exact absurd H (by simp)
 rw [if_pos c7] at H
 have c7b0 := eq_true c7
 have c7b1 : decide ((a2 ++ ((z0s l0_2 a1).f0)).size + 1 ≤ 9223372036854775807) = true := decide_eq_true c7
 try have c7b2 : (9223372036854775807 < (a2 ++ ((z0s l0_2 a1).f0)).size + 1) = False := eq_false (Nat.not_lt.2 c7)
 have c7s : (9223372036854775807 < a2.size + ((z0s l0_2 a1).f0).size + 1) = False := eq_false (by have h_ := c7; rw [ByteArray.size_append] at h_; omega)
 have H' := z0a.mk H
 clear H
 go_enter Tryz.func65, Tryz.ntmps65
 go_wp2_with (first | ((with_reducible refine z0o (N := 3) rfl ?_); refine zo (cs := #[.slice z0U l0_0.length c0_0, .slice z0X l0_1.length c0_1, .slice z2c l0_2.length c0_2]) (t := 28) ?_; intro gb345 hg w8 hbox hb; have y9S := z0a.mk hbox; have GW345 := zG HB hg; have GE345 := zG HB hg; replace HB := zB HB hb; clear hb hbox hg; obtain ⟨z5l, z5m, z9e, z5n, z5o, z9f⟩ := zc3 w8 y9S.out; have p346 : 0 ≤ (a1 : Int) := za; have q346 : a1 < (l0_2.length : Int) := za; obtain ⟨ad346, A346_2, c346_2, e346, y9T, y9U, y9V, x6d, x6e⟩ := z3e z3X.out a1 p346 q346; cases e346; replace y9T := zx HB y9T; replace y9U := zx HB y9U; replace y9V := zx HB y9V; have HR346_2 := z0a.mk x6e; have HC346_2 := z0a.mk x6d; clear x6e x6d; replace p346 := eq_true p346; replace q346 := eq_true q346))
 go_loopg [7, 8] k (fun kq v7 v8 w' => ∃ (x7_1 : ByteArray) (x8_1 : Int), v7 = .string x7_1 ∧ v8 = .int .i64 x8_1 ∧ z0a (z0C.l0 kq a1 a2 x7_1 x8_1 l0_0 l0_1 l0_2 = some r) ∧ z0a (kq ≤ k) ∧ z0a (w'.heap[gb345]? = some (.cells #[(.slice z0U l0_0.length c0_0), (.slice z0X l0_1.length c0_1), (.slice (some ad346) l0_2.length c0_2)] 28 (0, 0))) ∧ z0a (Below w.heap.size w w'))
 case atStart => exact ⟨((a2 ++ ((z0s l0_2 a1).f0)) ++ (⟨#[10]⟩ : ByteArray)), (0), ze, ze, H', ⟨Nat.le_refl _⟩, ⟨zk⟩, ⟨zb⟩⟩
 case round =>
  clear H'
  try clear c4
  try clear c4b0
  try clear c5
  try clear c5b0
  try clear c6
  try clear c6b0
  try clear c6b1
  try clear c6b2
  try clear c7
  try clear c7b0
  try clear c7b1
  try clear c7b2
  try clear z5l
  try clear z5m
  try clear z9e
  try clear z5n
  try clear z5o
  try clear z9f
  try clear y9T
  try clear y9U
  try clear y9V
  try clear p346
  try clear q346
  obtain ⟨x7_1, x8_1, rfl, rfl, HA, HK1, y9S, HB⟩ := hrel
  cases gk with
  | zero => exact absurd HA.out (by simp [z0C.l0])
  | succ k1 =>
   have H := HA.out
   clear HA
   simp only [z0C.l0] at H
   by_cases c10 : x8_1 < (l0_2.length : Int)
   rotate_left
   ·rw [if_neg c10] at H
    have c10b0 : decide (x8_1 < (l0_2.length : Int)) = false := decide_eq_false c10
    clear c10
    obtain rfl := Option.some.inj H
    obtain ⟨z6A, z8e, z8f, z6B, z8g, z8h⟩ := zc3 wr y9S.out
    go_wp2
    go_ret
    exact ⟨zr, zb⟩
   rw [if_pos c10] at H
   have c10b0 : decide (x8_1 < (l0_2.length : Int)) = true := decide_eq_true c10
   clear c10
   by_cases c11 : 0 ≤ x8_1
   rotate_left
   ·rw [if_neg c11] at H
    exact absurd H (by simp)
   rw [if_pos c11] at H
   have c11b0 : decide (0 ≤ x8_1) = true := decide_eq_true c11
   clear c11
   by_cases c12 : ((z0s l0_2 x8_1).f1) = a1
   rotate_left
   ·rw [if_neg c12] at H
    have c12b0 : (((z0s l0_2 x8_1).f1) == a1) = false := beq_eq_false_iff_ne.mpr c12
    have c12b1 : (((z0s l0_2 x8_1).f1) != a1) = true := bne_iff_ne.mpr c12
    have H' := z0a.mk H
    clear H
    obtain ⟨z4j, z4k, z4y, z4l, z4m, z4z⟩ := zc3 wr y9S.out
    have p347 : 0 ≤ (x8_1 : Int) := za
    have q347 : x8_1 < (l0_2.length : Int) := za
    obtain ⟨ad347, w3r, c347_2, e347, y3N, y3O, y3P, y3Q, y3R⟩ := z3e z3X.out x8_1 p347 q347
    obtain rfl : ad346 = ad347 := (by injection e347)
    replace y3N := zx HB y3N
    replace y3O := zx HB y3O
    replace y3P := zx HB y3P
    have w1X := z0a.mk y3R
    have w1Y := z0a.mk y3Q
    clear y3R y3Q
    replace p347 := eq_true p347
    replace q347 := eq_true q347
    go_wp2
    go_roundg k1
    case measure => have := HK1.out; omega
    case rel => exact ⟨(x7_1), (wrap64 (x8_1 + 1)), ze, ze, H', ⟨by have := HK1.out; omega⟩, ⟨zk⟩, ⟨zb⟩⟩
   rw [if_pos c12] at H
   have c12b0 : (((z0s l0_2 x8_1).f1) == a1) = true := beq_iff_eq.mpr c12
   have c12b1 : (((z0s l0_2 x8_1).f1) != a1) = false := bne_eq_false_iff_eq.mpr c12
   clear c12
   by_cases c13 : a2.size + 2 ≤ 9223372036854775807
   rotate_left
   ·rw [if_neg c13] at H
    exact absurd H (by simp)
   rw [if_pos c13] at H
   have c13b0 := eq_true c13
   have c13b1 : decide (a2.size + 2 ≤ 9223372036854775807) = true := decide_eq_true c13
   try have c13b2 : (9223372036854775807 < a2.size + 2) = False := eq_false (Nat.not_lt.2 c13)
   replace H := Option.bind_eq_some_iff.mp H
   obtain ⟨t348, A140, H⟩ := H
   replace H : (if x7_1.size + t348.size ≤ 9223372036854775807 then (z0C.l0 k1 a1 a2 (x7_1 ++ t348) (wrap64 (x8_1 + 1)) l0_0 l0_1 l0_2) else (none)) = some r := H
   have A14 := z0a.mk A140
   clear A140
   by_cases c15 : x7_1.size + t348.size ≤ 9223372036854775807
   rotate_left
   ·rw [if_neg c15] at H
    exact absurd H (by simp)
   rw [if_pos c15] at H
   have c15b0 := eq_true c15
   have c15b1 : decide (x7_1.size + t348.size ≤ 9223372036854775807) = true := decide_eq_true c15
   try have c15b2 : (9223372036854775807 < x7_1.size + t348.size) = False := eq_false (Nat.not_lt.2 c15)
   have H' := z0a.mk H
   clear H
   obtain ⟨z5Y, z6y, z8t, z5Z, z6z, z8u⟩ := zc3 wr y9S.out
   have p347 : 0 ≤ (x8_1 : Int) := za
   have q347 : x8_1 < (l0_2.length : Int) := za
   obtain ⟨ad347, w3r, c347_2, e347, y3N, y3O, y3P, y3Q, y3R⟩ := z3e z3X.out x8_1 p347 q347
   obtain rfl : ad346 = ad347 := (by injection e347)
   replace y3N := zx HB y3N
   replace y3O := zx HB y3O
   replace y3P := zx HB y3P
   have w1X := z0a.mk y3R
   have w1Y := z0a.mk y3Q
   clear y3R y3Q
   replace p347 := eq_true p347
   replace q347 := eq_true q347
   go_wp2_with (first | ((with_reducible refine z0m (f := 65) rfl ?_); refine z1a (some 38) rfl rfl Tryz.func65 (by kernel_rfl) rfl #[.agg #[.slice z0U l0_0.length c0_0, .slice z0X l0_1.length c0_1, .slice (some ad346) l0_2.length c0_2], .int .i64 x8_1, .string (a2 ++ (⟨#[32, 32]⟩ : ByteArray))] rfl zq ?_; (with_reducible refine (ih k1 (by have := HK1.out; omega) _ _ l0_0 _ _ l0_1 _ _ l0_2 x8_1 (a2 ++ (⟨#[32, 32]⟩ : ByteArray)) t348 _ ?z0M z1g.out ?z0Q z1j.out ?z1z z2T.out A14.out).mono ?_); (case z0M => exact zs); (case z0Q => exact zs); (case z1z => exact zs); rintro e w17 ⟨rfl, hb⟩; refine ⟨_, rfl, ?_⟩; replace y9S := zK y9S hb; replace HB := zB HB hb; (try clear hb)))
   go_roundg k1
   case measure => have := HK1.out; omega
   case rel => exact ⟨(x7_1 ++ t348), (wrap64 (x8_1 + 1)), ze, ze, H', ⟨by have := HK1.out; omega⟩, ⟨zk⟩, ⟨zb⟩⟩
def z1V.f (k : Nat) (l0_0 : List ByteArray) (l0_1 : List (z1J)) (l0_2 : List (S81)) : Option (ByteArray × Int) := (z0d.f k l0_0 l0_1 l0_2).bind fun t350 => (if t350 = 0 then ((z0C.f k l0_0 l0_1 l0_2 0 (⟨#[]⟩ : ByteArray)).bind fun t351 => (some (t351, 0))) else (some ((⟨#[]⟩ : ByteArray), t350)))
theorem z1V.mono : ∀ a0 a1 a2 k, LeO (z1V.f k a0 a1 a2) (z1V.f (k + 1) a0 a1 a2) := by
 intro a0 a1 a2 k
 unfold z1V.f
 repeat' first
   | (with_reducible exact z0d.mono _ _ _ _)
   | (with_reducible exact z0C.mono _ _ _ _ _ _)
   | (with_reducible exact LeO.refl _)
   | (with_reducible exact LeO.none _)
   | (with_reducible refine LeO.ite ?_ ?_)
   | (with_reducible refine LeO.bind ?_ (fun _ => ?_))
set_option maxHeartbeats 8000000 in
set_option maxRecDepth 100000 in
theorem z1V.calls (k : Nat) (z0U : Option Addr) (c0_0 : Nat) (l0_0 : List ByteArray) (z0X : Option Addr) (c0_1 : Nat) (l0_1 : List (z1J)) (z2c : Option Addr) (c0_2 : Nat) (l0_2 : List (S81)) (r1 : ByteArray) (r2 : Int) (w : World) (hr0_0 : Kd.C Kd.string w z0U l0_0.length l0_0) (hc0_0 : l0_0.length ≤ c0_0) (hr0_1 : Kd.C z5a w z0X l0_1.length l0_1) (hc0_1 : l0_1.length ≤ c0_1) (hr0_2 : Kd.C k81 w z2c l0_2.length l0_2) (hc0_2 : l0_2.length ≤ c0_2) (h : z1V.f k l0_0 l0_1 l0_2 = some (r1, r2)) :
  Calls Tryz.prog 21 #[.agg #[.slice z0U l0_0.length c0_0, .slice z0X l0_1.length c0_1, .slice z2c l0_2.length c0_2]] w fun e w' => e = .returned (.tuple #[.string r1, .int .i64 r2]) ∧ Below w.heap.size w w' := by
 have hu28 := Tryz.underlying28
 have z2g := z0a.mk hr0_0
 have z1g := z0a.mk hc0_0
 clear hr0_0 hc0_0
 have z2x := z0a.mk hr0_1
 have z1j := z0a.mk hc0_1
 clear hr0_1 hc0_1
 have z3X := z0a.mk hr0_2
 have z2T := z0a.mk hc0_2
 clear hr0_2 hc0_2
 have HB := z0a.mk (Below.refl w.heap.size w)
 have H : ((z0d.f k l0_0 l0_1 l0_2).bind fun t350 => (if t350 = 0 then ((z0C.f k l0_0 l0_1 l0_2 0 (⟨#[]⟩ : ByteArray)).bind fun t351 => (some (t351, 0))) else (some ((⟨#[]⟩ : ByteArray), t350)))) = some (r1, r2) := h
 clear h
 replace H := Option.bind_eq_some_iff.mp H
 obtain ⟨t350, A20, H⟩ := H
 replace H : (if t350 = 0 then ((z0C.f k l0_0 l0_1 l0_2 0 (⟨#[]⟩ : ByteArray)).bind fun t351 => (some (t351, 0))) else (some ((⟨#[]⟩ : ByteArray), t350))) = some (r1, r2) := H
 have A2 := z0a.mk A20
 clear A20
 by_cases c3 : t350 = 0
 rotate_left
 ·rw [if_neg c3] at H
  have c3b0 : (t350 == 0) = false := beq_eq_false_iff_ne.mpr c3
  have c3b1 : (t350 != 0) = true := bne_iff_ne.mpr c3
  simp only [Option.some.injEq, Prod.mk.injEq] at H
  obtain ⟨rfl, rfl⟩ := H
  go_enter Tryz.func21, Tryz.ntmps21
  go_wp2_with (first | ((with_reducible refine z0o (N := 1) rfl ?_); refine zo (cs := #[.slice z0U l0_0.length c0_0, .slice z0X l0_1.length c0_1, .slice z2c l0_2.length c0_2]) (t := 28) ?_; intro gb349 hg w10 hbox hb; have y4o := z0a.mk hbox; have GW349 := zG HB hg; have GE349 := zG HB hg; replace HB := zB HB hb; clear hb hbox hg; obtain ⟨z3M, z6J, z6K, z3N, z6L, z6M⟩ := zc3 w10 y4o.out) | ((with_reducible refine z0m (f := 37) rfl ?_); refine z1a (some 6) rfl rfl Tryz.func37 (by kernel_rfl) rfl #[.agg #[.slice z0U l0_0.length c0_0, .slice z0X l0_1.length c0_1, .slice z2c l0_2.length c0_2]] rfl zq ?_; (with_reducible refine (z0d.calls k _ _ l0_0 _ _ l0_1 _ _ l0_2 t350 _ ?z0M z1g.out ?z0Q z1j.out ?z1z z2T.out A2.out).mono ?_); (case z0M => exact zs); (case z0Q => exact zs); (case z1z => exact zs); rintro e w12 ⟨rfl, hb⟩; refine ⟨_, rfl, ?_⟩; replace y4o := zK y4o hb; replace HB := zB HB hb; (try clear hb)))
  go_ret2
  exact ⟨zr, zb⟩
 rw [if_pos c3] at H
 have c3b0 : (t350 == 0) = true := beq_iff_eq.mpr c3
 have c3b1 : (t350 != 0) = false := bne_eq_false_iff_eq.mpr c3
 clear c3
 replace H := Option.bind_eq_some_iff.mp H
 obtain ⟨t351, A40, H⟩ := H
 replace H : (some (t351, 0)) = some (r1, r2) := H
 have A4 := z0a.mk A40
 clear A40
 simp only [Option.some.injEq, Prod.mk.injEq] at H
 obtain ⟨rfl, rfl⟩ := H
 go_enter Tryz.func21, Tryz.ntmps21
 go_wp2_with (first | ((with_reducible refine z0o (N := 1) rfl ?_); refine zo (cs := #[.slice z0U l0_0.length c0_0, .slice z0X l0_1.length c0_1, .slice z2c l0_2.length c0_2]) (t := 28) ?_; intro gb349 hg w5 hbox hb; have y4o := z0a.mk hbox; have GW349 := zG HB hg; have GE349 := zG HB hg; replace HB := zB HB hb; clear hb hbox hg; obtain ⟨z8a, z8b, y0c, z8c, z8d, y0d⟩ := zc3 w5 y4o.out) | ((with_reducible refine z0m (f := 37) rfl ?_); refine z1a (some 6) rfl rfl Tryz.func37 (by kernel_rfl) rfl #[.agg #[.slice z0U l0_0.length c0_0, .slice z0X l0_1.length c0_1, .slice z2c l0_2.length c0_2]] rfl zq ?_; (with_reducible refine (z0d.calls k _ _ l0_0 _ _ l0_1 _ _ l0_2 t350 _ ?z0M z1g.out ?z0Q z1j.out ?z1z z2T.out A2.out).mono ?_); (case z0M => exact zs); (case z0Q => exact zs); (case z1z => exact zs); rintro e w7 ⟨rfl, hb⟩; refine ⟨_, rfl, ?_⟩; replace y4o := zK y4o hb; replace HB := zB HB hb; (try clear hb); obtain ⟨y1c, y4A, x7U, y1d, y4B, x7V⟩ := zc3 w7 y4o.out) | ((with_reducible refine z0m (f := 65) rfl ?_); refine z1a (some 11) rfl rfl Tryz.func65 (by kernel_rfl) rfl #[.agg #[.slice z0U l0_0.length c0_0, .slice z0X l0_1.length c0_1, .slice z2c l0_2.length c0_2], .int .i64 0, .string (⟨#[]⟩ : ByteArray)] rfl zq ?_; (with_reducible refine (z0C.calls k _ _ l0_0 _ _ l0_1 _ _ l0_2 0 (⟨#[]⟩ : ByteArray) t351 _ ?z0M z1g.out ?z0Q z1j.out ?z1z z2T.out A4.out).mono ?_); (case z0M => exact zs); (case z0Q => exact zs); (case z1z => exact zs); rintro e w9 ⟨rfl, hb⟩; refine ⟨_, rfl, ?_⟩; replace y4o := zK y4o hb; replace HB := zB HB hb; (try clear hb)))
 go_ret2
 exact ⟨zr, zb⟩
def z0D.l0 : Nat → List Int → List Int → Int → Option (Bool)
 | 0, _, _, _ => none
 | k + 1, x0, x1, x5 => if x5 < (x0.length : Int) then (if 0 ≤ x5 then (if x5 < (x1.length : Int) then (if (rd x0 x5) = (rd x1 x5) then (z0D.l0 k x0 x1 (wrap64 (x5 + 1))) else (some false)) else (none)) else (none)) else (some true)
def z0D.f (k : Nat) (l0 : List Int) (l1 : List Int) : Option (Bool) := if (l0.length : Int) = (l1.length : Int) then (z0D.l0 k l0 l1 0) else (some false)
theorem z0D.z1t : ∀ k, (∀ y0 y1 y2, LeO (z0D.l0 k y0 y1 y2) (z0D.l0 (k + 1) y0 y1 y2))
 | 0 => fun _ _ _ r h => by simp [z0D.l0] at h
 | k + 1 => by
  have ih0 := z0D.z1t k
  ·intro y0 y1 y2
   unfold z0D.l0
   repeat' first
   | (with_reducible exact ih0 _ _ _)
   | (with_reducible exact LeO.refl _)
   | (with_reducible exact LeO.none _)
   | (with_reducible refine LeO.ite ?_ ?_)
   | (with_reducible refine LeO.bind ?_ (fun _ => ?_))
theorem z0D.mono : ∀ a0 a1 k, LeO (z0D.f k a0 a1) (z0D.f (k + 1) a0 a1) := by
 intro a0 a1 k
 have ih0 := z0D.z1t k
 unfold z0D.f
 repeat' first
   | (with_reducible exact ih0 _ _ _)
   | (with_reducible exact LeO.refl _)
   | (with_reducible exact LeO.none _)
   | (with_reducible refine LeO.ite ?_ ?_)
   | (with_reducible refine LeO.bind ?_ (fun _ => ?_))
set_option maxHeartbeats 8000000 in
set_option maxRecDepth 100000 in
theorem z0D.calls (k : Nat) (A0 : Option Addr) (c0 : Nat) (l0 : List Int) (A1 : Option Addr) (c1 : Nat) (l1 : List Int) (r : Bool) (w : World) (hr0 : Kd.C (Kd.int .i64) w A0 l0.length l0) (hc0 : l0.length ≤ c0) (hr1 : Kd.C (Kd.int .i64) w A1 l1.length l1) (hc1 : l1.length ≤ c1) (h : z0D.f k l0 l1 = some r) :
  Calls Tryz.prog 22 #[.slice A0 l0.length c0, .slice A1 l1.length c1] w fun e w' => e = .returned (.bool r) ∧ z1v w w' := by
 have HR0 := z0a.mk hr0
 have HC0 := z0a.mk hc0
 clear hr0 hc0
 have HR1 := z0a.mk hr1
 have HC1 := z0a.mk hc1
 clear hr1 hc1
 have H : (if (l0.length : Int) = (l1.length : Int) then (z0D.l0 k l0 l1 0) else (some false)) = some r := h
 clear h
 by_cases c3 : (l0.length : Int) = (l1.length : Int)
 rotate_left
 ·rw [if_neg c3] at H
  have c3b0 : ((l0.length : Int) == (l1.length : Int)) = false := beq_eq_false_iff_ne.mpr c3
  have c3b1 : ((l0.length : Int) != (l1.length : Int)) = true := bne_iff_ne.mpr c3
  have c3b2 : (l0.length == l1.length) = false := by first | simpa using c3 | (simp at c3 ⊢; omega)
  obtain rfl := Option.some.inj H
  go_enter Tryz.func22, Tryz.ntmps22
  go_wp2
  repeat (go_quiet (fail); try go_wp2)
  go_ret
  exact ⟨ze, zd⟩
 rw [if_pos c3] at H
 have c3b0 : ((l0.length : Int) == (l1.length : Int)) = true := beq_iff_eq.mpr c3
 have c3b1 : ((l0.length : Int) != (l1.length : Int)) = false := bne_eq_false_iff_eq.mpr c3
 have c3b2 : (l0.length == l1.length) = true := by first | simpa using c3 | (simp at c3 ⊢; omega)
 clear c3
 have H' := z0a.mk H
 clear H
 go_enter Tryz.func22, Tryz.ntmps22
 go_wp2
 repeat (go_quiet (fail); try go_wp2)
 go_loopg [5] k (fun kq v5 w' => ∃ (x5_1 : Int), v5 = .int .i64 x5_1 ∧ z0a (z0D.l0 kq l0 l1 x5_1 = some r) ∧ z0a (kq ≤ k) ∧ z1v w w')
 case atStart => exact ⟨(0), ze, H', ⟨Nat.le_refl _⟩, by repeat (first | exact z1v.refl _ | apply z1v.step)⟩
 case round =>
  clear H'
  try clear c1
  try clear c3
  try clear c3b0
  try clear c3b1
  try clear c3b2
  obtain ⟨x5_1, rfl, HA, HK1, ⟨m1, rfl⟩⟩ := hrel
  cases gk with
  | zero => exact absurd HA.out (by simp [z0D.l0])
  | succ k1 =>
   have H := HA.out
   clear HA
   simp only [z0D.l0] at H
   by_cases c4 : x5_1 < (l0.length : Int)
   rotate_left
   ·rw [if_neg c4] at H
    have c4b0 : decide (x5_1 < (l0.length : Int)) = false := decide_eq_false c4
    clear c4
    obtain rfl := Option.some.inj H
    go_wp2
    repeat (go_quiet (fail); try go_wp2)
    go_ret
    exact ⟨ze, zd⟩
   rw [if_pos c4] at H
   have c4b0 : decide (x5_1 < (l0.length : Int)) = true := decide_eq_true c4
   clear c4
   by_cases c5 : 0 ≤ x5_1
   rotate_left
   ·rw [if_neg c5] at H
    exact absurd H (by simp)
   rw [if_pos c5] at H
   have c5b0 : decide (0 ≤ x5_1) = true := decide_eq_true c5
   clear c5
   by_cases c6 : x5_1 < (l1.length : Int)
   rotate_left
   ·rw [if_neg c6] at H
    exact absurd H (by simp)
   rw [if_pos c6] at H
   have c6b0 : decide (x5_1 < (l1.length : Int)) = true := decide_eq_true c6
   clear c6
   by_cases c7 : (rd l0 x5_1) = (rd l1 x5_1)
   rotate_left
   ·rw [if_neg c7] at H
    have c7b0 : ((rd l0 x5_1) == (rd l1 x5_1)) = false := beq_eq_false_iff_ne.mpr c7
    have c7b1 : ((rd l0 x5_1) != (rd l1 x5_1)) = true := bne_iff_ne.mpr c7
    obtain rfl := Option.some.inj H
    have p352 : 0 ≤ (x5_1 : Int) := za
    have q352 : x5_1 < (l0.length : Int) := za
    obtain ⟨ad352, e352, w1Z⟩ := Kd.z3d HR0.out x5_1 p352 q352
    cases e352
    replace p352 := eq_true p352
    replace q352 := eq_true q352
    have p353 : 0 ≤ (x5_1 : Int) := za
    have q353 : x5_1 < (l1.length : Int) := za
    obtain ⟨ad353, e353, w2a⟩ := Kd.z3d HR1.out x5_1 p353 q353
    cases e353
    replace p353 := eq_true p353
    replace q353 := eq_true q353
    go_wp2
    repeat (go_quiet (fail); try go_wp2)
    go_ret
    exact ⟨ze, zd⟩
   rw [if_pos c7] at H
   have c7b0 : ((rd l0 x5_1) == (rd l1 x5_1)) = true := beq_iff_eq.mpr c7
   have c7b1 : ((rd l0 x5_1) != (rd l1 x5_1)) = false := bne_eq_false_iff_eq.mpr c7
   clear c7
   have H' := z0a.mk H
   clear H
   have p352 : 0 ≤ (x5_1 : Int) := za
   have q352 : x5_1 < (l0.length : Int) := za
   obtain ⟨ad352, e352, w1Z⟩ := Kd.z3d HR0.out x5_1 p352 q352
   cases e352
   replace p352 := eq_true p352
   replace q352 := eq_true q352
   have p353 : 0 ≤ (x5_1 : Int) := za
   have q353 : x5_1 < (l1.length : Int) := za
   obtain ⟨ad353, e353, w2a⟩ := Kd.z3d HR1.out x5_1 p353 q353
   cases e353
   replace p353 := eq_true p353
   replace q353 := eq_true q353
   go_wp2
   repeat (go_quiet (fail); try go_wp2)
   go_roundg k1
   case measure => have := HK1.out; omega
   case rel => exact ⟨(wrap64 (x5_1 + 1)), ze, H', ⟨by have := HK1.out; omega⟩, by repeat (first | exact z1v.refl _ | apply z1v.step)⟩
theorem eqA54 (d : Nat) (w : World) (x0 y0 : Int) (x1 y1 : Int) (x2 y2 : Int) :
  (Op.equalIn (d + 2) 54 (.agg #[.int .i32 x0, .int .u32 x1, .int .u32 x2]) (.agg #[.int .i32 y0, .int .u32 y1, .int .u32 y2])).run Tryz.prog w = .ok (x0 == y0 && (x1 == y1 && (x2 == y2))) w := by
 refine x7N Tryz.underlying54 (by kernel_rfl) ?_
 refine z9Y (by rfl) (by go_simp; rfl) (by go_simp; rfl) (by go_simp) ?_
 refine z9Y (by rfl) (by go_simp; rfl) (by go_simp; rfl) (by go_simp) ?_
 exact x0u (by rfl) (by go_simp; rfl) (by go_simp; rfl) (by go_simp)
theorem eqA56 (d : Nat) (w : World) (x0 y0 : Int) (x1 y1 : Int) (x2 y2 : Int) (x3 y3 : Int) :
  (Op.equalIn (d + 2) 56 (.agg #[.int .i32 x0, .int .i64 x1, .int .u32 x2, .int .u32 x3]) (.agg #[.int .i32 y0, .int .i64 y1, .int .u32 y2, .int .u32 y3])).run Tryz.prog w = .ok (x0 == y0 && (x1 == y1 && (x2 == y2 && (x3 == y3)))) w := by
 refine x7N Tryz.underlying56 (by kernel_rfl) ?_
 refine z9Y (by rfl) (by go_simp; rfl) (by go_simp; rfl) (by go_simp) ?_
 refine z9Y (by rfl) (by go_simp; rfl) (by go_simp; rfl) (by go_simp) ?_
 refine z9Y (by rfl) (by go_simp; rfl) (by go_simp; rfl) (by go_simp) ?_
 exact x0u (by rfl) (by go_simp; rfl) (by go_simp; rfl) (by go_simp)
end Go.Proofs.YtplkoabikliagaaGreatDoor.K
namespace Go.Proofs.YtplkoabikliagaaGreatDoor.K
open Go.RowKit Go.Proofs.YtplkoabikliagaaGreatDoorW.PrintWords Go.Proofs.YtplkoabikliagaaGreatDoorW.PrintLast Go.Proofs.YtplkoabikliagaaGreatDoorW.PrintMore
open Go.Proofs.YtplkoabikliagaaGreatDoor.L
attribute [local go_sem ↓] Go.wp_at_zero Go.wp_at_succ
attribute [local go_sem high] eqA54 eqA56
theorem x7l (w : World) (o o' : Obj) : ((w.alloc o).alloc o').heap[w.heap.size + 1]? = some o' := by
 have := z9j (w.alloc o) o'
 rwa [show (w.alloc o).heap.size = w.heap.size + 1 from by simp] at this
set_option maxHeartbeats 8000000 in
set_option maxRecDepth 100000 in
theorem y4F (A : Option Addr) (c : Nat) (A' : Option Addr) (c' : Nat) (t : List S58) (w : World) (hr : Kd.C k58 w A t.length t) (hr' : Kd.C k58 w A' t.length t) :
  Calls Tryz.prog 101 #[.agg #[.slice A t.length c], .agg #[.slice A' t.length c']] w fun e w' => e = .returned (.bool true) ∧ Below w.heap.size w w' := by
 have hm := Kd.y1m hr
 have HR := z0a.mk hr
 have HR' := z0a.mk hr'
 clear hr hr'
 have hu49 := Tryz.underlying49
 have hu58 := Tryz.underlying58
 have HS := z0a.mk (St.start w)
 go_enter Tryz.func101, Tryz.ntmps101
 go_wp2_with (first | ((with_reducible refine z0o (N := 2) rfl ?_); refine z2t HS.out rfl (cs := #[.slice A t.length c]) (t := 49) ?hr ?_; (case hr => first | (go_simp; done) | (go_simp; rfl)); clear HS; intro g2 w_g2 hs hb; have HS := z0a.mk hs; clear hs hb; (try clear hc_g2 hf_g2); obtain ⟨hc_g2, hf_g2⟩ := HS.out.cell 0 rfl) | ((with_reducible refine z0o (N := 3) rfl ?_); refine z2t HS.out rfl (cs := #[.slice A' t.length c']) (t := 49) ?hr ?_; (case hr => first | (go_simp; done) | (go_simp; rfl)); clear HS; intro g3 w_g3 hs hb; have HS := z0a.mk hs; clear hs hb; (try clear hc_g3 hf_g3); obtain ⟨hc_g3, hf_g3⟩ := HS.out.cell 0 rfl; (try clear hc_g2 hf_g2); obtain ⟨hc_g2, hf_g2⟩ := HS.out.cell 1 rfl))
 have hg2 := HS.out.lt 1 rfl
 have hg3 := HS.out.lt 0 rfl
 have hge := HS.out.below.size
 clear hc_g2 hf_g2 hc_g3 hf_g3
 go_loopg [5] t.length (fun kq v5 wr => ∃ i : Nat, i ≤ t.length ∧ v5 = .int .i64 i ∧ kq = t.length - i ∧ z0a (Below w_g3.heap.size w_g3 wr))
 case atStart => exact ⟨0, Nat.zero_le _, rfl, rfl, ⟨Below.refl _ _⟩⟩
 case round =>
  obtain ⟨i, hi, rfl, hkq, HB⟩ := hrel
  have hbb := HB.out.size
  have HSR := z0a.mk (HS.out.down HB.out)
  obtain ⟨hc_g2, hf_g2⟩ := HSR.out.cell 1 rfl
  obtain ⟨hc_g3, hf_g3⟩ := HSR.out.cell 0 rfl
  by_cases hlt : i < t.length
  ·obtain ⟨ad, A4, c4, hA, y0, y1, y2, y3, y4, yl, yk⟩ := z3y (Kd.z0t HR.out HSR.out.below) (i : Int) (by omega) (by omega)
   obtain ⟨ad', A4', c4', hA', y0', y1', y2', y3', y4', yl', yk'⟩ := z3y (Kd.z0t HR'.out HSR.out.below) (i : Int) (by omega) (by omega)
   subst hA; subst hA'
   rw [Int.toNat_natCast] at y0 y1 y2 y3 y4 y0' y1' y2' y3' y4'
   obtain ⟨x, hx⟩ : ∃ x, x = z0g t (i : Int) := ⟨_, rfl⟩
   rw [← hx] at y0 y1 y2 y3 y4 yl yk y0' y1' y2' y3' y4' yl' yk'
   have hkm := Kd.y1m yk
   have YK := z0a.mk yk
   have YK' := z0a.mk yk'
   clear yk yk' yl yl' hx
   go_upto_region 6 with fail
   go_cut [6, 7] (fun s6 s7 wx => ∃ p q : Nat, s6 = .pointer (some ⟨p, 0, none⟩) ∧ s7 = .pointer (some ⟨q, 0, none⟩) ∧ z0a (wx.heap[p]? = some (.cells #[.int .u8 x.f0, .int .i32 x.f1, .int .u32 x.f2, .int .u32 x.f3, .slice A4 x.f4.length c4] 58 (0, 0)) ∧ wx.heap[q]? = some (.cells #[.int .u8 x.f0, .int .i32 x.f1, .int .u32 x.f2, .int .u32 x.f3, .slice A4' x.f4.length c4'] 58 (0, 0))) ∧ z0a (Below wr.heap.size wr wx))
   case first =>
    go_region_held3 (fun w' => w'.cell? ⟨g2, 0, none⟩ = some (.slice (some ad) t.length c) ∧ w'.cell? ⟨g3, 0, none⟩ = some (.slice (some ad') t.length c') ∧ w'.cell? (ad.add (i * 5)) = some (.int .u8 x.f0) ∧ w'.cell? ⟨(ad.add (i * 5)).block, (ad.add (i * 5)).off + 1, none⟩ = some (.int .i32 x.f1) ∧ w'.cell? ⟨(ad.add (i * 5)).block, (ad.add (i * 5)).off + 2, none⟩ = some (.int .u32 x.f2) ∧ w'.cell? ⟨(ad.add (i * 5)).block, (ad.add (i * 5)).off + 3, none⟩ = some (.int .u32 x.f3) ∧ w'.cell? ⟨(ad.add (i * 5)).block, (ad.add (i * 5)).off + 4, none⟩ = some (.slice A4 x.f4.length c4) ∧ w'.cell? (ad'.add (i * 5)) = some (.int .u8 x.f0) ∧ w'.cell? ⟨(ad'.add (i * 5)).block, (ad'.add (i * 5)).off + 1, none⟩ = some (.int .i32 x.f1) ∧ w'.cell? ⟨(ad'.add (i * 5)).block, (ad'.add (i * 5)).off + 2, none⟩ = some (.int .u32 x.f2) ∧ w'.cell? ⟨(ad'.add (i * 5)).block, (ad'.add (i * 5)).off + 3, none⟩ = some (.int .u32 x.f3) ∧ w'.cell? ⟨(ad'.add (i * 5)).block, (ad'.add (i * 5)).off + 4, none⟩ = some (.slice A4' x.f4.length c4')) (go_keep) (fail)
    all_goals (go_wp2_with fail; go_meet)
    all_goals (refine ⟨_, _, rfl, rfl, ⟨?_, ?_⟩, ⟨((Below.refl _ _).alloc (Nat.le_refl _) _).alloc (by simp) _ |>.drew⟩⟩)
    all_goals first | exact z0e (z0b (z9j _ _) _) | exact z0e (x7l _ _ _)
   case rest =>
    obtain ⟨p, q, rfl, rfl, HPQ, HBX⟩ := hcut
    have hbx := HBX.out.size
    have hp := z4s HPQ.out.1
    have hq := z4s HPQ.out.2
    obtain ⟨z0, z1, z2, z3, z4, zf⟩ : wc.cell? ⟨p, 0, none⟩ = some (.int .u8 x.f0) ∧ wc.cell? ⟨p, 1, none⟩ = some (.int .i32 x.f1) ∧ wc.cell? ⟨p, 2, none⟩ = some (.int .u32 x.f2) ∧ wc.cell? ⟨p, 3, none⟩ = some (.int .u32 x.f3) ∧ wc.cell? ⟨p, 4, none⟩ = some (.slice A4 x.f4.length c4) ∧ True := ⟨(z0p HPQ.out.1 0).trans rfl, (z0p HPQ.out.1 1).trans rfl, (z0p HPQ.out.1 2).trans rfl, (z0p HPQ.out.1 3).trans rfl, (z0p HPQ.out.1 4).trans rfl, trivial⟩
    obtain ⟨t0, t1, t2, t3, t4, tf⟩ : wc.cell? ⟨q, 0, none⟩ = some (.int .u8 x.f0) ∧ wc.cell? ⟨q, 1, none⟩ = some (.int .i32 x.f1) ∧ wc.cell? ⟨q, 2, none⟩ = some (.int .u32 x.f2) ∧ wc.cell? ⟨q, 3, none⟩ = some (.int .u32 x.f3) ∧ wc.cell? ⟨q, 4, none⟩ = some (.slice A4' x.f4.length c4') ∧ True := ⟨(z0p HPQ.out.2 0).trans rfl, (z0p HPQ.out.2 1).trans rfl, (z0p HPQ.out.2 2).trans rfl, (z0p HPQ.out.2 3).trans rfl, (z0p HPQ.out.2 4).trans rfl, trivial⟩
    clear y0 y1 y2 y3 y4 y0' y1' y2' y3' y4' hc_g2 hf_g2 hc_g3 hf_g3 zf tf
    go_wp2
    clear z0 z1 z2 z3 z4 t0 t1 t2 t3 t4
    go_loopg [8] x.f4.length (fun kj v8 wq => ∃ j : Nat, j ≤ x.f4.length ∧ v8 = .int .i64 j ∧ kj = x.f4.length - j ∧ z0a (Below wc.heap.size wc wq))
    case atStart => exact ⟨0, Nat.zero_le _, rfl, rfl, ⟨Below.refl _ _⟩⟩
    case round =>
     obtain ⟨j, hj, rfl, hkj, HBQ⟩ := hrel
     have hbq := HBQ.out.size
     have z4 : wr.cell? ⟨p, 4, none⟩ = some (.slice A4 x.f4.length c4) := (z0p ((HBQ.out.block _ hp).trans HPQ.out.1) 4).trans rfl
     have t4 : wr.cell? ⟨q, 4, none⟩ = some (.slice A4' x.f4.length c4') := (z0p ((HBQ.out.block _ hq).trans HPQ.out.2) 4).trans rfl
     by_cases hlj : j < x.f4.length
     ·have hall := HBX.out.trans (HBQ.out.mono hbx)
      obtain ⟨a4, hA4, i4⟩ := Kd.z3d (Kd.z0t YK.out hall) (j : Int) (by omega) (by omega)
      obtain ⟨a4', hA4', i4'⟩ := Kd.z3d (Kd.z0t YK'.out hall) (j : Int) (by omega) (by omega)
      subst hA4; subst hA4'
      rw [Int.toNat_natCast] at i4 i4'
      clear hall
      have b1 : (0 : Int) ≤ (j : Int) := by omega
      have b2 : (j : Int) < (x.f4.length : Int) := by omega
      go_wp2
      go_quiet (fail)
      go_wp2
      go_roundg (x.f4.length - (j + 1))
      case measure => omega
      case rel => exact ⟨j + 1, by omega, by go_num, rfl, ⟨by first | exact HBQ.out | exact z1d HBQ.out _ | exact z4r HBQ.out⟩⟩
     ·have hje : j = x.f4.length := by omega
      go_wp2
      go_roundg (t.length - (i + 1))
      case measure => omega
      case rel => exact ⟨i + 1, by omega, by go_num, rfl, ⟨HB.out.trans ((HBX.out.trans (HBQ.out.mono hbx)).mono hbb)⟩⟩
  ·have hie : i = t.length := by omega
   go_wp2
   go_ret
   exact ⟨rfl, HSR.out.below⟩
set_option maxHeartbeats 8000000 in
set_option maxRecDepth 100000 in
theorem x1l (x : S51) (A1 A2 A3 A4 B1 B2 B3 B4 : Option Addr) (d1 d2 d3 d4 e1 e2 e3 e4 : Nat) (w : World)
  (h1 : Kd.C k54 w A1 x.f1.length x.f1) (h2 : Kd.C k56 w A2 x.f2.length x.f2) (h3 : Kd.C k58 w A3 x.f3.f0.length x.f3.f0) (h4 : Kd.C k58 w A4 x.f4.f0.length x.f4.f0)
  (h1' : Kd.C k54 w B1 x.f1.length x.f1) (h2' : Kd.C k56 w B2 x.f2.length x.f2) (h3' : Kd.C k58 w B3 x.f3.f0.length x.f3.f0) (h4' : Kd.C k58 w B4 x.f4.f0.length x.f4.f0) :
  Calls Tryz.prog 66 #[.agg #[.string x.f0, .slice A1 x.f1.length d1, .slice A2 x.f2.length d2, .slice A3 x.f3.f0.length d3, .slice A4 x.f4.f0.length d4, .int .u8 x.f5, .bool x.f6], .agg #[.string x.f0, .slice B1 x.f1.length e1, .slice B2 x.f2.length e2, .slice B3 x.f3.f0.length e3, .slice B4 x.f4.f0.length e4, .int .u8 x.f5, .bool x.f6]] w fun e w' => e = .returned (.bool true) ∧ Below w.heap.size w w' := by
 have hm1 := Kd.y1m h1
 have hm2 := Kd.y1m h2
 have H1 := z0a.mk h1
 have H2 := z0a.mk h2
 have H3 := z0a.mk h3
 have H4 := z0a.mk h4
 have H1' := z0a.mk h1'
 have H2' := z0a.mk h2'
 have H3' := z0a.mk h3'
 have H4' := z0a.mk h4'
 clear h1 h2 h3 h4 h1' h2' h3' h4'
 have hu51 := Tryz.underlying51
 have hu54 := Tryz.underlying54
 have hu56 := Tryz.underlying56
 have HS := z0a.mk (St.start w)
 go_enter Tryz.func66, Tryz.ntmps66
 go_upto_region 1 with (first | ((with_reducible refine z0o (N := 2) rfl ?_); refine z2t HS.out rfl (cs := #[.string x.f0, .slice A1 x.f1.length d1, .slice A2 x.f2.length d2, .slice A3 x.f3.f0.length d3, .slice A4 x.f4.f0.length d4, .int .u8 x.f5, .bool x.f6]) (t := 51) ?hr ?_; (case hr => first | (go_simp; done) | (go_simp; rfl)); clear HS; intro g2 w_g2 hs hb; have HS := z0a.mk hs; clear hs hb; (try clear hc_g2 hf_g2); obtain ⟨hc_g2, hf_g2⟩ := HS.out.cell 0 rfl) | ((with_reducible refine z0o (N := 3) rfl ?_); refine z2t HS.out rfl (cs := #[.string x.f0, .slice B1 x.f1.length e1, .slice B2 x.f2.length e2, .slice B3 x.f3.f0.length e3, .slice B4 x.f4.f0.length e4, .int .u8 x.f5, .bool x.f6]) (t := 51) ?hr ?_; (case hr => first | (go_simp; done) | (go_simp; rfl)); clear HS; intro g3 w_g3 hs hb; have HS := z0a.mk hs; clear hs hb; (try clear hc_g3 hf_g3); obtain ⟨hc_g3, hf_g3⟩ := HS.out.cell 0 rfl; (try clear hc_g2 hf_g2); obtain ⟨hc_g2, hf_g2⟩ := HS.out.cell 1 rfl))
 have HS3 := HS
 have HBL := z0a.mk (Below.refl w_g3.heap.size w_g3)
 go_wp2_with (first | (go_at_call 101; ((with_reducible refine (y4F A3 d3 B3 e3 x.f3.f0 _ (Kd.z0t H3.out HS.out.below) (Kd.z0t H3'.out HS.out.below)).mono ?_); rintro e w1 ⟨rfl, hb⟩); have hs := HS.out.down hb; have hbl := HBL.out.trans (hb.mono HBL.out.size); clear HS HBL; have HS := z0a.mk hs; have HBL := z0a.mk hbl; clear hs hb hbl; skip; (try clear hc_g3 hf_g3); obtain ⟨hc_g3, hf_g3⟩ := HS.out.cell 0 rfl; (try clear hc_g2 hf_g2); obtain ⟨hc_g2, hf_g2⟩ := HS.out.cell 1 rfl) | (go_at_call 101; ((with_reducible refine (y4F A4 d4 B4 e4 x.f4.f0 _ (Kd.z0t H4.out HS.out.below) (Kd.z0t H4'.out HS.out.below)).mono ?_); rintro e w1 ⟨rfl, hb⟩); have hs := HS.out.down hb; have hbl := HBL.out.trans (hb.mono HBL.out.size); clear HS HBL; have HS := z0a.mk hs; have HBL := z0a.mk hbl; clear hs hb hbl; skip; (try clear hc_g3 hf_g3); obtain ⟨hc_g3, hf_g3⟩ := HS.out.cell 0 rfl; (try clear hc_g2 hf_g2); obtain ⟨hc_g2, hf_g2⟩ := HS.out.cell 1 rfl))
 clear HS
 have HS := HS3
 clear HS3 hc_g2 hf_g2 hc_g3 hf_g3
 go_loopg [5] x.f1.length (fun kq v wr => ∃ i : Nat, i ≤ x.f1.length ∧ v = .int .i64 i ∧ kq = x.f1.length - i ∧ z0a (Below w_g3.heap.size w_g3 wr))
 case atStart => exact ⟨0, Nat.zero_le _, rfl, rfl, HBL⟩
 case round =>
  obtain ⟨i, hi, rfl, hkq, HB⟩ := hrel
  have hbb := HB.out.size
  have HSR := z0a.mk (HS.out.down HB.out)
  have hc_g2 := (HSR.out.cell 1 rfl).1 1
  have hc_g3 := (HSR.out.cell 0 rfl).1 1
  simp only [List.getElem?_toArray, List.getElem?_cons_succ, List.getElem?_cons_zero] at hc_g2 hc_g3
  by_cases hlt : i < x.f1.length
  ·obtain ⟨ad, hA, y0, y1, y2⟩ := z9b (Kd.z0t H1.out HSR.out.below) (i : Int) (by omega) (by omega)
   obtain ⟨ad', hA', y0', y1', y2'⟩ := z9b (Kd.z0t H1'.out HSR.out.below) (i : Int) (by omega) (by omega)
   subst hA; subst hA'
   rw [Int.toNat_natCast] at y0 y1 y2 y0' y1' y2'
   have b1 : (0 : Int) ≤ (i : Int) := by omega
   have b2 : (i : Int) < (x.f1.length : Int) := by omega
   go_wp2
   go_quiet (fail)
   go_wp2
   go_roundg (x.f1.length - (i + 1))
   case measure => omega
   case rel => exact ⟨i + 1, by omega, by go_num, rfl, ⟨by first | exact HB.out | exact z1d HB.out _ | exact z4r HB.out⟩⟩
  ·have hie : i = x.f1.length := by omega
   go_wp2
   clear HBL hie hlt hi hkq hbb
   have HBL := HB
   clear HB hc_g2 hc_g3 HSR
   go_loopg [6] x.f2.length (fun kq v wr => ∃ i : Nat, i ≤ x.f2.length ∧ v = .int .i64 i ∧ kq = x.f2.length - i ∧ z0a (Below w_g3.heap.size w_g3 wr))
   case atStart => exact ⟨0, Nat.zero_le _, rfl, rfl, HBL⟩
   case round =>
    obtain ⟨i, hi, rfl, hkq, HB⟩ := hrel
    have hbb := HB.out.size
    have HSR := z0a.mk (HS.out.down HB.out)
    have hc_g2 := (HSR.out.cell 1 rfl).1 2
    have hc_g3 := (HSR.out.cell 0 rfl).1 2
    simp only [List.getElem?_toArray, List.getElem?_cons_succ, List.getElem?_cons_zero] at hc_g2 hc_g3
    by_cases hlt : i < x.f2.length
    ·obtain ⟨ad, hA, y0, y1, y2, y3⟩ := y4x (Kd.z0t H2.out HSR.out.below) (i : Int) (by omega) (by omega)
     obtain ⟨ad', hA', y0', y1', y2', y3'⟩ := y4x (Kd.z0t H2'.out HSR.out.below) (i : Int) (by omega) (by omega)
     subst hA; subst hA'
     rw [Int.toNat_natCast] at y0 y1 y2 y3 y0' y1' y2' y3'
     have b1 : (0 : Int) ≤ (i : Int) := by omega
     have b2 : (i : Int) < (x.f2.length : Int) := by omega
     go_wp2
     go_quiet (fail)
     go_wp2
     go_roundg (x.f2.length - (i + 1))
     case measure => omega
     case rel => exact ⟨i + 1, by omega, by go_num, rfl, ⟨by first | exact HB.out | exact z1d HB.out _ | exact z4r HB.out⟩⟩
    ·have hie : i = x.f2.length := by omega
     go_wp2
     go_ret
     exact ⟨rfl, HSR.out.below⟩
set_option maxHeartbeats 8000000 in
set_option maxRecDepth 100000 in
theorem y3S (l : List S51) (A : Option Addr) (c : Nat) (A' : Option Addr) (c' : Nat) (w : World) (hr : Kd.C k51 w A l.length l) (hr' : Kd.C k51 w A' l.length l) :
  Calls Tryz.prog 23 #[.slice A l.length c, .slice A' l.length c'] w fun e w' => e = .returned (.bool true) ∧ Below w.heap.size w w' := by
 have hm := Kd.y1m hr
 have HR := z0a.mk hr
 have HR' := z0a.mk hr'
 clear hr hr'
 have hu51 := Tryz.underlying51
 go_enter Tryz.func23, Tryz.ntmps23
 go_wp2
 go_loopg [5] l.length (fun kq v wr => ∃ i : Nat, i ≤ l.length ∧ v = .int .i64 i ∧ kq = l.length - i ∧ z0a (Below w.heap.size w wr))
 case atStart => exact ⟨0, Nat.zero_le _, rfl, rfl, ⟨Below.refl _ _⟩⟩
 case round =>
  obtain ⟨i, hi, rfl, hkq, HB⟩ := hrel
  have hbb := HB.out.size
  by_cases hlt : i < l.length
  ·obtain ⟨ad, P1, p1, P2, p2, P3, p3, P4, p4, hA, y0, y1, y2, y3, y4, y5, y6, _, g1, _, g2, _, g3, _, g4⟩ := y1K (Kd.z0t HR.out HB.out) (i : Int) (by omega) (by omega)
   obtain ⟨ad', Q1, q1, Q2, q2, Q3, q3, Q4, q4, hA', y0', y1', y2', y3', y4', y5', y6', _, g1', _, g2', _, g3', _, g4'⟩ := y1K (Kd.z0t HR'.out HB.out) (i : Int) (by omega) (by omega)
   subst hA; subst hA'
   rw [Int.toNat_natCast] at y0 y1 y2 y3 y4 y5 y6 y0' y1' y2' y3' y4' y5' y6'
   obtain ⟨x, hx⟩ : ∃ x, x = z0K l (i : Int) := ⟨_, rfl⟩
   rw [← hx] at y0 y1 y2 y3 y4 y5 y6 y0' y1' y2' y3' y4' y5' y6' g1 g2 g3 g4 g1' g2' g3' g4'
   have hcall : Calls Tryz.prog 66 #[.agg #[.string x.f0, .slice P1 x.f1.length p1, .slice P2 x.f2.length p2, .slice P3 x.f3.f0.length p3, .slice P4 x.f4.f0.length p4, .int .u8 x.f5, .bool x.f6], .agg #[.string x.f0, .slice Q1 x.f1.length q1, .slice Q2 x.f2.length q2, .slice Q3 x.f3.f0.length q3, .slice Q4 x.f4.f0.length q4, .int .u8 x.f5, .bool x.f6]] wr.drew fun e w' => e = .returned (.bool true) ∧ Below wr.heap.size wr w' :=
    (x1l x P1 P2 P3 P4 Q1 Q2 Q3 Q4 p1 p2 p3 p4 q1 q2 q3 q4 wr.drew (Kd.z3x g1) (Kd.z3x g2) (Kd.z3x g3) (Kd.z3x g4) (Kd.z3x g1') (Kd.z3x g2') (Kd.z3x g3') (Kd.z3x g4')).mono fun e w' h => ⟨h.1, (z4r (Below.refl _ _)).trans h.2⟩
   have HC := z0a.mk hcall
   clear g1 g2 g3 g4 g1' g2' g3' g4' hcall hx
   have b1 : (0 : Int) ≤ (i : Int) := by omega
   have b2 : (i : Int) < (l.length : Int) := by omega
   go_upto_region 6 with fail
   go_cut [6] (fun v6 wx => v6 = .bool true ∧ z0a (Below wr.heap.size wr wx))
   case first =>
    go_region_held3 (fun w' => w'.cell? (ad.add (i * 7)) = some (.string x.f0) ∧ w'.cell? ⟨(ad.add (i * 7)).block, (ad.add (i * 7)).off + 1, none⟩ = some (.slice P1 x.f1.length p1) ∧ w'.cell? ⟨(ad.add (i * 7)).block, (ad.add (i * 7)).off + 2, none⟩ = some (.slice P2 x.f2.length p2) ∧ w'.cell? ⟨(ad.add (i * 7)).block, (ad.add (i * 7)).off + 3, none⟩ = some (.slice P3 x.f3.f0.length p3) ∧ w'.cell? ⟨(ad.add (i * 7)).block, (ad.add (i * 7)).off + 4, none⟩ = some (.slice P4 x.f4.f0.length p4) ∧ w'.cell? ⟨(ad.add (i * 7)).block, (ad.add (i * 7)).off + 5, none⟩ = some (.int .u8 x.f5) ∧ w'.cell? ⟨(ad.add (i * 7)).block, (ad.add (i * 7)).off + 6, none⟩ = some (.bool x.f6) ∧ w'.cell? (ad'.add (i * 7)) = some (.string x.f0) ∧ w'.cell? ⟨(ad'.add (i * 7)).block, (ad'.add (i * 7)).off + 1, none⟩ = some (.slice Q1 x.f1.length q1) ∧ w'.cell? ⟨(ad'.add (i * 7)).block, (ad'.add (i * 7)).off + 2, none⟩ = some (.slice Q2 x.f2.length q2) ∧ w'.cell? ⟨(ad'.add (i * 7)).block, (ad'.add (i * 7)).off + 3, none⟩ = some (.slice Q3 x.f3.f0.length q3) ∧ w'.cell? ⟨(ad'.add (i * 7)).block, (ad'.add (i * 7)).off + 4, none⟩ = some (.slice Q4 x.f4.f0.length q4) ∧ w'.cell? ⟨(ad'.add (i * 7)).block, (ad'.add (i * 7)).off + 5, none⟩ = some (.int .u8 x.f5) ∧ w'.cell? ⟨(ad'.add (i * 7)).block, (ad'.add (i * 7)).off + 6, none⟩ = some (.bool x.f6)) ((first | go_keep | ((repeat' apply And.intro) <;> exact z4v HB1.out (by assumption)))) ((go_at_call 66; refine HC.out.mono ?_; rintro e w1 ⟨rfl, hb⟩; have HB1 := z0a.mk hb; clear hb))
    all_goals (go_wp2_with fail; go_meet)
    all_goals exact ⟨rfl, HB1⟩
   case rest =>
    obtain ⟨rfl, HB1⟩ := hcut
    go_wp2
    go_roundg (l.length - (i + 1))
    case measure => omega
    case rel => exact ⟨i + 1, by omega, by go_num, rfl, ⟨HB.out.trans (HB1.out.mono hbb)⟩⟩
  ·have hie : i = l.length := by omega
   go_wp2
   go_ret
   exact ⟨rfl, HB.out⟩
end Go.Proofs.YtplkoabikliagaaGreatDoor.K
