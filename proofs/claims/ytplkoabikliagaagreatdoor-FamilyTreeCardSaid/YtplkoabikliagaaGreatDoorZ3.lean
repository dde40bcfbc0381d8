/- Part 3 of a proof: walks and plain laws, merged by wip/tools/pack.py. -/
import Derived.Test.YtplkoabikliagaaGreatDoorZ1
import Derived.Test.YtplkoabikliagaaGreatDoorZ2
import Derived.Deep.RegionWith
import Derived.Deep.DeepCutAuto
import Derived.Handy
import Derived.Lib.FrozenHead
import Derived.Lib.FrozenHead2
import Derived.Lib.OthersKept
import Derived.Deep.RegionHeld3
import Derived.Deep.DrawnRows
import Derived.Laws.EntriesVeiled
namespace Go.Proofs.YtplkoabikliagaaGreatDoor.K
open Go.RowKit Go.Proofs.YtplkoabikliagaaGreatDoorW.PrintWords Go.Proofs.YtplkoabikliagaaGreatDoorW.PrintLast Go.Proofs.YtplkoabikliagaaGreatDoorW.PrintMore
attribute [local go_sem] z1o z1p z1B z1C z1b z1c z1q z1r
set_option linter.unusedVariables false
set_option linter.unusedSimpArgs false
def z0r.l0 : Nat → List Int → Int → Int → Option (List Int)
 | 0, _, _, _ => none
 | k + 1, x0, x2, x3 => if x2 < x3 then (if 0 ≤ x3 then (if x3 < (x0.length : Int) then (if 0 ≤ x2 then (if x2 < (x0.length : Int) then (z0r.l0 k ((x0.set (x2 : Int).toNat (rd x0 x3)).set (x3 : Int).toNat (rd x0 x2)) (wrap64 (x2 + 1)) (wrap64 (x3 - 1))) else (none)) else (none)) else (none)) else (none)) else (some x0)
def z0r.f (k : Nat) (l0 : List Int) : Option (List Int) := z0r.l0 k l0 0 (wrap64 ((l0.length : Int) - 1))
theorem z0r.z1t : ∀ k, (∀ y0 y1 y2, LeO (z0r.l0 k y0 y1 y2) (z0r.l0 (k + 1) y0 y1 y2))
 | 0 => fun _ _ _ r h => by simp [z0r.l0] at h
 | k + 1 => by
  have ih0 := z0r.z1t k
  ·intro y0 y1 y2
   unfold z0r.l0
   repeat' first
   | (with_reducible exact ih0 _ _ _)
   | (with_reducible exact LeO.refl _)
   | (with_reducible exact LeO.none _)
   | (with_reducible refine LeO.ite ?_ ?_)
   | (with_reducible refine LeO.bind ?_ (fun _ => ?_))
theorem z0r.mono : ∀ a0 k, LeO (z0r.f k a0) (z0r.f (k + 1) a0) := by
 intro a0 k
 have ih0 := z0r.z1t k
 unfold z0r.f
 repeat' first
   | (with_reducible exact ih0 _ _ _)
   | (with_reducible exact LeO.refl _)
   | (with_reducible exact LeO.none _)
   | (with_reducible refine LeO.ite ?_ ?_)
   | (with_reducible refine LeO.bind ?_ (fun _ => ?_))
def z0r.T3 : Bool × List (List Nat × List Nat) := (true, [([], []), ([], []), ([], []), ([], []), ([], []), ([], []), ([4, 5], [4, 5]), ([6], [6]), ([], []), ([], []), ([8, 9], [8, 9]), ([10], [10]), ([0, 1, 0, 1, 4, 5, 6, 7, 11], [0, 1]), ([12, 7, 0, 1, 4, 5, 6, 7, 11], [7, 12]), ([2, 3, 0, 1, 2, 3, 4, 5, 6, 7, 8, 9, 10, 11, 12, 13], [2, 3]), ([14, 11, 13, 0, 1, 2, 3, 4, 5, 6, 7, 8, 9, 10, 11, 12, 13], [11, 14])])
def z0r.B3 : List Nat := [0, 0, 0, 0, 0, 0, 48, 112, 0, 0, 768, 1792, 4083, 8179, 16383, 32767]
theorem z0r.tab3 : rtab .any (opsOf Tryz.f92 3) = z0r.T3 := by kernel_rfl
theorem z0r.w0t : z5v z0r.T3.2 z0r.B3 = true := by kernel_rfl
set_option maxHeartbeats 8000000 in
set_option maxRecDepth 100000 in
theorem z0r.calls (k : Nat) (P0_ : Nat → Prop) (u9000_ : Value) (l0 : List Int) (r : List Int) (w0 w : World) (hB : Below w0.heap.size w0 w) (ho0 : Kd.R (Kd.int .i64) 3 w w0.heap.size P0_ u9000_ l0) (h : z0r.f k l0 = some r) :
  Calls Tryz.prog 92 #[u9000_] w fun e w' => e = .returned (.tuple #[]) ∧ Kd.R (Kd.int .i64) 3 w' w0.heap.size (fun k_ => (P0_ k_ ∨ w.heap.size ≤ k_)) u9000_ r ∧ Below w0.heap.size w0 w' ∧ Kept w w' (fun k_ => P0_ k_) := by
 have HO0 := z0a.mk (show Kd.R (Kd.int .i64) 3 w w0.heap.size (fun k_ => (P0_ k_ ∨ w.heap.size ≤ k_)) u9000_ l0 from Kd.z3D ho0 (fun k_ hk => (.inl hk)))
 have HK := z0a.mk (Kept.refl w (fun k_ => P0_ k_))
 have HW0 := z0a.mk hB.size
 have HB := z0a.mk hB
 clear hB
 have H : (z0r.l0 k l0 0 (wrap64 ((l0.length : Int) - 1))) = some r := h
 clear h
 have H' := z0a.mk H
 clear H
 obtain ⟨Ao2, co2, eo2⟩ := Kd.z2q HO0.out
 subst eo2
 go_enter Tryz.func92, Tryz.ntmps92
 go_wp2
 go_loopg [2, 3] k (fun kq v2 v3 w' => ∃ (x0_1 : List Int) (x2_1 : Int) (x3_1 : Int), v2 = .int .i64 x2_1 ∧ v3 = .int .i64 x3_1 ∧ z0a (z0r.l0 kq x0_1 x2_1 x3_1 = some r) ∧ z0a (kq ≤ k) ∧ z0a (Kd.R (Kd.int .i64) 3 w' w0.heap.size (fun k_ => (P0_ k_ ∨ w.heap.size ≤ k_)) (.slice Ao2 l0.length co2) x0_1) ∧ z0a (Kept w w' (fun k_ => P0_ k_)) ∧ z0a (Below w0.heap.size w0 w'))
 case atStart => exact ⟨(l0), (0), (wrap64 ((l0.length : Int) - 1)), ze, ze, H', ⟨Nat.le_refl _⟩, ⟨by (with_reducible repeat (first | apply Kd.z0Z | apply Kd.z0Y | apply Kd.z1n)); exact HO0.out⟩, ⟨by repeat (first | (with_reducible first | exact HK.out | apply Kept.alloc | apply Kept.drewN | apply Kept.drew) | exact HK.out)⟩, ⟨zb⟩⟩
 case round =>
  clear H'
  obtain ⟨x0_1, x2_1, x3_1, rfl, rfl, HA, HK1, HO_0, HK, HB⟩ := hrel
  have x4j := (Kd.z1K HO_0.out).1
  rw [x4j] at HO_0
  (try simp only [x4j])
  cases gk with
  | zero => exact absurd HA.out (by simp [z0r.l0])
  | succ k1 =>
   have H := HA.out
   clear HA
   simp only [z0r.l0] at H
   by_cases c3 : x2_1 < x3_1
   rotate_left
   ·rw [if_neg c3] at H
    have c3b0 : decide (x2_1 < x3_1) = false := decide_eq_false c3
    clear c3
    obtain rfl := Option.some.inj H
    go_wp2
    first | go_end0 | ((try simp only [Exit.inBlock, Exit.then]); refine bodyPost_ret (results_none rfl _ _ _) rfl ?_)
    exact ⟨zr, (by first | exact (by (with_reducible repeat (first | apply Kd.z0Z | apply Kd.z0Y | apply Kd.z1n)); exact HO_0.out) | (simp only [x4j]; exact (by (with_reducible repeat (first | apply Kd.z0Z | apply Kd.z0Y | apply Kd.z1n)); exact HO_0.out))), by repeat (first | (with_reducible first | exact HB.out | apply z1w | apply z1d | apply z1l) | exact HB.out), by repeat (first | (with_reducible first | exact HK.out | apply Kept.alloc | apply Kept.drewN | apply Kept.drew) | exact HK.out)⟩
   rw [if_pos c3] at H
   have c3b0 : decide (x2_1 < x3_1) = true := decide_eq_true c3
   clear c3
   by_cases c4 : 0 ≤ x3_1
   rotate_left
   ·rw [if_neg c4] at H
    exact absurd H (by simp)
   rw [if_pos c4] at H
   have c4b0 : decide (0 ≤ x3_1) = true := decide_eq_true c4
   clear c4
   by_cases c5 : x3_1 < (x0_1.length : Int)
   rotate_left
   ·rw [if_neg c5] at H
    exact absurd H (by simp)
   rw [if_pos c5] at H
   have c5b0 : decide (x3_1 < (x0_1.length : Int)) = true := decide_eq_true c5
   clear c5
   by_cases c6 : 0 ≤ x2_1
   rotate_left
   ·rw [if_neg c6] at H
    exact absurd H (by simp)
   rw [if_pos c6] at H
   have c6b0 : decide (0 ≤ x2_1) = true := decide_eq_true c6
   clear c6
   by_cases c7 : x2_1 < (x0_1.length : Int)
   rotate_left
   ·rw [if_neg c7] at H
    exact absurd H (by simp)
   rw [if_pos c7] at H
   have c7b0 : decide (x2_1 < (x0_1.length : Int)) = true := decide_eq_true c7
   clear c7
   obtain ⟨y200, hy200⟩ : ∃ y_ : List Int, y_ = (x0_1.set (x2_1 : Int).toNat (rd x0_1 x3_1)) := ⟨_, rfl⟩
   replace H : (z0r.l0 k1 (y200.set (x3_1 : Int).toNat (rd x0_1 x2_1)) (wrap64 (x2_1 + 1)) (wrap64 (x3_1 - 1))) = some r := by first | (rw [hy200]; with_reducible exact H) | (have H2_ := (Option.bind_some _ _).symm.trans H; rw [hy200]; with_reducible exact H2_) | (have H2_ := (Option.bind_some _ _).symm.trans H; with_reducible exact H2_) | with_reducible exact H | (rw [hy200]; exact H) | exact H
   have Ny200 := z0a.mk hy200
   clear hy200
   obtain ⟨y201, hy201⟩ : ∃ y_ : List Int, y_ = (y200.set (x3_1 : Int).toNat (rd x0_1 x2_1)) := ⟨_, rfl⟩
   replace H : (z0r.l0 k1 y201 (wrap64 (x2_1 + 1)) (wrap64 (x3_1 - 1))) = some r := by first | (rw [hy201]; with_reducible exact H) | (have H2_ := (Option.bind_some _ _).symm.trans H; rw [hy201]; with_reducible exact H2_) | (have H2_ := (Option.bind_some _ _).symm.trans H; with_reducible exact H2_) | with_reducible exact H | (rw [hy201]; exact H) | exact H
   have Ny201 := z0a.mk hy201
   clear hy201
   have H' := z0a.mk H
   clear H
   try go_wp2
   have n0_ := z0a.mk (Kd.z1n HO_0.out)
   have n1_ := z0a.mk (Kept.drew HK.out)
   have n2_ := z0a.mk (z1l HB.out)
   clear HO_0
   clear HK
   clear HB
   have HO_0 := n0_
   have HK := n1_
   have HB := n2_
   clear n0_ n1_ n2_
   have p198 : 0 ≤ (x3_1 : Int) := za
   have q198 : x3_1 < (x0_1.length : Int) := za
   obtain ⟨ad198, e198, y9e⟩ := Kd.z3d (Kd.z1K HO_0.out).2.2 x3_1 p198 q198
   cases e198
   replace p198 := eq_true p198
   replace q198 := eq_true q198
   have p199 : 0 ≤ (x2_1 : Int) := za
   have q199 : x2_1 < (x0_1.length : Int) := za
   obtain ⟨ad199, e199, y9f⟩ := Kd.z3d (Kd.z1K HO_0.out).2.2 x2_1 p199 q199
   obtain rfl : ad198 = ad199 := (by injection e199)
   replace p199 := eq_true p199
   replace q199 := eq_true q199
   have p8 : 0 ≤ (x2_1 : Int) := za
   have q8 : (x2_1 : Int) < ((x0_1.length : Int) : Int) := za
   obtain ⟨go8, co8, eo8, gb8, gl8, cl8, HG8⟩ := Kd.z9T HO_0.out (by omega)
   (first | cases eo8 | (injection eo8 with ea_ en_ ec_; (first | subst ea_ | (injection ea_ with ea_; subst ea_)); subst ec_; clear en_))
   have GB8 := z0a.mk gb8
   have GG8 := z0a.mk HG8
   clear gb8 gl8 HG8
   have HMgo8 := z0a.mk (show (P0_ go8 ∨ w.heap.size ≤ go8) from (HO_0.out.1 _ rfl))
   (first | simp only [add_plain] at y9e | skip)
   (first | simp only [add_plain] at y9f | skip)
   obtain ⟨hx8_0, hf8_0⟩ := Kd.y4T 0 HO_0.out (x2_1 : Int) p8 q8
   replace p8 := eq_true p8
   replace q8 := eq_true q8
   have HP11 := Kd.x7J HO_0.out (x2_1 : Int) (rd x0_1 x3_1)
   rw [← Ny200.out] at HP11
   have HQ11 := z0a.mk HP11
   clear HP11
   have p9 : 0 ≤ (x3_1 : Int) := za
   have q9 : (x3_1 : Int) < ((x0_1.length : Int) : Int) := za
   obtain ⟨hx9_0, hf9_0⟩ := Kd.y4T 0 HQ11.out (x3_1 : Int) p9 q9
   replace p9 := eq_true p9
   replace q9 := eq_true q9
   have HP12 := Kd.x7J HQ11.out (x3_1 : Int) (rd x0_1 x2_1)
   rw [← Ny201.out] at HP12
   have HQ12 := z0a.mk HP12
   clear HP12
   refine z6l (n := 16) (S := fun w' => w'.cell? ⟨go8, (x3_1).toNat, none⟩ = some (.int .i64 (rd x0_1 x3_1)) ∧ w'.cell? ⟨go8, (x2_1).toNat, none⟩ = some (.int .i64 (rd x0_1 x2_1))) (ds := [13, 15]) #[false, false, false, false, false, false, false, false, false, false, false, false, false, false, false, false] (by kernel_rfl) rfl rfl ⟨y9e, y9f⟩ (fun hHeld => ?_); refine z3I z0r.tab3 z0r.w0t (fun HT_ HW_ => ?_)
   generalize wr.drew = w10 at HO_0 HK HB GG8 HQ11 HQ12 hf8_0 hf9_0 y9e y9f hx8_0 hx9_0 hHeld ⊢
   refine z1O (i := 0) (N := some 14) (v := ?_) (a' := ?_) #[true, false, false, false, false, false, false, false, false, false, false, false, false, false, false, false] rfl rfl (z1s HT_.out (by kernel_rfl)) (fun _ _ _ h => h) (Or.inl ⟨by rfl, ?_⟩) ?_ ?_
   rotate_left
   ·intro w'
    go_simp
    with_reducible rfl
   rotate_left
   ·simp only [Act.put, List.setIfInBounds_toArray, List.set_cons_zero, List.set_cons_succ, z0V, z0W]
    rfl
   refine z1O (i := 1) (N := some 15) (v := ?_) (a' := ?_) #[true, true, false, false, false, false, false, false, false, false, false, false, false, false, false, false] rfl rfl (z1s HT_.out (by kernel_rfl)) (fun _ _ _ h => h) (Or.inl ⟨by rfl, ?_⟩) ?_ ?_
   rotate_left
   ·intro w'
    go_simp
    with_reducible rfl
   rotate_left
   ·simp only [Act.put, List.setIfInBounds_toArray, List.set_cons_zero, List.set_cons_succ, z0V, z0W]
    rfl
   refine z1O (i := 2) (N := some 16) (v := ?_) (a' := ?_) #[true, true, true, false, false, false, false, false, false, false, false, false, false, false, false, false] rfl rfl (z1s HT_.out (by kernel_rfl)) (fun _ _ _ h => h) (Or.inl ⟨by rfl, ?_⟩) ?_ ?_
   rotate_left
   ·intro w'
    go_simp
    with_reducible rfl
   rotate_left
   ·simp only [Act.put, List.setIfInBounds_toArray, List.set_cons_zero, List.set_cons_succ, z0V, z0W]
    rfl
   refine z1O (i := 3) (N := some 17) (v := ?_) (a' := ?_) #[true, true, true, true, false, false, false, false, false, false, false, false, false, false, false, false] rfl rfl (z1s HT_.out (by kernel_rfl)) (fun _ _ _ h => h) (Or.inl ⟨by rfl, ?_⟩) ?_ ?_
   rotate_left
   ·intro w'
    go_simp
    with_reducible rfl
   rotate_left
   ·simp only [Act.put, List.setIfInBounds_toArray, List.set_cons_zero, List.set_cons_succ, z0V, z0W]
    rfl
   refine z1O (i := 4) (N := some 18) (v := ?_) (a' := ?_) #[true, true, true, true, true, false, false, false, false, false, false, false, false, false, false, false] rfl rfl (z1s HT_.out (by kernel_rfl)) (fun _ _ _ h => h) (Or.inl ⟨by rfl, ?_⟩) ?_ ?_
   rotate_left
   ·intro w'
    go_simp
    with_reducible rfl
   rotate_left
   ·simp only [Act.put, List.setIfInBounds_toArray, List.set_cons_zero, List.set_cons_succ, z0V, z0W]
    rfl
   refine z1O (i := 5) (N := some 19) (v := ?_) (a' := ?_) #[true, true, true, true, true, true, false, false, false, false, false, false, false, false, false, false] rfl rfl (z1s HT_.out (by kernel_rfl)) (fun _ _ _ h => h) (Or.inl ⟨by rfl, ?_⟩) ?_ ?_
   rotate_left
   ·intro w'
    go_simp
    with_reducible rfl
   rotate_left
   ·simp only [Act.put, List.setIfInBounds_toArray, List.set_cons_zero, List.set_cons_succ, z0V, z0W]
    rfl
   refine z1O (i := 6) (N := some 20) (v := ?_) (a' := ?_) #[true, true, true, true, true, true, true, false, false, false, false, false, false, false, false, false] rfl rfl (z1s HT_.out (by kernel_rfl)) (fun _ _ _ h => h) (Or.inl ⟨by rfl, ?_⟩) ?_ ?_
   rotate_left
   ·intro w'
    go_simp
    with_reducible rfl
   rotate_left
   ·simp only [Act.put, List.setIfInBounds_toArray, List.set_cons_zero, List.set_cons_succ, z0V, z0W]
    rfl
   refine z1O (i := 8) (N := some 22) (v := ?_) (a' := ?_) #[true, true, true, true, true, true, true, false, true, false, false, false, false, false, false, false] rfl rfl (z1s HT_.out (by kernel_rfl)) (fun _ _ _ h => h) (Or.inl ⟨by rfl, ?_⟩) ?_ ?_
   rotate_left
   ·intro w'
    go_simp
    with_reducible rfl
   rotate_left
   ·simp only [Act.put, List.setIfInBounds_toArray, List.set_cons_zero, List.set_cons_succ, z0V, z0W]
    rfl
   refine z1O (i := 9) (N := some 23) (v := ?_) (a' := ?_) #[true, true, true, true, true, true, true, false, true, true, false, false, false, false, false, false] rfl rfl (z1s HT_.out (by kernel_rfl)) (fun _ _ _ h => h) (Or.inl ⟨by rfl, ?_⟩) ?_ ?_
   rotate_left
   ·intro w'
    go_simp
    with_reducible rfl
   rotate_left
   ·simp only [Act.put, List.setIfInBounds_toArray, List.set_cons_zero, List.set_cons_succ, z0V, z0W]
    rfl
   refine z1O (i := 10) (N := some 24) (v := ?_) (a' := ?_) #[true, true, true, true, true, true, true, false, true, true, true, false, false, false, false, false] rfl rfl (z1s HT_.out (by kernel_rfl)) (fun _ _ _ h => h) (Or.inl ⟨by rfl, ?_⟩) ?_ ?_
   rotate_left
   ·intro w'
    go_simp
    with_reducible rfl
   rotate_left
   ·simp only [Act.put, List.setIfInBounds_toArray, List.set_cons_zero, List.set_cons_succ, z0V, z0W]
    rfl
   refine z2R (i := 7) (N := some 21) (v := ?_) (a' := ?_) #[true, true, true, true, true, true, true, true, true, true, true, false, false, false, false, false] rfl rfl (z1D HT_.out HW_.out (by kernel_rfl)) (fun _ _ _ h => h) (Or.inl ⟨by rfl, ?_⟩) hHeld ?_ ?_
   rotate_left
   ·rintro w' ⟨s0, s1⟩
    go_simp
    with_reducible rfl
   rotate_left
   ·simp only [Act.put, List.setIfInBounds_toArray, List.set_cons_zero, List.set_cons_succ, z0V, z0W]
    rfl
   refine z2R (i := 11) (N := some 25) (v := ?_) (a' := ?_) #[true, true, true, true, true, true, true, true, true, true, true, true, false, false, false, false] rfl rfl (z1D HT_.out HW_.out (by kernel_rfl)) (fun _ _ _ h => h) (Or.inl ⟨by rfl, ?_⟩) hHeld ?_ ?_
   rotate_left
   ·rintro w' ⟨s0, s1⟩
    go_simp
    with_reducible rfl
   rotate_left
   ·simp only [Act.put, List.setIfInBounds_toArray, List.set_cons_zero, List.set_cons_succ, z0V, z0W]
    rfl
   refine z1O (i := 12) (N := some 26) (v := ?_) (a' := ?_) #[true, true, true, true, true, true, true, true, true, true, true, true, true, false, false, false] rfl rfl (z1s HT_.out (by kernel_rfl)) (fun _ _ _ h => h) (Or.inl ⟨by rfl, ?_⟩) ?_ ?_
   rotate_left
   ·intro w'
    go_simp
    with_reducible rfl
   rotate_left
   ·simp only [Act.put, List.setIfInBounds_toArray, List.set_cons_zero, List.set_cons_succ, z0V, z0W]
    rfl
   refine x8d (i := 13) (N := none) #[true, true, true, true, true, true, true, true, true, true, true, true, true, true, false, false] rfl rfl (z8Z HT_.out (by kernel_rfl)) (by decide) (fun K hK => ?_)
   refine w2s (w1 := ?_) (by rfl) rfl ?_ ?_
   rotate_left
   ·go_simp
    rfl
   refine hK.out _ _ ?_
   clear hK K
   refine z1O (i := 14) (N := some 27) (v := ?_) (a' := ?_) #[true, true, true, true, true, true, true, true, true, true, true, true, true, true, true, false] rfl rfl (z1s HT_.out (by kernel_rfl)) (fun _ _ _ h => h) (Or.inl ⟨by rfl, ?_⟩) ?_ ?_
   rotate_left
   ·intro w'
    go_simp
    with_reducible rfl
   rotate_left
   ·simp only [Act.put, List.setIfInBounds_toArray, List.set_cons_zero, List.set_cons_succ, z0V, z0W]
    rfl
   refine x8d (i := 15) (N := none) #[true, true, true, true, true, true, true, true, true, true, true, true, true, true, true, true] rfl rfl (z8Z HT_.out (by kernel_rfl)) (by decide) (fun K hK => ?_)
   refine w2s (w1 := ?_) (by rfl) rfl ?_ ?_
   rotate_left
   ·go_simp
    rfl
   refine hK.out _ _ ?_
   clear hK K
   refine y0q (z5u HT_.out (by kernel_rfl)) ?_
   try go_wp2
   (try simp only [← x4j])
   go_roundg k1
   case measure => have := HK1.out; omega
   case rel => exact ⟨(y201), (wrap64 (x2_1 + 1)), (wrap64 (x3_1 - 1)), ze, ze, H', ⟨by have := HK1.out; omega⟩, ⟨by (try simp only [x4j]); (with_reducible repeat (first | apply Kd.z0Z | apply Kd.z0Y | apply Kd.z1n)); exact HQ12.out⟩, ⟨by repeat (first | (with_reducible first | exact HK.out | apply Kept.alloc | apply Kept.drewN | apply Kept.drew | refine Kept.setCell ?_ HMgo8.out _ | refine Kept.setCell ?_ HMgo8.out _) | exact HK.out)⟩, ⟨by repeat (first | (with_reducible first | exact HB.out | apply z1w | apply z1d | apply z1l | refine z1X ?_ GB8.out | refine z1X ?_ GB8.out) | exact HB.out)⟩⟩
def z1f.l0 : Nat → Int → List Int → List ByteArray → List (z1J) → List (S81) → Option (List Int)
 | 0, _, _, _, _, _ => none
 | k + 1, x1, x5, w0u, w0v, y9g => if x1 ≥ 0 then (if x5.length < 17592186044416 then (if 0 ≤ x1 then (if x1 < (y9g.length : Int) then (z1f.l0 k ((z0s y9g x1).f1) (x5 ++ [x1]) w0u w0v y9g) else (none)) else (none)) else (none)) else ((z0r.f k x5).bind fun t207 => (some t207))
def z1f.f (k : Nat) (l0_0 : List ByteArray) (l0_1 : List (z1J)) (l0_2 : List (S81)) (a1 : Int) : Option (List Int) := z1f.l0 k a1 ([] : List Int) l0_0 l0_1 l0_2
theorem z1f.z1t : ∀ k, (∀ y0 y1 y2 y3 y4, LeO (z1f.l0 k y0 y1 y2 y3 y4) (z1f.l0 (k + 1) y0 y1 y2 y3 y4))
 | 0 => fun _ _ _ _ _ r h => by simp [z1f.l0] at h
 | k + 1 => by
  have ih0 := z1f.z1t k
  ·intro y0 y1 y2 y3 y4
   unfold z1f.l0
   repeat' first
   | (with_reducible exact ih0 _ _ _ _ _)
   | (with_reducible exact z0r.mono _ _)
   | (with_reducible exact LeO.refl _)
   | (with_reducible exact LeO.none _)
   | (with_reducible refine LeO.ite ?_ ?_)
   | (with_reducible refine LeO.bind ?_ (fun _ => ?_))
theorem z1f.mono : ∀ a0 a1 a2 a3 k, LeO (z1f.f k a0 a1 a2 a3) (z1f.f (k + 1) a0 a1 a2 a3) := by
 intro a0 a1 a2 a3 k
 have ih0 := z1f.z1t k
 unfold z1f.f
 repeat' first
   | (with_reducible exact ih0 _ _ _ _ _)
   | (with_reducible exact z0r.mono _ _)
   | (with_reducible exact LeO.refl _)
   | (with_reducible exact LeO.none _)
   | (with_reducible refine LeO.ite ?_ ?_)
   | (with_reducible refine LeO.bind ?_ (fun _ => ?_))
set_option maxHeartbeats 8000000 in
set_option maxRecDepth 100000 in
theorem z1f.calls (k : Nat) (z0U : Option Addr) (c0_0 : Nat) (l0_0 : List ByteArray) (z0X : Option Addr) (c0_1 : Nat) (l0_1 : List (z1J)) (z2c : Option Addr) (c0_2 : Nat) (l0_2 : List (S81)) (a1 : Int) (r : List Int) (w : World) (hr0_0 : Kd.C Kd.string w z0U l0_0.length l0_0) (hc0_0 : l0_0.length ≤ c0_0) (hr0_1 : Kd.C z5a w z0X l0_1.length l0_1) (hc0_1 : l0_1.length ≤ c0_1) (hr0_2 : Kd.C k81 w z2c l0_2.length l0_2) (hc0_2 : l0_2.length ≤ c0_2) (h : z1f.f k l0_0 l0_1 l0_2 a1 = some r) :
  Calls Tryz.prog 53 #[.agg #[.slice z0U l0_0.length c0_0, .slice z0X l0_1.length c0_1, .slice z2c l0_2.length c0_2], .int .i64 a1] w fun e w' => ∃ v0_ : Value, e = .returned (v0_) ∧ Kd.R (Kd.int .i64) 3 w' w.heap.size (fun _ => True) v0_ r ∧ Below w.heap.size w w' := by
 have hu28 := Tryz.underlying28
 have z2g := z0a.mk hr0_0
 have z1g := z0a.mk hc0_0
 clear hr0_0 hc0_0
 have z2x := z0a.mk hr0_1
 have z1j := z0a.mk hc0_1
 clear hr0_1 hc0_1
 have z3X := z0a.mk hr0_2
 have z2T := z0a.mk hc0_2
 clear hr0_2 hc0_2
 have HB := z0a.mk (Below.refl w.heap.size w)
 have H : (z1f.l0 k a1 ([] : List Int) l0_0 l0_1 l0_2) = some r := h
 clear h
 have H' := z0a.mk H
 clear H
 go_enter Tryz.func53, Tryz.ntmps53
 go_wp2_with (first | ((with_reducible refine z0o (N := 2) rfl ?_); refine zo (cs := #[.slice z0U l0_0.length c0_0, .slice z0X l0_1.length c0_1, .slice z2c l0_2.length c0_2]) (t := 28) ?_; intro w2R hg w3 hbox hb; have y9h := z0a.mk hbox; have GW202 := zG HB hg; have GE202 := zG HB hg; replace HB := zB HB hb; clear hb hbox hg))
 go_loopg [1, 5] k (fun kq v1 v5 w' => ∃ (x1_1 : Int) (x5_1 : List Int), v1 = .int .i64 x1_1 ∧ z0a (z1f.l0 kq x1_1 x5_1 l0_0 l0_1 l0_2 = some r) ∧ z0a (kq ≤ k) ∧ z0a (Kd.R (Kd.int .i64) 3 w' w.heap.size (fun _ => True) v5 x5_1) ∧ z0a (w'.heap[w2R]? = some (.cells #[(.slice z0U l0_0.length c0_0), (.slice z0X l0_1.length c0_1), (.slice z2c l0_2.length c0_2)] 28 (0, 0))) ∧ z0a (Below w.heap.size w w'))
 case atStart => exact ⟨(a1), (([] : List Int)), ze, H', ⟨Nat.le_refl _⟩, ⟨by first | exact Kd.z5O _ _ _ _ _ | exact Kd.y6P _ _ _ _ _ | exact Kd.y6T _ _ _ _ _ | exact Kd.y6I _ _ _ _ _ | exact Kd.y6O _ _ _ _ _⟩, ⟨zk⟩, ⟨zb⟩⟩
 case round =>
  clear H'
  obtain ⟨x1_1, x5_1, rfl, HA, HK1, HO_5, y9h, HB⟩ := hrel
  cases gk with
  | zero => exact absurd HA.out (by simp [z1f.l0])
  | succ k1 =>
   have H := HA.out
   clear HA
   simp only [z1f.l0] at H
   by_cases c4 : x1_1 ≥ 0
   rotate_left
   ·rw [if_neg c4] at H
    have c4b0 : decide (0 ≤ x1_1) = false := decide_eq_false c4
    clear c4
    replace H := Option.bind_eq_some_iff.mp H
    obtain ⟨t207, A100, H⟩ := H
    replace H : (some t207) = some r := H
    have A10 := z0a.mk A100
    clear A100
    obtain rfl := Option.some.inj H
    obtain ⟨Ao11, co11, eo11⟩ := Kd.z2q HO_5.out
    subst eo11
    go_wp2_with (first | ((with_reducible refine z0m (f := 92) rfl ?_); refine z1a (some 19) rfl rfl Tryz.func92 (by kernel_rfl) rfl #[.slice Ao11 x5_1.length co11] rfl zq ?_; (with_reducible refine (z0r.calls k1 (fun k_ => some k_ = (.slice Ao11 x5_1.length co11 : Value).ownBlock) (.slice Ao11 x5_1.length co11) x5_1 t207 w _ ?z0M ?z4Y A10.out).mono ?_); (case z0M => exact zb); (case z4Y => exact Kd.y7O rfl HO_5.out); rintro e w12 ⟨rfl, hy0, hb, hkp⟩; refine ⟨_, rfl, ?_⟩; have n0_ := z0a.mk (Kd.w2A rfl hy0 (fun k_ e_ => HO_5.out.1 k_ e_)); have n1_ := z0a.mk (x6D zk hkp (fun hs_ => (fun e_ => (Kd.x7G HO_5.out y9h.out (by decide)) e_) hs_)); have n2_ := z0a.mk (hb); clear HO_5; clear y9h; clear HB; have HO_5 := n0_; have y9h := n1_; have HB := n2_; clear n0_ n1_ n2_; (try clear hb); (try clear hkp); (try clear hy0)))
    go_ret
    exact ⟨_, zr, by (with_reducible repeat (first | apply Kd.z0Z | apply Kd.z0Y | apply Kd.z1n)); exact HO_5.out, by repeat (first | (with_reducible first | exact HB.out | apply z1w | apply z1d | apply z1l | refine z1X ?_ GE202.out) | exact HB.out)⟩
   rw [if_pos c4] at H
   have c4b0 : decide (0 ≤ x1_1) = true := decide_eq_true c4
   clear c4
   by_cases c5 : x5_1.length < 17592186044416
   rotate_left
   ·rw [if_neg c5] at H
    exact absurd H (by simp)
   rw [if_pos c5] at H
   have LMc5 := z0a.mk c5
   clear c5
   obtain ⟨y203, hy203⟩ : ∃ y_ : List Int, y_ = (x5_1 ++ [x1_1]) := ⟨_, rfl⟩
   replace H : (if 0 ≤ x1_1 then (if x1_1 < (l0_2.length : Int) then (z1f.l0 k1 ((z0s l0_2 x1_1).f1) y203 l0_0 l0_1 l0_2) else (none)) else (none)) = some r := by first | (rw [hy203]; with_reducible exact H) | (have H2_ := (Option.bind_some _ _).symm.trans H; rw [hy203]; with_reducible exact H2_) | (have H2_ := (Option.bind_some _ _).symm.trans H; with_reducible exact H2_) | with_reducible exact H | (rw [hy203]; exact H) | exact H
   have Ny203 := z0a.mk hy203
   clear hy203
   by_cases c6 : 0 ≤ x1_1
   rotate_left
   ·rw [if_neg c6] at H
    exact absurd H (by simp)
   rw [if_pos c6] at H
   have c6b0 : decide (0 ≤ x1_1) = true := decide_eq_true c6
   clear c6
   by_cases c7 : x1_1 < (l0_2.length : Int)
   rotate_left
   ·rw [if_neg c7] at H
    exact absurd H (by simp)
   rw [if_pos c7] at H
   have c7b0 : decide (x1_1 < (l0_2.length : Int)) = true := decide_eq_true c7
   clear c7
   have H' := z0a.mk H
   clear H
   go_wp2_with (first | ((with_reducible refine z2Z (b := .append) (xs := #[.tmp 14, .tmp 16]) rfl ?_); at_builtin; refine Kd.z9S (Kd.int .i64) (w0 := w) w.heap.size rfl (.tmp 14) (.tmp 16) 31 3 (.int .i64 0) 8 rfl Tryz.underlying31 info3 rfl (by decide) (by omega) u5 x5_1 x1_1 [.int .i64 x1_1] (fun _ => True) (fun _ => False) rfl rfl ?aP (fun _ hk => hk.elim) ?aF ?aO ?aB ?aS ?aL ?_; (case aP => exact rfl); (case aB => exact zb); (case aF => exact (fun _ _ => trivial)); (case aO => exact (by (with_reducible repeat (first | apply Kd.z0Z | apply Kd.z0Y | apply Kd.z1n)); exact HO_5.out)); (case aS => exact (z1x zb)); (case aL => have := LMc5.out; omega); intro v204 w8 ho hb hg hat; rw [← Ny203.out] at ho; have HO205 := z0a.mk (ho); replace y9h := z0a.mk (z5t (g := w2R) (o := .cells #[.slice z0U l0_0.length c0_0, .slice z0X l0_1.length c0_1, .slice z2c l0_2.length c0_2] 28 (0, 0)) zk hg (Kd.x7G HO_5.out y9h.out (by decide))); replace HB := z0a.mk (hb); clear HO_5; clear ho hb hg hat; obtain ⟨z5l, z5m, z9e, z5n, z5o, z9f⟩ := zc3 w8 y9h.out; have p206 : 0 ≤ (x1_1 : Int) := za; have q206 : x1_1 < (l0_2.length : Int) := za; obtain ⟨ad206, A206_2, c206_2, e206, x4k, x4l, x4m, x4n, x4o⟩ := z3e z3X.out x1_1 p206 q206; cases e206; replace x4k := zx HB x4k; replace x4l := zx HB x4l; replace x4m := zx HB x4m; have HR206_2 := z0a.mk x4o; have HC206_2 := z0a.mk x4n; clear x4o x4n; replace p206 := eq_true p206; replace q206 := eq_true q206))
   go_roundg k1
   case measure => have := HK1.out; omega
   case rel => exact ⟨((z0s l0_2 x1_1).f1), (y203), ze, H', ⟨by have := HK1.out; omega⟩, ⟨by (with_reducible repeat (first | apply Kd.z0Z | apply Kd.z0Y | apply Kd.z1n)); exact HO205.out⟩, ⟨zk⟩, ⟨zb⟩⟩
end Go.Proofs.YtplkoabikliagaaGreatDoor.K
namespace Go.Proofs.YtplkoabikliagaaGreatDoor.K
open Go.RowKit Go.Proofs.YtplkoabikliagaaGreatDoorW.PrintWords Go.Proofs.YtplkoabikliagaaGreatDoorW.PrintLast Go.Proofs.YtplkoabikliagaaGreatDoorW.PrintMore
open Go.Proofs.YtplkoabikliagaaGreatDoor.L
def y0B (r : S51) : Bool := decide (r.f1.length ≤ 8) && decide (r.f2.length ≤ 8) && decide (r.f3.f0.length ≤ 256) && decide (r.f4.f0.length ≤ 256) && r.f3.f0.all (fun x => decide (x.f4.length ≤ 256)) && r.f4.f0.all (fun x => decide (x.f4.length ≤ 256))
def z9h (l : List S81) (p : List Int) : List S51 := p.flatMap fun n => (z0s l n).f2
def y2T (l : List S81) (p : List Int) : Bool := p.all (fun n => decide (0 ≤ n) && decide (n < l.length) && decide ((z0s l n).f2.length ≤ 64) && (z0s l n).f2.all y0B) && decide (p.length ≤ 32)
def z2C.f (k : Nat) (l0_0 : List ByteArray) (l0_1 : List z1J) (l0_2 : List S81) (a1 : Int) : Option (List S51 × Int) :=
 (z0L.f k l0_0 l0_1 l0_2 [a1]).bind fun e => if e = 0 then (z1f.f k l0_0 l0_1 l0_2 a1).bind fun p => if y2T l0_2 p = true then some (z9h l0_2 p, 0) else none else some ([], e)
theorem z2C.mono : ∀ a0 a1 a2 a3 k, LeO (z2C.f k a0 a1 a2 a3) (z2C.f (k + 1) a0 a1 a2 a3) := by
 intro a0 a1 a2 a3 k
 unfold z2C.f
 repeat' first
   | (with_reducible exact z0L.mono _ _ _ _ _)
   | (with_reducible exact z1f.mono _ _ _ _ _)
   | (with_reducible exact LeO.refl _)
   | (with_reducible exact LeO.none _)
   | (with_reducible refine LeO.ite ?_ ?_)
   | (with_reducible refine LeO.bind ?_ (fun _ => ?_))
theorem x0F (W : World) (a : Int) (e : TypeId) : Kd.C (Kd.int .i64) (W.alloc (.cells #[.int .i64 a] e)) (some ⟨W.heap.size, 0, none⟩) 1 [a] := by
 refine ⟨rfl, by decide, fun _ => ⟨_, rfl, fun j p hj => ⟨[.int .i64 p], rfl, rfl, fun i u hu => ?_⟩⟩⟩
 cases j with
 | zero =>
  simp only [List.getElem?_cons_zero, Option.some.injEq] at hj
  subst hj
  cases i with
  | zero =>
   simp only [List.getElem?_cons_zero, Option.some.injEq] at hu
   subst hu
   have : (⟨W.heap.size, 0, none⟩ : Addr).add (0 * (Kd.int .i64).sz + 0) = ⟨W.heap.size, 0, none⟩ := rfl
   rw [this, z0p (z9j W _)]
   rfl
  | succ i => simp at hu
 | succ j => simp at hj
structure Rg (W1 : World) (g B : Nat) (x : S51) (c1 c2 c3 c4 : Value) (o1 o2 o3 o4 : Option Value) (w : World) : Prop where
 below : Below g W1 w
 base : B ≤ g
 blk : w.heap[g]? = some (.cells #[.string x.f0, c1, c2, c3, c4, .int .u8 x.f5, .bool x.f6] 51 (0, 0))
 r1 : ∀ v, o1 = some v → Kd.R k54 54 w B (fun k => g < k) v x.f1
 r2 : ∀ v, o2 = some v → Kd.R k56 56 w B (fun k => g < k) v x.f2
 r3 : ∀ v, o3 = some v → Kd.R k58 58 w B (fun k => g < k) v x.f3.f0
 r4 : ∀ v, o4 = some v → Kd.R k58 58 w B (fun k => g < k) v x.f4.f0
section
variable {W1 w w1 : World} {g B : Nat} {x : S51} {c1 c2 c3 c4 : Value} {o1 o2 o3 o4 : Option Value}
theorem Rg.drew (h : Rg W1 g B x c1 c2 c3 c4 o1 o2 o3 o4 w) : Rg W1 g B x c1 c2 c3 c4 o1 o2 o3 o4 w.drew := by
 have hb : Below w.heap.size w w.drew := ⟨rfl, rfl, rfl, Nat.le_refl _, fun _ _ => rfl⟩
 exact ⟨h.below.trans (hb.mono (Nat.le_of_lt (z4s h.blk))), h.base, z0O h.blk hb, fun v hv => Kd.z2f (h.r1 v hv) hb, fun v hv => Kd.z2f (h.r2 v hv) hb, fun v hv => Kd.z2f (h.r3 v hv) hb, fun v hv => Kd.z2f (h.r4 v hv) hb⟩
theorem Rg.on (h : Rg W1 g B x c1 c2 c3 c4 o1 o2 o3 o4 w) (hb : Below w.heap.size w w1) : Rg W1 g B x c1 c2 c3 c4 o1 o2 o3 o4 w1 :=
 ⟨h.below.trans (hb.mono (Nat.le_of_lt (z4s h.blk))), h.base, z0O h.blk hb, fun v hv => Kd.z2f (h.r1 v hv) hb, fun v hv => Kd.z2f (h.r2 v hv) hb, fun v hv => Kd.z2f (h.r3 v hv) hb, fun v hv => Kd.z2f (h.r4 v hv) hb⟩
theorem x1L {α : Type} {d : Kd α} {e : Nat} {v : Value} {xs : List α} (h : d.R e w1 w.heap.size (fun _ => True) v xs) (hg : g < w.heap.size) (hB : B ≤ g) : d.R e w1 B (fun k => g < k) v xs :=
 Kd.z2n (Kd.z3D (Kd.z4W h) (fun k hk => Nat.lt_of_lt_of_le hg hk.2.1)) (by omega)
theorem Rg.keep (h : Rg W1 g B x c1 c2 c3 c4 o1 o2 o3 o4 w) (i : Nat) (u : Value) {d1 d2 d3 d4 : Value} (hs : #[.string x.f0, c1, c2, c3, c4, .int .u8 x.f5, .bool x.f6].setIfInBounds i u = #[.string x.f0, d1, d2, d3, d4, .int .u8 x.f5, .bool x.f6]) : Rg W1 g B x d1 d2 d3 d4 o1 o2 o3 o4 (w.setCell ⟨g, i, none⟩ u) := by
 have mv : ∀ k, g < k → (w.setCell ⟨g, i, none⟩ u).heap[k]? = w.heap[k]? := fun k hk => Below.heap_setCell w ⟨g, i, none⟩ u k (Nat.ne_of_gt hk)
 refine ⟨h.below.setCell (p := ⟨g, i, none⟩) (Nat.le_refl g) u, h.base, ?_, fun v hv => Kd.z8Y (h.r1 v hv) mv, fun v hv => Kd.z8Y (h.r2 v hv) mv, fun v hv => Kd.z8Y (h.r3 v hv) mv, fun v hv => Kd.z8Y (h.r4 v hv) mv⟩
 have := z5s h.blk i u
 rw [hs] at this
 exact this
theorem Rg.s1 (h : Rg W1 g B x c1 c2 c3 c4 o1 o2 o3 o4 w) (u : Value) : Rg W1 g B x u c2 c3 c4 o1 o2 o3 o4 (w.setCell ⟨g, 1, none⟩ u) := h.keep 1 u rfl
theorem Rg.s2 (h : Rg W1 g B x c1 c2 c3 c4 o1 o2 o3 o4 w) (u : Value) : Rg W1 g B x c1 u c3 c4 o1 o2 o3 o4 (w.setCell ⟨g, 2, none⟩ u) := h.keep 2 u rfl
theorem Rg.s3 (h : Rg W1 g B x c1 c2 c3 c4 o1 o2 o3 o4 w) (u : Value) : Rg W1 g B x c1 c2 u c4 o1 o2 o3 o4 (w.setCell ⟨g, 3, none⟩ u) := h.keep 3 u rfl
theorem Rg.s4 (h : Rg W1 g B x c1 c2 c3 c4 o1 o2 o3 o4 w) (u : Value) : Rg W1 g B x c1 c2 c3 u o1 o2 o3 o4 (w.setCell ⟨g, 4, none⟩ u) := h.keep 4 u rfl
theorem Rg.lt (h : Rg W1 g B x c1 c2 c3 c4 o1 o2 o3 o4 w) : g < w.heap.size := z4s h.blk
end
theorem w0w {W1 w : World} {B : Nat} {x : S51} {c1 c2 c3 c4 : Value} {o1 o2 o3 o4 : Option Value} (h : Rg W1 W1.heap.size B x c1 c2 c3 c4 o1 o2 o3 o4 w) {A : Option Addr} {c : Nat} (hr : Kd.C k54 W1 A x.f1.length x.f1) (hc : x.f1.length ≤ c) (hl : x.f1.length ≤ 8) :
  Calls Tryz.prog 56 #[.slice A x.f1.length c] w fun e w' => ∃ a n d, e = .returned (.slice a n d) ∧ Rg W1 W1.heap.size B x c1 c2 c3 c4 (some (.slice a n d)) o2 o3 o4 w' ∧ Below w.heap.size w w' := by
 refine (x0Z A c x.f1 w (Kd.z0t hr h.below) hc (by omega)).mono ?_
 rintro e w1 ⟨v, rfl, hv, hb1⟩
 obtain ⟨a, n, d, rfl⟩ := z9T hv
 exact ⟨a, n, d, rfl, { h.on hb1 with r1 := fun v hv' => by cases hv'; exact x1L hv h.lt h.base }, hb1⟩
theorem w0x {W1 w : World} {B : Nat} {x : S51} {c1 c2 c3 c4 : Value} {o1 o2 o3 o4 : Option Value} (h : Rg W1 W1.heap.size B x c1 c2 c3 c4 o1 o2 o3 o4 w) {A : Option Addr} {c : Nat} (hr : Kd.C k56 W1 A x.f2.length x.f2) (hc : x.f2.length ≤ c) (hl : x.f2.length ≤ 8) :
  Calls Tryz.prog 57 #[.slice A x.f2.length c] w fun e w' => ∃ a n d, e = .returned (.slice a n d) ∧ Rg W1 W1.heap.size B x c1 c2 c3 c4 o1 (some (.slice a n d)) o3 o4 w' ∧ Below w.heap.size w w' := by
 refine (x1a A c x.f2 w (Kd.z0t hr h.below) hc (by omega)).mono ?_
 rintro e w1 ⟨v, rfl, hv, hb1⟩
 obtain ⟨a, n, d, rfl⟩ := z9T hv
 exact ⟨a, n, d, rfl, { h.on hb1 with r2 := fun v hv' => by cases hv'; exact x1L hv h.lt h.base }, hb1⟩
theorem x4p {W1 w : World} {B : Nat} {x : S51} {c1 c2 c3 c4 : Value} {o1 o2 o3 o4 : Option Value} (h : Rg W1 W1.heap.size B x c1 c2 c3 c4 o1 o2 o3 o4 w) {A : Option Addr} {c : Nat} (hr : Kd.C k58 W1 A x.f3.f0.length x.f3.f0) (hc : x.f3.f0.length ≤ c) (hl : x.f3.f0.length ≤ 256) (hk : ∀ y ∈ x.f3.f0, y.f4.length ≤ 256) :
  Calls Tryz.prog 58 #[.agg #[.slice A x.f3.f0.length c]] w fun e w' => ∃ a n d, e = .returned (.agg #[.slice a n d]) ∧ Rg W1 W1.heap.size B x c1 c2 c3 c4 o1 o2 (some (.slice a n d)) o4 w' ∧ Below w.heap.size w w' := by
 refine (z5T A c x.f3.f0 w (Kd.z0t hr h.below) hc hl hk).mono ?_
 rintro e w1 ⟨v, rfl, hv, hb1⟩
 obtain ⟨a, n, d, rfl⟩ := z9T hv
 exact ⟨a, n, d, rfl, { h.on hb1 with r3 := fun v hv' => by cases hv'; exact x1L hv h.lt h.base }, hb1⟩
theorem x4q {W1 w : World} {B : Nat} {x : S51} {c1 c2 c3 c4 : Value} {o1 o2 o3 o4 : Option Value} (h : Rg W1 W1.heap.size B x c1 c2 c3 c4 o1 o2 o3 o4 w) {A : Option Addr} {c : Nat} (hr : Kd.C k58 W1 A x.f4.f0.length x.f4.f0) (hc : x.f4.f0.length ≤ c) (hl : x.f4.f0.length ≤ 256) (hk : ∀ y ∈ x.f4.f0, y.f4.length ≤ 256) :
  Calls Tryz.prog 58 #[.agg #[.slice A x.f4.f0.length c]] w fun e w' => ∃ a n d, e = .returned (.agg #[.slice a n d]) ∧ Rg W1 W1.heap.size B x c1 c2 c3 c4 o1 o2 o3 (some (.slice a n d)) w' ∧ Below w.heap.size w w' := by
 refine (z5T A c x.f4.f0 w (Kd.z0t hr h.below) hc hl hk).mono ?_
 rintro e w1 ⟨v, rfl, hv, hb1⟩
 obtain ⟨a, n, d, rfl⟩ := z9T hv
 exact ⟨a, n, d, rfl, { h.on hb1 with r4 := fun v hv' => by cases hv'; exact x1L hv h.lt h.base }, hb1⟩
theorem w2S {W1 w : World} {g B : Nat} {x : S51} {c1 c2 c3 c4 : Value} {o1 o2 o3 o4 : Option Value} (h : Rg W1 g B x c1 c2 c3 c4 o1 o2 o3 o4 w) : w.cell? ⟨g, 0, none⟩ = some (.string x.f0) ∧ w.cell? ⟨g, 1, none⟩ = some c1 ∧ w.cell? ⟨g, 2, none⟩ = some c2 ∧ w.cell? ⟨g, 3, none⟩ = some c3 ∧ w.cell? ⟨g, 4, none⟩ = some c4 ∧ w.cell? ⟨g, 5, none⟩ = some (.int .u8 x.f5) ∧ w.cell? ⟨g, 6, none⟩ = some (.bool x.f6) :=
 ⟨by rw [z0p h.blk]; rfl, by rw [z0p h.blk]; rfl, by rw [z0p h.blk]; rfl, by rw [z0p h.blk]; rfl, by rw [z0p h.blk]; rfl, by rw [z0p h.blk]; rfl, by rw [z0p h.blk]; rfl⟩
theorem z8S {W1 w : World} {g B : Nat} {x : S51} {c1 c2 c3 c4 : Value} {o1 o2 o3 o4 : Option Value} (h : Rg W1 g B x c1 c2 c3 c4 o1 o2 o3 o4 w) : w.cell? ⟨g, 1, none⟩ = some c1 ∧ w.cell? ⟨g, 2, none⟩ = some c2 ∧ w.cell? ⟨g, 3, none⟩ = some c3 ∧ w.cell? ⟨g, 4, none⟩ = some c4 ∧ ∀ j, w.frozen? ⟨g, j, none⟩ = false :=
 ⟨by rw [z0p h.blk]; rfl, by rw [z0p h.blk]; rfl, by rw [z0p h.blk]; rfl, by rw [z0p h.blk]; rfl, fun j => z1Q h.blk j⟩
theorem x1e {r : S51} (h : y0B r = true) : r.f1.length ≤ 8 ∧ r.f2.length ≤ 8 ∧ (r.f3.f0.length ≤ 256 ∧ ∀ x ∈ r.f3.f0, x.f4.length ≤ 256) ∧ (r.f4.f0.length ≤ 256 ∧ ∀ x ∈ r.f4.f0, x.f4.length ≤ 256) := by
 unfold y0B at h
 simp only [Bool.and_eq_true, List.all_eq_true, decide_eq_true_eq] at h
 exact ⟨h.1.1.1.1.1, h.1.1.1.1.2, ⟨h.1.1.1.2, h.1.2⟩, ⟨h.1.1.2, h.2⟩⟩
set_option maxHeartbeats 8000000 in
set_option maxRecDepth 100000 in
theorem z2C.calls (k : Nat) (z0U : Option Addr) (c0_0 : Nat) (l0_0 : List ByteArray) (z0X : Option Addr) (c0_1 : Nat) (l0_1 : List z1J) (z2c : Option Addr) (c0_2 : Nat) (l0_2 : List S81) (a1 : Int) (r1 : List S51) (r2 : Int) (w : World) (hr0_0 : Kd.C Kd.string w z0U l0_0.length l0_0) (hc0_0 : l0_0.length ≤ c0_0) (hr0_1 : Kd.C z5a w z0X l0_1.length l0_1) (hc0_1 : l0_1.length ≤ c0_1) (hr0_2 : Kd.C k81 w z2c l0_2.length l0_2) (hc0_2 : l0_2.length ≤ c0_2) (h : z2C.f k l0_0 l0_1 l0_2 a1 = some (r1, r2)) :
  Calls Tryz.prog 16 #[.agg #[.slice z0U l0_0.length c0_0, .slice z0X l0_1.length c0_1, .slice z2c l0_2.length c0_2], .int .i64 a1] w fun e w' => ∃ v0_ : Value, e = .returned (.tuple #[v0_, .int .i64 r2]) ∧ Kd.R k51 51 w' w.heap.size (fun _ => True) v0_ r1 ∧ Below w.heap.size w w' := by
 have HR0 := z0a.mk hr0_0
 have HR1 := z0a.mk hr0_1
 have HR2 := z0a.mk hr0_2
 clear hr0_0 hr0_1 hr0_2
 have hu28 := Tryz.underlying28
 have HS := z0a.mk (St.start w)
 unfold z2C.f at h
 cases ha : z0L.f k l0_0 l0_1 l0_2 [a1] with
 | none => rw [ha] at h; simp at h
 | some q =>
  rw [ha] at h
  simp only [Option.bind_some] at h
  have HA := z0a.mk ha
  clear ha
  by_cases hq : q = 0
  ·subst hq
   rw [if_pos rfl] at h
   cases hp : z1f.f k l0_0 l0_1 l0_2 a1 with
   | none => rw [hp] at h; simp at h
   | some p =>
    rw [hp] at h
    simp only [Option.bind_some] at h
    by_cases hfit : y2T l0_2 p = true
    ·rw [if_pos hfit] at h
     simp only [Option.some.injEq, Prod.mk.injEq] at h
     obtain ⟨hr1, rfl⟩ := h
     have HRR := z0a.mk hr1
     have HP := z0a.mk hp
     have HF := z0a.mk hfit
     clear hr1 hp hfit
     go_enter Tryz.func16, Tryz.ntmps16
     go_wp2_with (first | ((with_reducible refine z0o (N := 2) rfl ?_); refine z2t HS.out rfl (cs := #[.slice z0U l0_0.length c0_0, .slice z0X l0_1.length c0_1, .slice z2c l0_2.length c0_2]) (t := 28) ?hr ?_; (case hr => first | (go_simp; done) | (go_simp; rfl)); clear HS; intro g2 w_g2 hs hb; have HS := z0a.mk hs; clear hs hb; (try clear hc_g2 hf_g2); obtain ⟨hc_g2, hf_g2⟩ := HS.out.cell 0 rfl) | (go_at_call 52; refine (z0L.calls k _ _ _ _ _ _ _ _ _ _ _ [a1] 0 _ (Kd.z0t HR0.out (HS.out.push _).below) hc0_0 (Kd.z0t HR1.out (HS.out.push _).below) hc0_1 (Kd.z0t HR2.out (HS.out.push _).below) hc0_2 (x0F _ a1 _) (Nat.le_refl _) HA.out).mono ?_; rintro e w1 ⟨rfl, hb⟩; have hs := (HS.out.push (.cells #[.int .i64 a1] 3)).down hb; clear HS; have HS := z0a.mk hs; clear hs hb; (try clear hc_g2 hf_g2); obtain ⟨hc_g2, hf_g2⟩ := HS.out.cell 1 rfl) | (go_at_call 53; refine (z1f.calls k _ _ _ _ _ _ _ _ _ a1 p _ (Kd.z0t HR0.out HS.out.below) hc0_0 (Kd.z0t HR1.out HS.out.below) hc0_1 (Kd.z0t HR2.out HS.out.below) hc0_2 HP.out).mono ?_; rintro e w2 ⟨v21, rfl, hv, hb⟩; obtain ⟨Ap, cp, rfl, hpc, hpr⟩ := Kd.z4i hv; have hs := HS.out.down hb; clear HS; have HS := z0a.mk hs; have HPR := z0a.mk hpr; clear hs hb hv hpr hpc; (try clear hc_g2 hf_g2); obtain ⟨hc_g2, hf_g2⟩ := HS.out.cell 1 rfl))
     have hg2 := HS.out.lt 1 rfl
     have hge := HS.out.below.size
     have HSO := HS
     have HC2 := z0a.mk (show ∀ j, w2.cell? ⟨g2, j, none⟩ = #[Value.slice z0U l0_0.length c0_0, Value.slice z0X l0_1.length c0_1, Value.slice z2c l0_2.length c0_2][j]? from hc_g2)
     have hpl : p.length ≤ 32 := by have := HF.out; unfold y2T at this; simp only [Bool.and_eq_true, decide_eq_true_eq] at this; exact this.2
     have HPF := z0a.mk (show ∀ n ∈ p, (0 ≤ n ∧ n < (l0_2.length : Int)) ∧ (z0s l0_2 n).f2.length ≤ 64 ∧ ∀ r ∈ (z0s l0_2 n).f2, y0B r = true from fun n hn => by
      have := HF.out
      unfold y2T at this
      simp only [Bool.and_eq_true, List.all_eq_true, decide_eq_true_eq] at this
      have h1 := this.1 n hn
      exact ⟨⟨h1.1.1.1, h1.1.1.2⟩, h1.1.2, h1.2⟩)
     clear hc_g2 hf_g2
     obtain ⟨wo, hwo⟩ : ∃ wo : World, wo = w2 := ⟨_, rfl⟩
     subst hwo
     go_loopw [7, 23] (fun v7 i wr => ∃ j : Nat, ∃ acc : List S51, j ≤ p.length ∧ i = .int .i64 j ∧ acc.length ≤ 64 * j ∧ z0a (Kd.R k51 51 wr wo.heap.size (fun _ => True) v7 acc) ∧ z0a (Below wo.heap.size wo wr) ∧ z0a (acc ++ z9h l0_2 (p.drop j) = z9h l0_2 p)) (fun _ i _ => p.length - (intOf i).toNat)
     case atStart => exact ⟨0, [], Nat.zero_le _, rfl, Nat.zero_le _, ⟨Kd.z5O _ _ _ _ _⟩, ⟨Below.refl _ _⟩, ⟨by simp⟩⟩
     case round =>
      obtain ⟨j, acc, hj, rfl, hacc, HO, HBW, HT⟩ := hrel
      have hsz := HBW.out.size
      have hcr : ∀ j, wr.cell? ⟨g2, j, none⟩ = #[Value.slice z0U l0_0.length c0_0, Value.slice z0X l0_1.length c0_1, Value.slice z2c l0_2.length c0_2][j]? := fun j => (HBW.out.cell (p := ⟨g2, j, none⟩) hg2).trans (HC2.out j)
      by_cases hlt : j < p.length
      ·obtain ⟨n, hn⟩ : ∃ n, n = rd p (j : Int) := ⟨_, rfl⟩
       have hnm : n ∈ p := by rw [hn]; simp [rd, List.getD_eq_getElem?_getD, hlt]
       have hcons : p.drop j = n :: p.drop (j + 1) := by
        rw [hn, List.drop_eq_getElem_cons hlt]
        simp [rd, List.getD_eq_getElem?_getD, hlt]
       obtain ⟨hnb, hn64, hnf⟩ := HPF.out n hnm
       obtain ⟨adp, hAp, hpc⟩ := Kd.z3d (Kd.z0t HPR.out HBW.out) (j : Int) (by omega) (by omega)
       subst hAp
       rw [Int.toNat_natCast, ← hn] at hpc
       obtain ⟨adb, A6, c6, hAb, _, _, hb2', hb3, hb4⟩ := z3e HR2.out n hnb.1 hnb.2
       subst hAb
       have hb2 := z4v (HSO.out.below.trans (HBW.out.mono hge)) hb2'
       clear hb2'
       obtain ⟨L, hL⟩ : ∃ L, L = (z0s l0_2 n).f2 := ⟨_, rfl⟩
       rw [← hL] at hb2 hb3 hb4 hn64 hnf
       have hT := HT.out
       rw [hcons, z9h, List.flatMap_cons, ← hL] at hT
       have HT1 := z0a.mk hT
       have HLR := z0a.mk hb4
       have HLF := z0a.mk hnf
       have HL3 := z0a.mk hb3
       have hn0 := hnb.1
       have hn1 := hnb.2
       clear hT HT hb4 hnf hb3 hnb hL hcons hnm hn
       go_wp2
       obtain ⟨wj, hwj⟩ : ∃ wj : World, wj = wr := ⟨_, rfl⟩
       subst hwj
       have HCR := z0a.mk hcr
       clear hcr hpc hb2
       go_loopw [7, 34] (fun v7' i wi => ∃ m : Nat, ∃ acc' : List S51, m ≤ L.length ∧ i = .int .i64 m ∧ acc'.length ≤ 64 * j + m ∧ z0a (Kd.R k51 51 wi wo.heap.size (fun _ => True) v7' acc') ∧ z0a (Below wo.heap.size wo wi) ∧ z0a (acc' ++ L.drop m = acc ++ L)) (fun _ i _ => L.length - (intOf i).toNat)
       case atStart => exact ⟨0, acc, Nat.zero_le _, rfl, hacc, HO, HBW, ⟨by simp⟩⟩
       case round =>
        obtain ⟨m, acc', hm, rfl, hacc', HOI, HBI, HTI⟩ := hrel
        by_cases hltm : m < L.length
        ·obtain ⟨adr, A1, d1, A2, d2, A3, d3, A4, d4, hAr, hr0, hr1, hr2, hr3, hr4, hr5, hr6, l1, g1, l2, g2', l3, g3, l4, g4⟩ := y1K (Kd.z0t HLR.out (HSO.out.below.trans (HBI.out.mono hge))) (m : Int) (by omega) (by omega)
         subst hAr
         rw [Int.toNat_natCast] at hr0 hr1 hr2 hr3 hr4 hr5 hr6
         obtain ⟨x, hx⟩ : ∃ x, x = z0K L (m : Int) := ⟨_, rfl⟩
         rw [← hx] at hr0 hr1 hr2 hr3 hr4 hr5 hr6 l1 g1 l2 g2' l3 g3 l4 g4
         have hxm : x ∈ L := by rw [hx]; simp [z0K, List.getD_eq_getElem?_getD, hltm]
         have hxf := HLF.out x hxm
         have hcons : L.drop m = x :: L.drop (m + 1) := by
          rw [hx, List.drop_eq_getElem_cons hltm]
          simp [z0K, List.getD_eq_getElem?_getD, hltm]
         have HXF := z0a.mk hxf
         have HG1 := z0a.mk g1
         have HG2 := z0a.mk g2'
         have HG3 := z0a.mk g3
         have HG4 := z0a.mk g4
         have HLL := z0a.mk (And.intro l1 (And.intro l2 (And.intro l3 l4)))
         have hTI := HTI.out
         rw [hcons] at hTI
         have HTI2 := z0a.mk hTI
         clear g1 g2' g3 g4 l1 l2 l3 l4 hxf hcons hTI HTI hx hxm
         go_wp2
         have HS := z0a.mk (show Rg wr wr.heap.size wo.heap.size x (.slice A1 x.f1.length d1) (.slice A2 x.f2.length d2) (.slice A3 x.f3.f0.length d3) (.slice A4 x.f4.f0.length d4) none none none none (wr.alloc (.cells #[.string x.f0, .slice A1 x.f1.length d1, .slice A2 x.f2.length d2, .slice A3 x.f3.f0.length d3, .slice A4 x.f4.f0.length d4, .int .u8 x.f5, .bool x.f6] 51)) from
          ⟨(Below.refl _ _).alloc (Nat.le_refl _) _, HBI.out.size, z9j _ _, fun v h => (by cases h), fun v h => (by cases h), fun v h => (by cases h), fun v h => (by cases h)⟩)
         obtain ⟨f1, f2, f3, f4⟩ := x1e HXF.out
         obtain ⟨q1, q2, q3, q4, qf⟩ := z8S HS.out
         go_cut [] (fun wx => ∃ a5 n5 d5 a6 n6 d6, z0a (Rg wr wr.heap.size wo.heap.size x (.slice a5 n5 d5) (.slice a6 n6 d6) (.slice A3 x.f3.f0.length d3) (.slice A4 x.f4.f0.length d4) (some (.slice a5 n5 d5)) (some (.slice a6 n6 d6)) none none wx))
         case first =>
          go_region_with (first | (go_at_call 56; refine (w0w (W1 := wr) (B := wo.heap.size) (x := x) (by first | exact HS.out | exact HS.out.drew | exact HS.out.s1 _ | exact HS.out.s2 _) HG1.out HLL.out.1 f1).mono ?_; rintro e w3 ⟨y1, y2, y3, rfl, hs, hb⟩; clear HS; have HS := z0a.mk hs; clear hs hb; (try clear q1 q2 q3 q4 qf); obtain ⟨q1, q2, q3, q4, qf⟩ := z8S HS.out) | (go_at_call 57; refine (w0x (W1 := wr) (B := wo.heap.size) (x := x) (by first | exact HS.out | exact HS.out.drew | exact HS.out.s1 _ | exact HS.out.s2 _) HG2.out HLL.out.2.1 f2).mono ?_; rintro e w3 ⟨y4, y5, y6, rfl, hs, hb⟩; clear HS; have HS := z0a.mk hs; clear hs hb; (try clear q1 q2 q3 q4 qf); obtain ⟨q1, q2, q3, q4, qf⟩ := z8S HS.out))
          all_goals (go_wp2_with fail; go_meet; first | (with_reducible exact ⟨_, _, _, _, _, _, ⟨(HS.out.s1 _).s2 _⟩⟩) | (with_reducible exact ⟨_, _, _, _, _, _, ⟨(HS.out.s2 _).s1 _⟩⟩) | (with_reducible exact ⟨_, _, _, _, _, _, ⟨HS.out.s1 _⟩⟩) | (with_reducible exact ⟨_, _, _, _, _, _, ⟨HS.out.s2 _⟩⟩))
         case rest =>
          clear HS q1 q2 q3 q4 qf
          obtain ⟨a5, n5, d5, a6, n6, d6, HS⟩ := hcut
          obtain ⟨q1, q2, q3, q4, qf⟩ := z8S HS.out
          go_wp2
          go_cut [] (fun wx => ∃ a7 n7 d7 a8 n8 d8, z0a (Rg wr wr.heap.size wo.heap.size x (.slice a5 n5 d5) (.slice a6 n6 d6) (.slice a7 n7 d7) (.slice a8 n8 d8) (some (.slice a5 n5 d5)) (some (.slice a6 n6 d6)) (some (.slice a7 n7 d7)) (some (.slice a8 n8 d8)) wx))
          case first =>
           go_region_with (first | (go_at_call 58; ((with_reducible refine (x4p (W1 := wr) (B := wo.heap.size) (x := x) (by first | exact HS.out | exact HS.out.drew | exact HS.out.s3 _ | exact HS.out.s4 _) HG3.out HLL.out.2.2.1 f3.1 f3.2).mono ?_); rintro e w3 ⟨y1, y2, y3, rfl, hs, hb⟩); clear HS; have HS := z0a.mk hs; clear hs hb; (try clear q1 q2 q3 q4 qf); obtain ⟨q1, q2, q3, q4, qf⟩ := z8S HS.out) | (go_at_call 58; ((with_reducible refine (x4q (W1 := wr) (B := wo.heap.size) (x := x) (by first | exact HS.out | exact HS.out.drew | exact HS.out.s3 _ | exact HS.out.s4 _) HG4.out HLL.out.2.2.2 f4.1 f4.2).mono ?_); rintro e w3 ⟨y4, y5, y6, rfl, hs, hb⟩); clear HS; have HS := z0a.mk hs; clear hs hb; (try clear q1 q2 q3 q4 qf); obtain ⟨q1, q2, q3, q4, qf⟩ := z8S HS.out))
           all_goals (go_wp2_with fail; go_meet; first | (with_reducible exact ⟨_, _, _, _, _, _, ⟨(HS.out.s3 _).s4 _⟩⟩) | (with_reducible exact ⟨_, _, _, _, _, _, ⟨(HS.out.s4 _).s3 _⟩⟩) | (with_reducible exact ⟨_, _, _, _, _, _, ⟨HS.out.s3 _⟩⟩) | (with_reducible exact ⟨_, _, _, _, _, _, ⟨HS.out.s4 _⟩⟩))
          case rest =>
           clear HS q1 q2 q3 q4 qf
           obtain ⟨a7, n7, d7, a8, n8, d8, HS⟩ := hcut
           obtain ⟨q0, q1, q2, q3, q4, q5, q6⟩ := w2S HS.out
           have HRE := z0a.mk (Kd.z2f HOI.out HS.out.below)
           have HBE := z0a.mk (HBI.out.trans (HS.out.below.mono HBI.out.size))
           have hsz5 := HS.out.below.size
           have hbi := HBI.out.size
           have HLT := z0a.mk (Kd.w2j HOI.out)
           go_wp2_with ((with_reducible refine z2Z (b := .append) (xs := #[.tmp 54, .tmp 56]) rfl ?_); at_builtin; refine Kd.z9S k51 (w0 := wo) wo.heap.size rfl (.tmp 54) (.tmp 56) 37 51 (.agg #[(.string ⟨#[]⟩), (.slice none 0 0), (.slice none 0 0), (.slice none 0 0), (.slice none 0 0), (.int .u8 0), (.bool false)]) 120 rfl Tryz.underlying37 x7O rfl (by decide) (by omega) _ acc' x [.string x.f0, .slice a5 n5 d5, .slice a6 n6 d6, .slice a7 n7 d7, .slice a8 n8 d8, .int .u8 x.f5, .bool x.f6] (fun _ => True) (fun k => wr.heap.size < k) rfl rfl ?aP ?aK ?aF ?aO ?aB ?aS ?aL ?_; (case aP => exact x8t _ _ _ x (HS.out.r1 _ rfl) (HS.out.r2 _ rfl) (HS.out.r3 _ rfl) (HS.out.r4 _ rfl)); (case aK => exact (fun k hk => ⟨trivial, fun e => by have := HLT.out k e.symm; omega⟩)); (case aF => exact (fun _ _ => trivial)); (case aO => exact HRE.out); (case aB => exact HBE.out); (case aS => omega); (case aL => omega); intro v9 w9 ho hb hg hat; have HO9 := z0a.mk ho; have HB9 := z0a.mk hb; clear ho hb hg hat)
           go_roundw
           case rel =>
            exact ⟨m + 1, acc' ++ [x], by omega, by go_num, by simp; omega, HO9, HB9, ⟨by rw [List.append_assoc]; exact HTI2.out⟩⟩
           case measure => simp [intOf]; omega
        ·have hke : m = L.length := by omega
         have hT := HTI.out
         rw [hke, List.drop_length, List.append_nil] at hT
         have HA2 := z0a.mk hT
         clear hT HTI hke
         go_wp2
         go_roundw
         case rel =>
          refine ⟨j + 1, acc', by omega, by go_num, by omega, HOI, HBI, ⟨?_⟩⟩
          rw [HA2.out, ← HT1.out, List.append_assoc]
          rfl
         case measure => simp [intOf]; omega
      ·have hke : j = p.length := by omega
       have hT := HT.out
       rw [hke] at hT
       simp [z9h] at hT
       have HT2 := z0a.mk hT
       clear hT HT hke
       go_wp2
       go_ret2
       refine ⟨_, rfl, ?_, HSO.out.below.trans (HBW.out.mono hge)⟩
       have e : r1 = acc := by rw [HT2.out]; exact HRR.out.symm
       rw [e]
       exact Kd.z2n HO.out hge
    ·rw [if_neg hfit] at h; simp at h
  ·rw [if_neg hq] at h
   simp only [Option.some.injEq, Prod.mk.injEq] at h
   obtain ⟨rfl, rfl⟩ := h
   have hq1 : (q == 0) = false := by simpa using hq
   have hq2 : (q != 0) = true := by simpa using hq
   clear hq
   go_enter Tryz.func16, Tryz.ntmps16
   go_wp2_with (first | ((with_reducible refine z0o (N := 2) rfl ?_); refine z2t HS.out rfl (cs := #[.slice z0U l0_0.length c0_0, .slice z0X l0_1.length c0_1, .slice z2c l0_2.length c0_2]) (t := 28) ?hr ?_; (case hr => first | (go_simp; done) | (go_simp; rfl)); clear HS; intro g2 w_g2 hs hb; have HS := z0a.mk hs; clear hs hb; (try clear hc_g2 hf_g2); obtain ⟨hc_g2, hf_g2⟩ := HS.out.cell 0 rfl) | (go_at_call 52; refine (z0L.calls k _ _ _ _ _ _ _ _ _ _ _ [a1] q _ (Kd.z0t HR0.out (HS.out.push _).below) hc0_0 (Kd.z0t HR1.out (HS.out.push _).below) hc0_1 (Kd.z0t HR2.out (HS.out.push _).below) hc0_2 (x0F _ a1 _) (Nat.le_refl _) HA.out).mono ?_; rintro e w1 ⟨rfl, hb⟩; have hs := (HS.out.push (.cells #[.int .i64 a1] 3)).down hb; clear HS; have HS := z0a.mk hs; clear hs hb; (try clear hc_g2 hf_g2); obtain ⟨hc_g2, hf_g2⟩ := HS.out.cell 1 rfl))
   go_ret2
   exact ⟨_, rfl, Kd.z5O _ _ _ _ _, HS.out.below⟩
def y7i (l : List S81) (j : Nat) : Bool := !(l.any fun b => decide (b.f1 = (j : Int)))
def z2l (l : List S81) : Nat → Nat → List Int
 | _, 0 => []
 | j, n + 1 => if y7i l j = true then (j : Int) :: z2l l (j + 1) n else z2l l (j + 1) n
def z1Z.f (k : Nat) (l0_0 : List ByteArray) (l0_1 : List z1J) (l0_2 : List S81) : Option (List Int × Int) :=
 (z0L.f k l0_0 l0_1 l0_2 []).bind fun e => if e = 0 then (if l0_2.length ≤ 32 then some (z2l l0_2 0 l0_2.length, 0) else none) else some ([], e)
theorem z1Z.mono : ∀ a0 a1 a2 k, LeO (z1Z.f k a0 a1 a2) (z1Z.f (k + 1) a0 a1 a2) := by
 intro a0 a1 a2 k
 unfold z1Z.f
 repeat' first
   | (with_reducible exact z0L.mono _ _ _ _ _)
   | (with_reducible exact LeO.refl _)
   | (with_reducible exact LeO.none _)
   | (with_reducible refine LeO.ite ?_ ?_)
   | (with_reducible refine LeO.bind ?_ (fun _ => ?_))
set_option maxRecDepth 100000 in
theorem y4C (s : ByteArray) (p : Int) (A : Option Addr) (n c : Nat) (j : Int) (b : Nat) (w : World) (hc : w.cell? ⟨b, 0, none⟩ = some (.int .i64 j)) (hb : b < w.heap.size) :
  Calls Tryz.prog 60 #[.agg #[.string s, .int .i64 p, .slice A n c], .pointer (some ⟨b, 0, none⟩)] w fun e w' => e = .returned (.bool (decide (p = j))) ∧ Below w.heap.size w w' := by
 have hu := Tryz.underlying81
 have hc' : ∀ o, (w.alloc o).cell? ⟨b, 0, none⟩ = some (.int .i64 j) := fun o => (World.cell?_of_block (w := w) (Below.heap_alloc _ _ _ hb)).trans hc
 go_enter Tryz.func60, Tryz.ntmps60
 go_wp2
 go_ret
 exact ⟨rfl, (Below.refl _ _).alloc (Nat.le_refl _) _⟩
def x4r (j : Int) : List S81 → Nat → Int
 | [], _ => -1
 | x :: l, k => if x.f1 = j then k else x4r j l (k + 1)
theorem x0G (j : Int) : ∀ (l : List S81) (k : Nat), decide (0 ≤ x4r j l k) = l.any fun b => decide (b.f1 = j)
 | [], k => by simp [x4r]
 | x :: l, k => by
  by_cases h : x.f1 = j
  ·simp [x4r, h]
  ·simp only [x4r, h, if_false, List.any_cons, decide_false, Bool.false_or]
   exact x0G j l (k + 1)
set_option maxHeartbeats 4000000 in
set_option maxRecDepth 100000 in
theorem y7j (A : Option Addr) (c : Nat) (l : List S81) (j : Int) (b : Nat) (w : World) (hr : Kd.C k81 w A l.length l) (hlen : l.length ≤ 32) (hc : w.cell? ⟨b, 0, none⟩ = some (.int .i64 j)) (hb : b < w.heap.size) :
  Calls Tryz.prog 95 #[.slice A l.length c, .func (.func 60) #[] #[.pointer (some ⟨b, 0, none⟩)]] w fun e w' => e = .returned (.int .i64 (x4r j l 0)) ∧ Below w.heap.size w w' := by
 have HR := z0a.mk hr
 clear hr
 have HC := z0a.mk hc
 clear hc
 go_enter Tryz.func95, Tryz.ntmps95
 go_wp2
 go_loopw [8] (fun i wr => ∃ k : Nat, k ≤ l.length ∧ i = .int .i64 k ∧ z0a (Below w.heap.size w wr) ∧ z0a (x4r j l 0 = x4r j (l.drop k) k)) (fun i _ => l.length - (intOf i).toNat)
 case atStart => exact ⟨0, Nat.zero_le _, rfl, ⟨Below.refl _ _⟩, ⟨rfl⟩⟩
 case round =>
  obtain ⟨k, hk, rfl, HB, HI⟩ := hrel
  by_cases hlt : k < l.length
  ·obtain ⟨ad, A2, c2, hA, hy0, hy1, hy2, hy3⟩ := z3e (Kd.z0t HR.out HB.out) (k : Int) (by omega) (by omega)
   subst hA
   rw [Int.toNat_natCast] at hy0 hy1 hy2
   obtain ⟨x, hx⟩ : ∃ x, x = z0s l (k : Int) := ⟨_, rfl⟩
   rw [← hx] at hy0 hy1 hy2
   have hcons : l.drop k = x :: l.drop (k + 1) := by
    rw [hx, List.drop_eq_getElem_cons hlt]
    simp [z0s, List.getD_eq_getElem?_getD, hlt]
   clear hy3
   have hF := HI.out
   rw [hcons, x4r] at hF
   have HF := z0a.mk hF
   have hs := HB.out.size
   have hcc := (HB.out.cell (p := ⟨b, 0, none⟩) hb).trans HC.out
   have HCC := z0a.mk hcc
   clear hF hcons HI hx hcc
   by_cases he : x.f1 = j
   ·have hd : decide (x.f1 = j) = true := decide_eq_true he
    have HE := z0a.mk he
    clear he
    go_wp2_with (go_at_call 60; refine (y4C x.f0 x.f1 A2 x.f2.length c2 j b _ HCC.out (by omega)).mono ?_; rintro e w1 ⟨rfl, hb1⟩; have HB1 := z0a.mk hb1; clear hb1)
    go_ret
    refine ⟨by rw [HF.out, if_pos HE.out]; rfl, HB.out.trans (HB1.out.mono hs)⟩
   ·have hd : decide (x.f1 = j) = false := decide_eq_false he
    have HE := z0a.mk he
    clear he
    go_wp2_with (go_at_call 60; refine (y4C x.f0 x.f1 A2 x.f2.length c2 j b _ HCC.out (by omega)).mono ?_; rintro e w1 ⟨rfl, hb1⟩; have HB1 := z0a.mk hb1; clear hb1)
    go_roundw
    case rel => exact ⟨k + 1, by omega, by go_num, ⟨HB.out.trans (HB1.out.mono hs)⟩, ⟨by rw [HF.out, if_neg HE.out]⟩⟩
    case measure => simp [intOf]; omega
  ·have hke : k = l.length := by omega
   have hF := HI.out
   rw [hke] at hF
   simp [x4r] at hF
   have HF := z0a.mk hF
   clear hF HI hke
   go_wp2
   go_ret
   exact ⟨by rw [HF.out]; rfl, HB.out⟩
set_option maxHeartbeats 4000000 in
set_option maxRecDepth 100000 in
theorem y4D (A : Option Addr) (c : Nat) (l : List S81) (j : Nat) (b : Nat) (w : World) (hr : Kd.C k81 w A l.length l) (hlen : l.length ≤ 32) (hc : w.cell? ⟨b, 0, none⟩ = some (.int .i64 (j : Int))) (hb : b < w.heap.size) :
  Calls Tryz.prog 59 #[.slice A l.length c, .func (.func 60) #[] #[.pointer (some ⟨b, 0, none⟩)]] w fun e w' => e = .returned (.bool (!y7i l j)) ∧ Below w.heap.size w w' := by
 have hI := y7j A c l j b w hr hlen hc hb
 have HI := z0a.mk hI
 have hq := x0G (j : Int) l 0
 clear hI hr hc
 generalize x4r (j : Int) l 0 = q at *
 have HQ := z0a.mk hq
 clear hq
 go_enter Tryz.func59, Tryz.ntmps59
 go_wp2_with (go_at_call 95; refine HI.out.mono ?_; rintro e w1 ⟨rfl, hb1⟩)
 go_ret
 exact ⟨by unfold y7i; rw [Bool.not_not, ← HQ.out]; rfl, hb1⟩
set_option maxHeartbeats 8000000 in
set_option maxRecDepth 100000 in
theorem z1Z.calls (k : Nat) (z0U : Option Addr) (c0_0 : Nat) (l0_0 : List ByteArray) (z0X : Option Addr) (c0_1 : Nat) (l0_1 : List z1J) (z2c : Option Addr) (c0_2 : Nat) (l0_2 : List S81) (r1 : List Int) (r2 : Int) (w : World) (hr0_0 : Kd.C Kd.string w z0U l0_0.length l0_0) (hc0_0 : l0_0.length ≤ c0_0) (hr0_1 : Kd.C z5a w z0X l0_1.length l0_1) (hc0_1 : l0_1.length ≤ c0_1) (hr0_2 : Kd.C k81 w z2c l0_2.length l0_2) (hc0_2 : l0_2.length ≤ c0_2) (h : z1Z.f k l0_0 l0_1 l0_2 = some (r1, r2)) :
  Calls Tryz.prog 18 #[.agg #[.slice z0U l0_0.length c0_0, .slice z0X l0_1.length c0_1, .slice z2c l0_2.length c0_2]] w fun e w' => ∃ v0_ : Value, e = .returned (.tuple #[v0_, .int .i64 r2]) ∧ Kd.R (Kd.int .i64) 3 w' w.heap.size (fun _ => True) v0_ r1 ∧ Below w.heap.size w w' := by
 have HR0 := z0a.mk hr0_0
 have HR1 := z0a.mk hr0_1
 have HR2 := z0a.mk hr0_2
 clear hr0_0 hr0_1 hr0_2
 have hu28 := Tryz.underlying28
 have HS := z0a.mk (St.start w)
 unfold z1Z.f at h
 cases ha : z0L.f k l0_0 l0_1 l0_2 [] with
 | none => rw [ha] at h; simp at h
 | some q =>
  rw [ha] at h
  simp only [Option.bind_some] at h
  have HA := z0a.mk ha
  have HN := z0a.mk (show Kd.C (Kd.int .i64) w none 0 [] from ⟨rfl, by decide, fun h => absurd h (by decide)⟩)
  clear ha
  by_cases hq : q = 0
  ·subst hq
   rw [if_pos rfl] at h
   by_cases hlen : l0_2.length ≤ 32
   ·rw [if_pos hlen] at h
    simp only [Option.some.injEq, Prod.mk.injEq] at h
    obtain ⟨hr1, rfl⟩ := h
    have HR := z0a.mk hr1
    clear hr1
    go_enter Tryz.func18, Tryz.ntmps18
    go_wp2_with (first | ((with_reducible refine z0o (N := 1) rfl ?_); refine z2t HS.out rfl (cs := #[.slice z0U l0_0.length c0_0, .slice z0X l0_1.length c0_1, .slice z2c l0_2.length c0_2]) (t := 28) ?hr ?_; (case hr => first | (go_simp; done) | (go_simp; rfl)); clear HS; intro g1 w_g1 hs hb; have HS := z0a.mk hs; clear hs hb; (try clear hc_g1 hf_g1); obtain ⟨hc_g1, hf_g1⟩ := HS.out.cell 0 rfl) | (go_at_call 52; refine (z0L.calls k _ _ _ _ _ _ _ _ _ none 0 [] 0 _ (Kd.z0t HR0.out HS.out.below) hc0_0 (Kd.z0t HR1.out HS.out.below) hc0_1 (Kd.z0t HR2.out HS.out.below) hc0_2 (Kd.z0t HN.out HS.out.below) (Nat.le_refl _) HA.out).mono ?_; rintro e w1 ⟨rfl, hb⟩; have hs := HS.out.down hb; clear HS; have HS := z0a.mk hs; clear hs hb; (try clear hc_g1 hf_g1); obtain ⟨hc_g1, hf_g1⟩ := HS.out.cell 0 rfl))
    obtain ⟨wo, hwo⟩ : ∃ wo : World, wo = w1 := ⟨_, rfl⟩
    subst hwo
    have hc0' : ∀ j, wo.cell? ⟨g1, j, none⟩ = #[Value.slice z0U l0_0.length c0_0, Value.slice z0X l0_1.length c0_1, Value.slice z2c l0_2.length c0_2][j]? := hc_g1
    have hg1 := HS.out.lt 0 rfl
    have HC0 := z0a.mk hc0'
    have hge := HS.out.below.size
    clear hc0'
    go_loopw [5, 15] (fun v5 i wr => ∃ j : Nat, ∃ acc : List Int, j ≤ l0_2.length ∧ i = .int .i64 j ∧ acc.length ≤ j ∧ z0a (Kd.R (Kd.int .i64) 3 wr wo.heap.size (fun _ => True) v5 acc) ∧ z0a (Below wo.heap.size wo wr) ∧ z0a (acc ++ z2l l0_2 j (l0_2.length - j) = z2l l0_2 0 l0_2.length)) (fun _ i _ => l0_2.length - (intOf i).toNat)
    case atStart => exact ⟨0, [], Nat.zero_le _, rfl, Nat.zero_le _, ⟨Kd.z5O _ _ _ _ _⟩, ⟨Below.refl _ _⟩, ⟨by simp⟩⟩
    case round =>
     obtain ⟨j, acc, hj, rfl, hacc, HO, HBW, HT⟩ := hrel
     have hsz := HBW.out.size
     have hcr : ∀ j, wr.cell? ⟨g1, j, none⟩ = #[Value.slice z0U l0_0.length c0_0, Value.slice z0X l0_1.length c0_1, Value.slice z2c l0_2.length c0_2][j]? := fun j => (HBW.out.cell (p := ⟨g1, j, none⟩) hg1).trans (HC0.out j)
     clear hc_g1 hf_g1
     by_cases hlt : j < l0_2.length
     ·have hT := HT.out
      rw [show l0_2.length - j = (l0_2.length - (j + 1)) + 1 from by omega, z2l] at hT
      have hca : ∀ o i, (wr.alloc o).cell? ⟨g1, i, none⟩ = #[Value.slice z0U l0_0.length c0_0, Value.slice z0X l0_1.length c0_1, Value.slice z2c l0_2.length c0_2][i]? := fun o i => (World.cell?_of_block (w := wr) (Below.heap_alloc _ _ _ (by simp; omega))).trans (hcr i)
      have HBE := z0a.mk (fun (o : Obj) => show Below wo.heap.size wo (wr.alloc o) from HBW.out.alloc hsz o)
      by_cases hl : y7i l0_2 j = true
      ·rw [if_pos hl] at hT
       have HT2 := z0a.mk hT
       clear hT HT
       go_wp2_with (first | (go_at_call 59; (with_reducible refine (y4D z2c c0_2 l0_2 j wr.heap.size _ (Kd.z0t HR2.out (HS.out.below.trans ((HBE.out _).mono hge))) hlen (by simp) (by simp)).mono ?_); rw [hl]; rintro e w2 ⟨rfl, hb2⟩; obtain ⟨hcc, hff⟩ := bcell hb2; have hz2 : wr.heap.size + 1 ≤ w2.heap.size := (by have := hb2.size; simpa using this); have HB2 := z0a.mk ((HBE.out (.cells #[.int .i64 (j : Int)] 3)).trans (hb2.mono (by simp; omega))); have HO2 := z0a.mk (Kd.z2f (Kd.z2f HO.out ((Below.refl _ _).alloc (Nat.le_refl _) (.cells #[.int .i64 (j : Int)] 3))) hb2); clear hb2 HBW HO) | ((with_reducible refine z2Z (b := .append) (xs := #[.tmp 23, .tmp 25]) rfl ?_); at_builtin; refine Kd.z9S (Kd.int .i64) (w0 := wo) wo.heap.size rfl (.tmp 23) (.tmp 25) 31 3 (.int .i64 0) 8 rfl Tryz.underlying31 info3 rfl (by decide) (by omega) u5 acc (j : Int) [.int .i64 (j : Int)] (fun _ => True) (fun _ => False) rfl rfl ?aP (fun _ hk => hk.elim) ?aF ?aO ?aB ?aS ?aL ?_; (case aP => exact rfl); (case aB => exact HB2.out); (case aF => exact (fun _ _ => trivial)); (case aO => exact HO2.out); (case aS => omega); (case aL => omega); intro v8 w8 ho hb hg hat; have HO8 := z0a.mk ho; have HB8 := z0a.mk hb; clear ho hb hg hat hcc hff))
       go_roundw
       case rel => exact ⟨j + 1, acc ++ [(j : Int)], by omega, by go_num, by simp; omega, HO8, HB8, ⟨by rw [List.append_assoc]; exact HT2.out⟩⟩
       case measure => simp [intOf]; omega
      ·rw [if_neg hl] at hT
       have hl : y7i l0_2 j = false := by simpa using hl
       have HT2 := z0a.mk hT
       clear hT HT
       go_wp2_with (first | (go_at_call 59; (with_reducible refine (y4D z2c c0_2 l0_2 j wr.heap.size _ (Kd.z0t HR2.out (HS.out.below.trans ((HBE.out _).mono hge))) hlen (by simp) (by simp)).mono ?_); rw [hl]; rintro e w2 ⟨rfl, hb2⟩; obtain ⟨hcc, hff⟩ := bcell hb2; have hz2 : wr.heap.size + 1 ≤ w2.heap.size := (by have := hb2.size; simpa using this); have HB2 := z0a.mk ((HBE.out (.cells #[.int .i64 (j : Int)] 3)).trans (hb2.mono (by simp; omega))); have HO2 := z0a.mk (Kd.z2f (Kd.z2f HO.out ((Below.refl _ _).alloc (Nat.le_refl _) (.cells #[.int .i64 (j : Int)] 3))) hb2); clear hb2 HBW HO))
       go_roundw
       case rel => exact ⟨j + 1, acc, by omega, by go_num, by omega, HO2, HB2, HT2⟩
       case measure => simp [intOf]; omega
     ·have hke : j = l0_2.length := by omega
      have hT := HT.out
      rw [hke] at hT
      simp [z2l] at hT
      rw [← hT] at HR
      clear hT HT hke
      go_wp2
      go_ret2
      refine ⟨_, rfl, ?_, HS.out.below.trans (HBW.out.mono hge)⟩
      rw [← HR.out]
      exact Kd.z2n HO.out hge
   ·rw [if_neg hlen] at h; simp at h
  ·rw [if_neg hq] at h
   simp only [Option.some.injEq, Prod.mk.injEq] at h
   obtain ⟨rfl, rfl⟩ := h
   have hq1 : (q == 0) = false := by simpa using hq
   have hq2 : (q != 0) = true := by simpa using hq
   clear hq
   go_enter Tryz.func18, Tryz.ntmps18
   go_wp2_with (first | ((with_reducible refine z0o (N := 1) rfl ?_); refine z2t HS.out rfl (cs := #[.slice z0U l0_0.length c0_0, .slice z0X l0_1.length c0_1, .slice z2c l0_2.length c0_2]) (t := 28) ?hr ?_; (case hr => first | (go_simp; done) | (go_simp; rfl)); clear HS; intro g1 w_g1 hs hb; have HS := z0a.mk hs; clear hs hb; (try clear hc_g1 hf_g1); obtain ⟨hc_g1, hf_g1⟩ := HS.out.cell 0 rfl) | (go_at_call 52; refine (z0L.calls k _ _ _ _ _ _ _ _ _ none 0 [] q _ (Kd.z0t HR0.out HS.out.below) hc0_0 (Kd.z0t HR1.out HS.out.below) hc0_1 (Kd.z0t HR2.out HS.out.below) hc0_2 (Kd.z0t HN.out HS.out.below) (Nat.le_refl _) HA.out).mono ?_; rintro e w1 ⟨rfl, hb⟩; have hs := HS.out.down hb; clear HS; have HS := z0a.mk hs; clear hs hb; (try clear hc_g1 hf_g1); obtain ⟨hc_g1, hf_g1⟩ := HS.out.cell 0 rfl))
   go_ret2
   exact ⟨_, rfl, Kd.z5O _ _ _ _ _, HS.out.below⟩
end Go.Proofs.YtplkoabikliagaaGreatDoor.K
namespace Go.Proofs.YtplkoabikliagaaGreatDoor.K
open Go.RowKit Go.Shelf
set_option linter.unusedVariables false
theorem y9i (B b : Nat) (bs : List Value) (w : World) (h : Lib.IsBuilderF 108 5 B b bs w) :
  Calls Tryz.prog 96 #[.pointer (some ⟨b, 0, none⟩)] w fun e w' => e = .returned (.tuple #[]) ∧ (Lib.BuilderAtF 108 5 B b (.pointer (some ⟨b, 0, none⟩)) bs w' ∧ Below B w w' ∧ Lib.OthersKept 5 (some b) w w') := by
 rcases h with h | h
 ·refine (z7Y b w h.cell0 h.shape h.frozen0).mono ?_
  rintro e w' ⟨rfl, rfl⟩
  exact ⟨rfl, h.used _, (Below.refl B w).setCell (p := ⟨b, 0, none⟩) h.1 _, (Lib.OthersKept.refl _ _ w).setCell ⟨b, 0, none⟩ rfl _⟩
 ·refine (z9g b w h.cell0).mono ?_
  rintro e w' ⟨rfl, rfl⟩
  exact ⟨rfl, h, Below.refl B _, Lib.OthersKept.refl _ _ _⟩
set_option maxHeartbeats 2000000 in
set_option maxRecDepth 100000 in
theorem y5V (B b : Nat) (bs : List Value) (s : ByteArray) (w : World) (h : Lib.IsBuilderF 108 5 B b bs w) (hlen : bs.length + s.size ≤ 140737488355328) (hBw : B ≤ w.heap.size) :
  Calls Tryz.prog 62 #[.pointer (some ⟨b, 0, none⟩), .string s] w fun e w' => e = .returned (.tuple #[.int .i64 s.size, .nilIface]) ∧ (Lib.BuilderAtF 108 5 B b (.pointer (some ⟨b, 0, none⟩)) (bs ++ Lib.strCells s) w' ∧ Below B w w' ∧ Lib.OthersKept 5 (some b) w w') := by
 obtain ⟨i0, hi, hz0, hz1, hz2⟩ := info_parts infoByte
 have hu := Tryz.underlying108
 go_enter Tryz.func62, Tryz.ntmps62
 go_wp2_with (go_at_call 96; refine (y9i B b bs _ h).mono ?_)
 rintro e w1 ⟨rfl, h1, hb1, hk1⟩
 obtain ⟨hB, v, hbk, hown, hne⟩ := h1
 have c0 : w1.cell? ⟨b, 0, none⟩ = some (.pointer (some ⟨b, 0, none⟩)) := by rw [Lib.cell_of_heap hbk]; rfl
 have c1 : w1.cell? ⟨b, 1, none⟩ = some v := by rw [Lib.cell_of_heap hbk]; rfl
 go_wp2_with (at_builtin; refine Lib.wpList_append_own_stringF _ rfl _ _ 106 9 rfl B 5 i0 Tryz.underlying106 Tryz.underlying9 hi hz0 hz1 hz2 _ _ _ rfl hown s rfl ?c3 ?c4 ?c5 ?_)
 case c3 => unfold maxLen; omega
 case c4 => omega
 case c5 => have := hb1.size; omega
 intro v' w2 hown' hgrow _
 have hlt : b < w1.heap.size := by
  rcases Nat.lt_or_ge b w1.heap.size with h' | h'
  ·exact h'
  ·simp [Array.getElem?_eq_none h'] at hbk
 have hb2 : w2.heap[b]? = some (.cells #[.pointer (some ⟨b, 0, none⟩), v] 108 (0, 0)) := by
  rw [hgrow.block b hlt (fun e => hne e.symm)]
  exact hbk
 have d0 : w2.cell? ⟨b, 0, none⟩ = some (.pointer (some ⟨b, 0, none⟩)) := by rw [Lib.cell_of_heap hb2]; rfl
 have d1 : w2.cell? ⟨b, 1, none⟩ = some v := by rw [Lib.cell_of_heap hb2]; rfl
 have f1 : w2.frozen? ⟨b, 1, none⟩ = false := Lib.frozen_of_heap hb2 1
 obtain ⟨ao, n', cap, rfl⟩ : ∃ ao n' cap, v' = .slice ao n' cap := by
  rcases hown'.2 with ⟨hv, _⟩ | ⟨g, cap, cur, fz, hv, _⟩
  ·exact ⟨_, _, _, hv⟩
  ·exact ⟨_, _, _, hv⟩
 go_wp2
 go_ret2
 refine ⟨rfl, ?_, ?_, (hk1.grown hgrow (Lib.ownsRowF_kind hown)).setCell ⟨b, 1, none⟩ rfl _⟩
 ·exact Lib.BuilderAtF.put (T := 108) (e := 5) hB hb2 (bs' := bs ++ Lib.strCells s) (by simpa [Lib.strCells_length] using hown') (by decide)
 ·exact (hb1.grown hgrow (by have := hb1.size; omega) (fun k hk => (hown.lt k hk).1)).setCell (p := ⟨b, 1, none⟩) hB _
end Go.Proofs.YtplkoabikliagaaGreatDoor.K
namespace Go.Proofs.YtplkoabikliagaaGreatDoor.K
open Go.RowKit Go.Proofs.YtplkoabikliagaaGreatDoorW.PrintWords Go.Proofs.YtplkoabikliagaaGreatDoorW.PrintLast Go.Proofs.YtplkoabikliagaaGreatDoorW.PrintMore
open Go.Proofs.YtplkoabikliagaaGreatDoor.L
def par (l : List S81) (i : Nat) : Int := (z0s l (i : Int)).f1
structure Tree (l : List S81) : Prop where
 pos : 0 < l.length
 len : l.length ≤ 32
 root : par l 0 = -1
 up : ∀ i : Nat, 0 < i → i < l.length → 0 ≤ par l i ∧ par l i < (i : Int)
 named : ∀ x ∈ l, z1W.f x.f0 = some true
theorem x4s {l : List S81} {i : Nat} (h : i < l.length) : par l i = (l[i]'h).f1 := by
 simp [par, z0s, List.getD_eq_getElem?_getD, h]
theorem Tree.lt {l : List S81} (h : Tree l) (i : Nat) (hi : i < l.length) : par l i < (i : Int) := by
 rcases Nat.eq_zero_or_pos i with rfl | h0
 ·rw [h.root]; decide
 ·exact (h.up i h0 hi).2
theorem z8w : ∀ (l : List S81) (j : Nat) (seen : List ByteArray), z3W j seen l = some true →
  (∀ x ∈ l, z1W.f x.f0 = some true) ∧ ∀ (i : Nat) (h : i < l.length), 0 < j + i → 0 ≤ (l[i]'h).f1 ∧ (l[i]'h).f1 < ((j + i : Nat) : Int)
 | [], _, _, _ => ⟨fun _ h => (by cases h), fun i h => absurd h (Nat.not_lt_zero i)⟩
 | b :: r, j, seen, h => by
  unfold z3W at h
  split at h
  ·simp at h
  ·obtain ⟨ok, hok, h⟩ := Option.bind_eq_some_iff.1 h
   split at h
   ·rename_i he
    subst he
    split at h
    ·simp at h
    ·rename_i hn
     obtain ⟨h1, h2⟩ := z8w r (j + 1) _ h
     refine ⟨fun x hx => ?_, fun i hi h0 => ?_⟩
     ·rcases List.mem_cons.1 hx with rfl | hx
      ·exact hok
      ·exact h1 x hx
     ·cases i with
      | zero =>
       simp only [List.getElem_cons_zero]
       have : ¬ (b.f1 < 0 ∨ (j : Int) ≤ b.f1) := fun e => hn ⟨by omega, e⟩
       omega
      | succ i =>
       simp only [List.getElem_cons_succ]
       have := h2 i (by simpa using hi) (by omega)
       have e : j + 1 + i = j + (i + 1) := by omega
       rw [e] at this
       exact this
   ·simp at h
theorem z6f {l : List S81} (h : z2h.f l = some true) : Tree l := by
 cases l with
 | nil => simp [z2h.f] at h
 | cons b r =>
  simp only [z2h.f] at h
  split at h
  ·simp at h
  ·rename_i h1
   split at h
   ·simp at h
   ·rename_i h2
    split at h
    ·simp at h
    ·obtain ⟨g1, g2⟩ := z8w _ _ _ h
     refine ⟨by simp, by omega, ?_, fun i h0 hi => ?_, g1⟩
     ·rw [x4s (by simp)]
      simpa using h2
     ·rw [x4s hi]
      have := g2 i hi (by omega)
      simpa using this
theorem y7k {k : Nat} {l0 : List ByteArray} {l1 : List z1J} {l2 : List S81} {ts : List Int} (h : z0L.f k l0 l1 l2 ts = some 0) : Tree l2 := by
 unfold z0L.f at h
 obtain ⟨q, hq, h⟩ := Option.bind_eq_some_iff.1 h
 by_cases h0 : q = 0
 ·subst h0
  unfold z0S.f at hq
  obtain ⟨q1, hq1, hq⟩ := Option.bind_eq_some_iff.1 hq
  split at hq
  ·obtain ⟨b, hb, hq⟩ := Option.bind_eq_some_iff.1 hq
   split at hq
   ·rename_i e; subst e
    exact z6f hb
   ·simp at hq
  ·rename_i h1
   exact absurd (Option.some.inj hq) h1
 ·rw [if_neg h0] at h
  exact absurd (Option.some.inj h) h0
def y6C (l : List S81) : Nat → Nat → Nat
 | 0, _ => 0
 | n + 1, t => 1 + ((List.range l.length).map fun (i : Nat) => if par l i = (t : Int) then y6C l n i else 0).sum
theorem z5d {α : Type} {f g : α → Nat} : ∀ (l : List α), (∀ x ∈ l, f x = g x) → (l.map f).sum = (l.map g).sum
 | [], _ => rfl
 | a :: l, h => by simp [h a (by simp), z5d l (fun x hx => h x (by simp [hx]))]
theorem y0e {α : Type} : ∀ l : List α, (l.map fun _ => (0 : Nat)).sum = 0
 | [] => rfl
 | _ :: l => by simp [y0e l]
theorem x4t {α : Type} (f g : α → Nat) : ∀ (l : List α), (l.map fun x => f x + g x).sum = (l.map f).sum + (l.map g).sum
 | [] => rfl
 | a :: l => by simp [x4t f g l]; omega
theorem x0H {l : List S81} (h : Tree l) : ∀ n t, l.length ≤ t + n → y6C l (n + 1) t = if t < l.length then y6C l n t else 1
 | 0, t, hn => by
  rw [if_neg (by omega), y6C]
  have : ((List.range l.length).map fun (i : Nat) => if par l i = (t : Int) then y6C l 0 i else 0).sum = ((List.range l.length).map fun (_ : Nat) => 0).sum := z5d _ fun i hi => by split <;> rfl
  rw [this, y0e]
 | n + 1, t, hn => by
  split
  ·rename_i ht
   rw [y6C, y6C]
   congr 1
   refine z5d _ fun i hi => ?_
   have hi' := List.mem_range.1 hi
   split
   ·rename_i hp
    have := h.lt i hi'
    rw [x0H h n i (by omega), if_pos hi']
   ·rfl
  ·rename_i ht
   rw [y6C]
   have : ((List.range l.length).map fun (i : Nat) => if par l i = (t : Int) then y6C l (n + 1) i else 0).sum = ((List.range l.length).map fun (_ : Nat) => 0).sum := z5d _ fun i hi => by
    have hi' := List.mem_range.1 hi
    have := h.lt i hi'
    rw [if_neg (by omega)]
   rw [this, y0e]
theorem y5W {l : List S81} (h : Tree l) (t : Nat) (ht : t < l.length) : ∀ j, y6C l (l.length - t + j) t = y6C l (l.length - t) t
 | 0 => rfl
 | j + 1 => by
  rw [← y5W h t ht j]
  have := x0H h (l.length - t + j) t (by omega)
  rw [if_pos ht] at this
  exact this
def cT (l : List S81) (t : Nat) : Nat := y6C l (l.length - t) t
theorem cT_eq {l : List S81} (h : Tree l) (t : Nat) (ht : t < l.length) : cT l t = 1 + ((List.range l.length).map fun (i : Nat) => if par l i = (t : Int) then cT l i else 0).sum := by
 unfold cT
 rw [show l.length - t = (l.length - (t + 1)) + 1 from by omega, y6C]
 congr 1
 refine z5d _ fun i hi => ?_
 have hi' := List.mem_range.1 hi
 split
 ·rename_i hp
  have := h.lt i hi'
  have e : l.length - (t + 1) = l.length - i + (i - (t + 1)) := by omega
  rw [e, y5W h i hi']
 ·rfl
theorem range_split (m n : Nat) (h : m ≤ n) : List.range n = List.range m ++ List.range' m (n - m) := by
 rw [List.range_eq_range', List.range_eq_range']
 have := List.range'_append (s := 0) (m := m) (n := n - m) (step := 1)
 simp only [Nat.one_mul, Nat.zero_add] at this
 rw [this, show m + (n - m) = n from by omega]
theorem forest {l : List S81} (h : Tree l) : ∀ j m, m + j = l.length → ((List.range' m j).map fun (i : Nat) => if par l i < (m : Int) then cT l i else 0).sum = j
 | 0, _, _ => rfl
 | j + 1, m, hj => by
  have hm : m < l.length := by omega
  have ih := forest h j (m + 1) (by omega)
  rw [List.range'_succ, List.map_cons, List.sum_cons, if_pos (h.lt m hm), cT_eq h m hm, range_split (m + 1) l.length (by omega), List.map_append, List.sum_append]
  have z : ((List.range (m + 1)).map fun (i : Nat) => if par l i = (m : Int) then cT l i else 0).sum = 0 := by
   have : ((List.range (m + 1)).map fun (i : Nat) => if par l i = (m : Int) then cT l i else 0).sum = ((List.range (m + 1)).map fun (_ : Nat) => 0).sum := z5d _ fun i hi => by
    have hi' := List.mem_range.1 hi
    have := h.lt i (by omega)
    rw [if_neg (by omega)]
   rw [this, y0e]
  have e : l.length - (m + 1) = j := by omega
  rw [z, e, Nat.zero_add, Nat.add_assoc, ← x4t]
  have : ((List.range' (m + 1) j).map fun (i : Nat) => (if par l i = (m : Int) then cT l i else 0) + (if par l i < (m : Int) then cT l i else 0)).sum = ((List.range' (m + 1) j).map fun (i : Nat) => if par l i < ((m + 1 : Nat) : Int) then cT l i else 0).sum := z5d _ fun i _ => by
   by_cases h1 : par l i = (m : Int)
   ·rw [if_pos h1, if_neg (by omega), if_pos (by omega)]; rfl
   ·rw [if_neg h1]
    by_cases h2 : par l i < (m : Int)
    ·rw [if_pos h2, if_pos (by omega)]; omega
    ·rw [if_neg h2, if_neg (by omega)]
  rw [this, ih]; omega
theorem w0y {l : List S81} (h : Tree l) : y6C l l.length 0 = l.length := by
 have := forest h l.length 0 (by omega)
 have hp := h.pos
 rw [show l.length = (l.length - 1) + 1 from by omega, List.range'_succ, List.map_cons, List.sum_cons, if_pos (by rw [h.root]; decide)] at this
 have z : ((List.range' (0 + 1) (l.length - 1)).map fun (i : Nat) => if par l i < ((0 : Nat) : Int) then cT l i else 0).sum = 0 := by
  have : ((List.range' (0 + 1) (l.length - 1)).map fun (i : Nat) => if par l i < ((0 : Nat) : Int) then cT l i else 0).sum = ((List.range' (0 + 1) (l.length - 1)).map fun (_ : Nat) => 0).sum := z5d _ fun i hi => by
   have hi' := List.mem_range'_1.1 hi
   have := h.up i (by omega) (by omega)
   rw [if_neg (by omega)]
  rw [this, y0e]
 rw [z] at this
 have e : cT l 0 = y6C l l.length 0 := rfl
 rw [e] at this
 omega
def z5P (l : List S81) : Nat → Nat → Nat → List UInt8
 | 0, _, _ => []
 | n + 1, t, d => List.replicate (2 * d) 32 ++ (z0s l (t : Int)).f0.data.toList ++ [10] ++ (List.range l.length).flatMap (fun (i : Nat) => if (z0s l (i : Int)).f1 = (t : Int) then z5P l n i (d + 1) else [])
def z1T.f (k : Nat) (l0_0 : List ByteArray) (l0_1 : List z1J) (l0_2 : List S81) : Option (ByteArray × Int) :=
 (z0L.f k l0_0 l0_1 l0_2 []).bind fun e => if e = 0 then some (⟨(z5P l0_2 l0_2.length 0 0).toArray⟩, 0) else some (⟨#[]⟩, e)
theorem z1T.mono : ∀ a0 a1 a2 k, LeO (z1T.f k a0 a1 a2) (z1T.f (k + 1) a0 a1 a2) := by
 intro a0 a1 a2 k
 unfold z1T.f
 repeat' first
   | (with_reducible exact z0L.mono _ _ _ _ _)
   | (with_reducible exact LeO.refl _)
   | (with_reducible exact LeO.none _)
   | (with_reducible refine LeO.ite ?_ ?_)
   | (with_reducible refine LeO.bind ?_ (fun _ => ?_))
def y0C (l : List S81) (t d : Nat) : List UInt8 := List.replicate (2 * d) 32 ++ (z0s l (t : Int)).f0.data.toList ++ [10]
def x4u (l : List S81) (n t d : Nat) (i : Nat) : List UInt8 := if (z0s l (i : Int)).f1 = (t : Int) then z5P l n i (d + 1) else []
theorem z8T (l : List S81) (n t d : Nat) : z5P l (n + 1) t d = y0C l t d ++ (List.range' 0 l.length).flatMap (x4u l n t d) := by
 rw [z5P, y0C, List.range_eq_range']
 rfl
theorem y5X (d : Nat) : Lib.repeatL (⟨#[32, 32]⟩ : ByteArray).data.toList d = List.replicate (2 * d) 32 := by
 induction d with
 | zero => rfl
 | succ d ih =>
  rw [show 2 * (d + 1) = 2 * d + 1 + 1 from by omega, List.replicate_succ, List.replicate_succ, Lib.repeatL, ih]
  rfl
theorem y4m {T e : TypeId} {B b : Nat} {bs : List Value} {W W' : World} (h : Lib.IsBuilderF T e B b bs W) (hb : Below W.heap.size W W') : Lib.IsBuilderF T e B b bs W' := by
 have k : ∀ p, Lib.BuilderAtF T e B b p bs W → Lib.BuilderAtF T e B b p bs W' := by
  intro p h
  have hlt := h.lt
  obtain ⟨hB, v, hv, hown, hne⟩ := h
  exact ⟨hB, v, (hb.block b hlt).trans hv, hown.kept (row := none) ⟨hb.os, hb.tape, hb.output, hb.size, fun k hk _ => hb.block k hk⟩ (Classical.em _), hne⟩
 exact h.elim (fun x => .inl (k _ x)) (fun x => .inr (k _ x))
theorem y5Y {T e : TypeId} {B b : Nat} {bs : List Value} {W : World} (h : Lib.IsBuilderF T e B b bs W) : Lib.IsBuilderF T e B b bs W.drew := h.elim (fun x => .inl x.drew) (fun x => .inr x.drew)
def y2U (b g1 g6 : Nat) : Value := .func (.func 61) #[] #[.pointer (some ⟨b, 0, none⟩), .pointer (some ⟨g1, 0, none⟩), .pointer (some ⟨g6, 0, none⟩)]
attribute [local go_sem ↓] Go.wp_at_zero Go.wp_at_succ
set_option maxHeartbeats 8000000 in
set_option maxRecDepth 100000 in
theorem x1f (W : World) (A2 : Option Addr) (c2 : Nat) (l : List S81) (g1 b g6 : Nat) (hr : Kd.C k81 W A2 l.length l) (hlen : l.length ≤ 32) (hbW : W.heap.size ≤ b) (h1 : g1 < b) (h6 : g6 ≠ b) (hnm : ∀ x ∈ l, x.f0.size ≤ 32) (hpar : ∀ i : Nat, i < l.length → (z0s l (i : Int)).f1 < (i : Int)) :
  ∀ (k t d : Nat) (acc : List UInt8) (w : World), l.length ≤ t + k → t < l.length → d ≤ t → acc.length + (z5P l k t d).length ≤ 140737488355328 → Below W.heap.size W w → w.cell? ⟨g1, 2, none⟩ = some (.slice A2 l.length c2) → w.heap[g6]? = some (.cells #[y2U b g1 g6] 109 (0, 0)) → Lib.IsBuilderF 108 5 b b (Lib.byteCells acc) w → ∀ (ti di : Int), ti = t → di = d →
  Calls Tryz.prog 61 #[.int .i64 ti, .int .i64 di, .pointer (some ⟨b, 0, none⟩), .pointer (some ⟨g1, 0, none⟩), .pointer (some ⟨g6, 0, none⟩)] w fun e w' => e = .returned (.tuple #[]) ∧ Lib.IsBuilderF 108 5 b b (Lib.byteCells (acc ++ z5P l k t d)) w' ∧ Below b w w' ∧ Lib.OthersKept 5 (some b) w w' := by
 intro k
 induction k with
 | zero => intro t d acc w h1; omega
 | succ k ih =>
  intro t d acc w hk ht hd hsz hW hc1 hc6 hI ti di hti hdi
  subst hti
  subst hdi
  have IH := z0a.mk ih
  clear ih
  obtain ⟨x, hx⟩ : ∃ x, x = z0s l (t : Int) := ⟨_, rfl⟩
  have hxm : x ∈ l := by rw [hx]; simp [z0s, List.getD_eq_getElem?_getD, ht]
  have hxs := hnm x hxm
  have hline : y0C l t d = List.replicate (2 * d) 32 ++ x.f0.data.toList ++ [10] := by rw [y0C, hx]
  obtain ⟨ad, A3, c3, hA, hyW, _, _, _⟩ := z3e hr (t : Int) (by omega) (by omega)
  subst hA
  rw [Int.toNat_natCast, ← hx] at hyW
  have hadW := World.block_lt_of_cell? W _ hyW
  have hy0 : w.cell? (ad.add (t * 3)) = some (.string x.f0) := (hW.cell hadW).trans hyW
  have hbw : b < w.heap.size := hI.elim (fun h => h.lt) (fun h => h.lt)
  rw [z8T] at hsz ⊢
  have hll : (y0C l t d).length = 2 * d + x.f0.size + 1 := by rw [hline]; simp; rfl
  have HX := z0a.mk hx
  have HSZ := z0a.mk hsz
  have HLINE := z0a.mk hline
  have HII := z0a.mk hI
  have HWW := z0a.mk hW
  have HYW := z0a.mk hyW
  have HC6 := z0a.mk hc6
  have HR := z0a.mk hr
  have HP := z0a.mk hpar
  have hadb : (ad.add (t * 3)).block < b := by omega
  clear hx hsz hline hI hW hyW hc6 hr hpar hnm hxm
  have hu28 := Tryz.underlying28
  have hu39 := Tryz.underlying81
  have hrep : ∀ w', Calls Tryz.prog 63 #[.string (⟨#[32, 32]⟩ : ByteArray), .int .i64 (d : Int)] w' fun e w'' => e = .returned (.string ⟨Array.replicate (2 * d) (32 : UInt8)⟩) ∧ Below w'.heap.size w' w'' := by
   intro w'
   have h2 : (⟨#[32, 32]⟩ : ByteArray).size * d ≤ 140737488355328 := by
    have : (⟨#[32, 32]⟩ : ByteArray).size = 2 := rfl
    rw [this]; omega
   have := Tryz.strings_Repeat (⟨#[32, 32]⟩ : ByteArray) d w' (by omega) h2
   rwa [y5X, List.toArray_replicate] at this
  have HREP := z0a.mk hrep
  clear hrep
  obtain ⟨S, hS⟩ : ∃ S : ByteArray, S = ((⟨Array.replicate (2 * d) (32 : UInt8)⟩ : ByteArray) ++ x.f0) ++ (⟨#[10]⟩ : ByteArray) := ⟨_, rfl⟩
  have hSL : S.data.toList = y0C l t d := by rw [HLINE.out, hS]; simp [ByteArray.data_append]
  have hSc : Lib.strCells S = Lib.byteCells (y0C l t d) := by rw [← hSL]; rfl
  have hSs : S.size = 2 * d + x.f0.size + 1 := by
   have : S.size = S.data.toList.length := by first | rfl | simp
   rw [this, hSL, hll]
  have hlim : (Lib.byteCells acc).length + S.size ≤ 140737488355328 := by
   have := HSZ.out
   rw [List.length_append, hll] at this
   rw [Lib.byteCells_length, hSs]; omega
  have HSC := z0a.mk hSc
  have HLIM := z0a.mk hlim
  have HS := z0a.mk hS
  clear hS hSL hSc hSs hlim
  have ha1 : ¬ (9223372036854775807 < 2 * d + x.f0.size) := by omega
  have ha2 : ¬ (9223372036854775807 < 2 * d + x.f0.size + 1) := by omega
  have hc1d : w.drew.cell? ⟨g1, 2, none⟩ = some (.slice (some ad) l.length c2) := hc1
  have hy0d : w.drew.cell? (ad.add (t * 3)) = some (.string x.f0) := hy0
  go_enter Tryz.func61, Tryz.ntmps61
  go_wp2
  go_region_held3 (fun w' => w'.cell? ⟨g1, 2, none⟩ = some (.slice (some ad) l.length c2) ∧ w'.cell? (ad.add (t * 3)) = some (.string x.f0)) (exact ⟨by with_reducible assumption, by with_reducible assumption⟩)
   (first
    | (go_at_call 63; refine (HREP.out _).mono ?_; rintro e w1 ⟨rfl, hb1⟩; have hd1 : w1.cell? ⟨g1, 2, none⟩ = some (.slice (some ad) l.length c2) := (hb1.cell (p := ⟨g1, 2, none⟩) (Nat.lt_trans h1 hbw)).trans hc1; have hd2 : w1.cell? (ad.add (t * 3)) = some (.string x.f0) := (hb1.cell (Nat.lt_trans hadb hbw)).trans hy0; have HI1 := z0a.mk (y4m (y5Y HII.out) hb1); have HB1 := z0a.mk hb1; clear hb1)
    | (go_at_call 62; rw [← HS.out]; refine (y5V b b (Lib.byteCells acc) S _ HI1.out HLIM.out (Nat.le_of_lt (Nat.lt_of_lt_of_le hbw HB1.out.size))).mono ?_; rw [HSC.out, ← Lib.byteCells_append]; rintro e w2 ⟨rfl, hI2, hb2, hk2⟩; have he1 : w2.cell? ⟨g1, 2, none⟩ = some (.slice (some ad) l.length c2) := (hb2.cell (p := ⟨g1, 2, none⟩) h1).trans hd1; have he2 : w2.cell? (ad.add (t * 3)) = some (.string x.f0) := (hb2.cell hadb).trans hd2; have HI2 := z0a.mk hI2; have HB2 := z0a.mk hb2; have HK2 := z0a.mk hk2; clear hb2 hk2 hI2))
  have HE := z0a.mk he1
  have hb12 : Below b w w2 := ((⟨rfl, rfl, rfl, Nat.le_refl _, fun _ _ => rfl⟩ : Below b w w.drew).trans (HB1.out.mono (Nat.le_of_lt hbw))).trans HB2.out
  have hk12 : Lib.OthersKept 5 (some b) w w2 := (((Lib.OthersKept.refl 5 (some b) w).drew).trans (fun k o hk _ _ => (HB1.out.block k (z4s hk)).trans hk)).trans HK2.out
  have hs2 : w.heap.size ≤ w2.heap.size := hb12.size
  have HB12 := z0a.mk hb12
  have HK12 := z0a.mk hk12
  clear he1 he2 hd1 hd2 hc1d hy0d hy0 hc1 hb12 hk12 HB1 HB2 HK2 HI1 HREP HLIM HS HSC
  obtain ⟨wo, hwo⟩ : ∃ wo : World, wo = w2 := ⟨_, rfl⟩
  subst hwo
  have hE := HE.out
  go_wp2
  go_loopw [23] (fun i wr => ∃ m : Nat, ∃ acc' : List UInt8, m ≤ l.length ∧ i = .int .i64 m ∧ z0a (Lib.IsBuilderF 108 5 b b (Lib.byteCells acc') wr) ∧ z0a (Below b wo wr) ∧ z0a (Lib.OthersKept 5 (some b) wo wr) ∧ z0a (acc' ++ (List.range' m (l.length - m)).flatMap (x4u l k t d) = acc ++ (y0C l t d ++ (List.range' 0 l.length).flatMap (x4u l k t d)))) (fun i _ => l.length - (intOf i).toNat)
  case atStart => exact ⟨0, acc ++ y0C l t d, Nat.zero_le _, rfl, ⟨.inr HI2.out⟩, ⟨Below.refl _ _⟩, ⟨Lib.OthersKept.refl _ _ _⟩, ⟨by rw [List.append_assoc]; rfl⟩⟩
  case round =>
   obtain ⟨m, acc', hm, rfl, HIR, HBR, HKR, HT⟩ := hrel
   have HBW := z0a.mk (show Below b w wr from HB12.out.trans HBR.out)
   have HKW := z0a.mk (show Lib.OthersKept 5 (some b) w wr from HK12.out.trans HKR.out)
   have hsr : w.heap.size ≤ wr.heap.size := HBW.out.size
   have hbr : b < wr.heap.size := Nat.lt_of_lt_of_le hbw hsr
   by_cases hlt : m < l.length
   ·obtain ⟨ad', A5, c5, hA', hz0, hz1, hz2, hz3⟩ := z3e (Kd.z0t HR.out (HWW.out.trans (HBW.out.mono hbW))) (m : Int) (by omega) (by omega)
    obtain rfl := Option.some.inj hA'
    rw [Int.toNat_natCast] at hz0 hz1 hz2
    have hparm := HP.out m hlt
    have hkb : x4u l k t d m = if (z0s l (m : Int)).f1 = (t : Int) then z5P l k m (d + 1) else [] := rfl
    obtain ⟨y, hy⟩ : ∃ y, y = z0s l (m : Int) := ⟨_, rfl⟩
    rw [← hy] at hz0 hz1 hz2 hparm hkb
    clear hz3 hy hA'
    have hT := HT.out
    rw [show l.length - m = (l.length - (m + 1)) + 1 from by omega, List.range'_succ, List.flatMap_cons, hkb] at hT
    clear hkb HT
    have hcr : ∀ o, (wr.alloc o).cell? ⟨g1, 2, none⟩ = some (.slice (some ad) l.length c2) := fun o => (World.cell?_of_block (w := wr) (Below.heap_alloc _ _ _ (Nat.lt_trans h1 hbr))).trans ((HBR.out.cell (p := ⟨g1, 2, none⟩) h1).trans HE.out)
    have h6r : ∀ o, (wr.alloc o).heap[g6]? = some (.cells #[y2U b g1 g6] 109 (0, 0)) := fun o => (Below.heap_alloc _ _ _ (z4s (HKW.out _ _ HC6.out (fun e => h6 (Option.some.inj e)) (fun c fz e => by cases e)))).trans (HKW.out _ _ HC6.out (fun e => h6 (Option.some.inj e)) (fun c fz e => by cases e))
    have h6c : ∀ o, (wr.alloc o).cell? ⟨g6, 0, none⟩ = some (y2U b g1 g6) := fun o => by rw [Lib.cell_of_heap (h6r o)]; rfl
    have HBE := z0a.mk (fun (o : Obj) => show Below b wr (wr.alloc o) from (Below.refl _ _).alloc (Nat.le_of_lt hbr) o)
    have HIE := z0a.mk (fun (o : Obj) => HIR.out.alloc o)
    have HKE := z0a.mk (fun (o : Obj) => (Lib.OthersKept.refl 5 (some b) wr).alloc o)
    have HCR := z0a.mk hcr
    have H6R := z0a.mk h6r
    clear h6r hcr
    unfold y2U at h6c
    by_cases he : y.f1 = (t : Int)
    ·rw [if_pos he] at hT
     have HT2 := z0a.mk hT
     have hd : decide (y.f1 = (t : Int)) = true := decide_eq_true he
     have hd' : (y.f1 == (t : Int)) = true := by simpa using he
     have htm : t < m := by omega
     have HSZ2 := z0a.mk (show acc'.length + (z5P l k m (d + 1)).length ≤ 140737488355328 from by
      have h := congrArg List.length hT
      have h2 := HSZ.out
      simp only [List.length_append] at h h2
      omega)
     clear hT he hparm
     go_wp2_with (go_at_call 61; (with_reducible refine (IH.out m (d + 1) acc' _ (by omega) hlt (by omega) HSZ2.out (HWW.out.trans ((HBW.out.trans (HBE.out _)).mono hbW)) (HCR.out _) (H6R.out _) (HIE.out _) _ _ rfl (by go_num)).mono ?_); rintro e w3 ⟨rfl, hI3, hb3, hk3⟩; have HI3 := z0a.mk hI3; have HB3 := z0a.mk hb3; have HK3 := z0a.mk hk3; clear hI3 hb3 hk3)
     go_roundw
     case rel =>
      refine ⟨m + 1, acc' ++ z5P l k m (d + 1), by omega, by go_num, HI3, ⟨(HBR.out.trans (HBE.out _)).trans HB3.out⟩, ⟨(HKR.out.trans (HKE.out _)).trans HK3.out⟩, ⟨?_⟩⟩
      rw [List.append_assoc]; exact HT2.out
     case measure => simp [intOf]; omega
    ·rw [if_neg he] at hT
     have HT2 := z0a.mk hT
     have hd : decide (y.f1 = (t : Int)) = false := decide_eq_false he
     have hd' : (y.f1 == (t : Int)) = false := by simpa using he
     clear hT he hparm
     go_wp2
     go_roundw
     case rel => exact ⟨m + 1, acc', by omega, by go_num, ⟨HIE.out (.cells #[.string y.f0, .int .i64 y.f1, .slice A5 y.f2.length c5] 81)⟩, ⟨HBR.out.trans (HBE.out (.cells #[.string y.f0, .int .i64 y.f1, .slice A5 y.f2.length c5] 81))⟩, ⟨HKR.out.trans (HKE.out (.cells #[.string y.f0, .int .i64 y.f1, .slice A5 y.f2.length c5] 81))⟩, ⟨HT2.out⟩⟩
     case measure => simp [intOf]; omega
   ·have hke : m = l.length := by omega
    have hT := HT.out
    rw [hke] at hT
    simp only [Nat.sub_self, List.range'_zero, List.flatMap_nil, List.append_nil] at hT
    have HT2 := z0a.mk hT
    clear hT HT hke
    go_wp2
    go_end0
    exact ⟨rfl, by rw [← HT2.out]; exact HIR.out, HBW.out, HKW.out⟩
theorem z6N {s : ByteArray} (h : z1W.f s = some true) : s.size ≤ 32 := by
 unfold z1W.f at h
 split at h
 ·simp at h
 ·split at h
  ·omega
  ·simp at h
theorem y4E {α : Type} (c : Nat) {f g : α → Nat} : ∀ (l : List α), (∀ x ∈ l, f x ≤ c * g x) → (l.map f).sum ≤ c * (l.map g).sum
 | [], _ => by simp
 | a :: l, h => by
  simp only [List.map_cons, List.sum_cons, Nat.mul_add]
  exact Nat.add_le_add (h a (by simp)) (y4E c l (fun x hx => h x (by simp [hx])))
theorem z8x {l : List S81} (h : Tree l) : ∀ n t d, d ≤ t → t < l.length → (z5P l n t d).length ≤ 95 * y6C l n t
 | 0, _, _, _, _ => by simp [z5P]
 | n + 1, t, d, hd, ht => by
  have hl := h.len
  rw [z8T, y6C, List.length_append, List.length_flatMap, ← List.range_eq_range', Nat.mul_add]
  refine Nat.add_le_add ?_ ?_
  ·have hm : z0s l (t : Int) ∈ l := by simp [z0s, List.getD_eq_getElem?_getD, ht]
   have := z6N (h.named _ hm)
   have e : (z0s l (t : Int)).f0.data.toList.length = (z0s l (t : Int)).f0.size := rfl
   simp only [y0C, List.length_append, List.length_replicate, e, List.length_cons, List.length_nil]
   omega
  ·refine y4E 95 _ fun i hi => ?_
   have hi' := List.mem_range.1 hi
   have := h.lt i hi'
   unfold x4u par
   unfold par at this
   split
   ·exact z8x h n i (d + 1) (by omega) hi'
   ·simp
theorem x4v {l : List S81} (h : Tree l) : (z5P l l.length 0 0).length ≤ 3040 := by
 have h1 := z8x h l.length 0 0 (Nat.le_refl _) h.pos
 rw [w0y h] at h1
 have := h.len
 omega
set_option maxHeartbeats 8000000 in
set_option maxRecDepth 100000 in
theorem z1T.calls (k : Nat) (z0U : Option Addr) (c0_0 : Nat) (l0_0 : List ByteArray) (z0X : Option Addr) (c0_1 : Nat) (l0_1 : List z1J) (z2c : Option Addr) (c0_2 : Nat) (l0_2 : List S81) (r1 : ByteArray) (r2 : Int) (w : World) (hr0_0 : Kd.C Kd.string w z0U l0_0.length l0_0) (hc0_0 : l0_0.length ≤ c0_0) (hr0_1 : Kd.C z5a w z0X l0_1.length l0_1) (hc0_1 : l0_1.length ≤ c0_1) (hr0_2 : Kd.C k81 w z2c l0_2.length l0_2) (hc0_2 : l0_2.length ≤ c0_2) (h : z1T.f k l0_0 l0_1 l0_2 = some (r1, r2)) :
  Calls Tryz.prog 20 #[.agg #[.slice z0U l0_0.length c0_0, .slice z0X l0_1.length c0_1, .slice z2c l0_2.length c0_2]] w fun e w' => e = .returned (.tuple #[.string r1, .int .i64 r2]) ∧ Below w.heap.size w w' := by
 have HR0 := z0a.mk hr0_0
 have HR1 := z0a.mk hr0_1
 have HR2 := z0a.mk hr0_2
 clear hr0_0 hr0_1 hr0_2
 have hu28 := Tryz.underlying28
 have hu69 := Tryz.underlying108
 have hu70 := Tryz.underlying109
 have HS := z0a.mk (St.start w)
 unfold z1T.f at h
 cases ha : z0L.f k l0_0 l0_1 l0_2 [] with
 | none => rw [ha] at h; simp at h
 | some q =>
  rw [ha] at h
  simp only [Option.bind_some] at h
  have HA := z0a.mk ha
  have HN := z0a.mk (show Kd.C (Kd.int .i64) w none 0 [] from ⟨rfl, by decide, fun h => absurd h (by decide)⟩)
  clear ha
  by_cases hq : q = 0
  ·subst hq
   rw [if_pos rfl] at h
   simp only [Option.some.injEq, Prod.mk.injEq] at h
   obtain ⟨hr1, rfl⟩ := h
   have HT := z0a.mk (y7k HA.out)
   have HR := z0a.mk hr1
   clear hr1
   go_enter Tryz.func20, Tryz.ntmps20
   go_wp2_with (first | ((with_reducible refine z0o (N := 1) rfl ?_); refine z2t HS.out rfl (cs := #[.slice z0U l0_0.length c0_0, .slice z0X l0_1.length c0_1, .slice z2c l0_2.length c0_2]) (t := 28) ?hr ?_; (case hr => first | (go_simp; done) | (go_simp; rfl)); clear HS; intro g1 w_g1 hs hb; have HS := z0a.mk hs; clear hs hb; (try clear hc_g1 hf_g1); obtain ⟨hc_g1, hf_g1⟩ := HS.out.cell 0 rfl) | (go_at_call 52; refine (z0L.calls k _ _ _ _ _ _ _ _ _ none 0 [] 0 _ (Kd.z0t HR0.out HS.out.below) hc0_0 (Kd.z0t HR1.out HS.out.below) hc0_1 (Kd.z0t HR2.out HS.out.below) hc0_2 (Kd.z0t HN.out HS.out.below) (Nat.le_refl _) HA.out).mono ?_; rintro e w1 ⟨rfl, hb⟩; have hs := HS.out.down hb; clear HS; have HS := z0a.mk hs; clear hs hb; (try clear hc_g1 hf_g1); obtain ⟨hc_g1, hf_g1⟩ := HS.out.cell 0 rfl) | ((with_reducible refine z0o (N := 5) rfl ?_); refine z2t HS.out rfl (cs := #[.pointer none, .slice none 0 0]) (t := 108) ?hr ?_; (case hr => first | (go_simp; done) | (go_simp; rfl)); clear HS; intro g5 w_g5 hs hb; have HS := z0a.mk hs; clear hs hb; (try clear hc_g5 hf_g5); obtain ⟨hc_g5, hf_g5⟩ := HS.out.cell 0 rfl; (try clear hc_g1 hf_g1); obtain ⟨hc_g1, hf_g1⟩ := HS.out.cell 1 rfl) | ((with_reducible refine z0o (N := 6) rfl ?_); refine z2t HS.out rfl (cs := #[.nilFunc]) (t := 109) ?hr ?_; (case hr => first | (go_simp; done) | (go_simp; rfl)); clear HS; intro g6 w_g6 hs hb; have HS := z0a.mk hs; clear hs hb; (try clear hc_g6 hf_g6); obtain ⟨hc_g6, hf_g6⟩ := HS.out.cell 0 rfl; (try clear hc_g5 hf_g5); obtain ⟨hc_g5, hf_g5⟩ := HS.out.cell 1 rfl; (try clear hc_g1 hf_g1); obtain ⟨hc_g1, hf_g1⟩ := HS.out.cell 2 rfl) | (go_at_call 61; have hlt15 : g1 < g5 := (by have := HS.out.apart; simp at this; omega); have hlt56 : g5 < g6 := (by have := HS.out.apart; simp at this; omega); have hs2 := HS.out.put 0 rfl 0 (y2U g5 g1 g6); clear HS; have HS := z0a.mk hs2; clear hs2; refine (x1f w z2c c0_2 l0_2 g1 g5 g6 HR2.out HT.out.len (HS.out.ge 1 rfl) hlt15 (by omega) (fun x hx => z6N (HT.out.named x hx)) (fun i hi => HT.out.lt i hi) l0_2.length 0 0 [] _ (by omega) HT.out.pos (Nat.le_refl _) (by have := x4v HT.out; simp only [List.length_nil]; omega) HS.out.below ((HS.out.cell 2 rfl).1 2) (HS.out.get 0 rfl) (Lib.IsBuilderF.of (.inl ⟨Nat.le_refl _, .slice none 0 0, HS.out.get 1 rfl, World.ownsRow_nil _ _ _ _, by simp [Value.ownBlock]⟩)) 0 0 rfl rfl).mono ?_; rintro e w3 ⟨rfl, hI3, hb3, hk3⟩; have HI3 := z0a.mk hI3; have HB3 := z0a.mk hb3; clear hI3 hb3 hk3) | (go_at_call 64; refine (Tryz.Builder_String_any_f g5 g5 (z5P l0_2 l0_2.length 0 0) _ HI3.out (Nat.le_trans (Nat.le_of_lt (HS.out.lt 1 rfl)) HB3.out.size)).mono ?_; rintro e w4 ⟨rfl, hI4, hb4⟩; have HB4 := z0a.mk hb4; clear hI4 hb4))
   go_ret2
   exact ⟨by rw [← HR.out]; rfl, HS.out.below.trans ((HB3.out.trans HB4.out).mono (HS.out.ge 1 rfl))⟩
  ·rw [if_neg hq] at h
   simp only [Option.some.injEq, Prod.mk.injEq] at h
   obtain ⟨rfl, rfl⟩ := h
   have hq1 : (q == 0) = false := by simpa using hq
   have hq2 : (q != 0) = true := by simpa using hq
   clear hq
   go_enter Tryz.func20, Tryz.ntmps20
   go_wp2_with (first | ((with_reducible refine z0o (N := 1) rfl ?_); refine z2t HS.out rfl (cs := #[.slice z0U l0_0.length c0_0, .slice z0X l0_1.length c0_1, .slice z2c l0_2.length c0_2]) (t := 28) ?hr ?_; (case hr => first | (go_simp; done) | (go_simp; rfl)); clear HS; intro g1 w_g1 hs hb; have HS := z0a.mk hs; clear hs hb; (try clear hc_g1 hf_g1); obtain ⟨hc_g1, hf_g1⟩ := HS.out.cell 0 rfl) | (go_at_call 52; refine (z0L.calls k _ _ _ _ _ _ _ _ _ none 0 [] q _ (Kd.z0t HR0.out HS.out.below) hc0_0 (Kd.z0t HR1.out HS.out.below) hc0_1 (Kd.z0t HR2.out HS.out.below) hc0_2 (Kd.z0t HN.out HS.out.below) (Nat.le_refl _) HA.out).mono ?_; rintro e w1 ⟨rfl, hb⟩; have hs := HS.out.down hb; clear HS; have HS := z0a.mk hs; clear hs hb; (try clear hc_g1 hf_g1); obtain ⟨hc_g1, hf_g1⟩ := HS.out.cell 0 rfl))
   go_ret2
   exact ⟨rfl, HS.out.below⟩
end Go.Proofs.YtplkoabikliagaaGreatDoor.K
namespace Go.Proofs.YtplkoabikliagaaGreatDoor.L
open Go.RowKit Go.Proofs.YtplkoabikliagaaGreatDoorW.PrintWords
structure Spoil (S : Nat → Prop) (w0 w : World) : Prop where
 os : w.os = w0.os
 tape : w.tape = w0.tape
 output : w.output = w0.output
 size : w.heap.size = w0.heap.size
 out : ∀ k, ¬ S k → w.heap[k]? = w0.heap[k]?
 shape : ∀ (k : Nat) cs t, w0.heap[k]? = some (.cells cs t (0, 0)) → ∃ cs' : Array Value, w.heap[k]? = some (.cells cs' t (0, 0)) ∧ cs'.size = cs.size ∧ ∀ (i : Nat) A n c, cs[i]? = some (.slice A n c) → cs'[i]? = some (.slice A n c)
theorem Spoil.refl (S : Nat → Prop) (w : World) : Spoil S w w := ⟨rfl, rfl, rfl, rfl, fun _ _ => rfl, fun _ cs _ h => ⟨cs, h, rfl, fun _ _ _ _ h => h⟩⟩
theorem Spoil.below {S : Nat → Prop} {w0 w : World} {B : Nat} (h : Spoil S w0 w) (hS : ∀ k, S k → B ≤ k) : Below B w0 w :=
 ⟨h.os, h.tape, h.output, Nat.le_of_eq h.size.symm, fun k hk => h.out k (fun hs => Nat.not_lt.2 (hS k hs) hk)⟩
theorem Spoil.slice {S : Nat → Prop} {w0 w : World} (h : Spoil S w0 w) {g j : Nat} {cs : Array Value} {t : TypeId} (hg : w0.heap[g]? = some (.cells cs t (0, 0))) {A : Option Addr} {n c : Nat} (hj : cs[j]? = some (.slice A n c)) : w.cell? ⟨g, j, none⟩ = some (.slice A n c) := by
 obtain ⟨cs', h1, _, h3⟩ := h.shape g cs t hg
 rw [z0p h1]
 exact h3 j A n c hj
theorem Spoil.there {S : Nat → Prop} {w0 w : World} (h : Spoil S w0 w) {g j : Nat} {cs : Array Value} {t : TypeId} (hg : w0.heap[g]? = some (.cells cs t (0, 0))) (hj : j < cs.size) : (∃ u, w.cell? ⟨g, j, none⟩ = some u) ∧ w.frozen? ⟨g, j, none⟩ = false := by
 obtain ⟨cs', h1, h2, _⟩ := h.shape g cs t hg
 exact ⟨⟨_, by rw [z0p h1]; exact Array.getElem?_eq_getElem (by rw [h2]; exact hj)⟩, z1Q h1 j⟩
theorem Spoil.set {S : Nat → Prop} {w0 w : World} (h : Spoil S w0 w) {g j : Nat} {cs : Array Value} {t : TypeId} (hg : w0.heap[g]? = some (.cells cs t (0, 0))) (hS : S g) (hn : ∀ A n c, cs[j]? ≠ some (.slice A n c)) (u : Value) : Spoil S w0 (w.setCell ⟨g, j, none⟩ u) := by
 obtain ⟨cs1, h1, h2, h3⟩ := h.shape g cs t hg
 have hb := z5s h1 j u
 refine ⟨h.os, h.tape, h.output, by simp [World.setCell, h.size], fun k hk => ?_, fun k cs' t' hk => ?_⟩
 ·rw [Below.heap_setCell w ⟨g, j, none⟩ u k (fun e => hk (by rw [e]; exact hS))]
  exact h.out k hk
 ·by_cases hkg : k = g
  ·subst hkg
   rw [hg] at hk
   injection hk with hk
   injection hk with e1 e2 _
   subst e1; subst e2
   refine ⟨_, hb, by simp [h2], fun i A n c hi => ?_⟩
   rw [Array.getElem?_setIfInBounds, if_neg (fun e => hn A n c (by rw [e]; exact hi))]
   exact h3 i A n c hi
  ·obtain ⟨cs2, g1, g2, g3⟩ := h.shape k cs' t' hk
   exact ⟨cs2, by rw [Below.heap_setCell w ⟨g, j, none⟩ u k hkg]; exact g1, g2, g3⟩
theorem Spoil.step {S : Nat → Prop} {w0 w : World} (h : Spoil S w0 w) {ok : Nat → Prop} (hS : ∀ k, ok k → ¬ S k) : ∀ k, ok k → w.heap[k]? = w0.heap[k]? := fun k hk => h.out k (hS k hk)
theorem w2k {α : Type} {d : Kd α} {e B : Nat} {w : World} {ok : Nat → Prop} {v : Value} {xs : List α} (h : d.R e w B ok v xs) : ∃ a cap, v = .slice a xs.length cap ∧ ∀ (i : Nat) x, xs[i]? = some x → ∃ g cur cs, a = some ⟨g, 0, none⟩ ∧ B ≤ g ∧ ok g ∧ w.heap[g]? = some (.cells cur e (0, 0)) ∧ d.M w B (fun k => ok k ∧ some k ≠ v.ownBlock) x cs ∧ cs.length = d.sz ∧ (i + 1) * d.sz ≤ cur.size ∧ ∀ (j : Nat), j < d.sz → cur[i * d.sz + j]? = cs[j]? := by
 obtain ⟨h0, inner, ⟨hl, ho⟩, hr⟩ := h
 rcases ho with ⟨rfl, h1⟩ | ⟨g, cap, cur, hv, hB, hg, hc, hm, hsz, htake⟩
 ·refine ⟨none, 0, by rw [h1], fun i x hi => ?_⟩
  have : xs = [] := List.eq_nil_of_length_eq_zero h1
  rw [this] at hi
  simp at hi
 ·refine ⟨_, cap, hv, fun i x hi => ?_⟩
  obtain ⟨hil, _⟩ := List.getElem?_eq_some_iff.1 hi
  have hM := hr.2 i x hi
  have hi1 : (i + 1) * d.sz ≤ xs.length * d.sz := Nat.mul_le_mul_right _ hil
  have hi2 : xs.length * d.sz ≤ cap * d.sz := Nat.mul_le_mul_right _ hc
  have he : (i + 1) * d.sz = i * d.sz + d.sz := Nat.succ_mul i d.sz
  refine ⟨g, cur, _, rfl, hB, h0 g (by rw [hv]; rfl), hg, hM, d.K_len (d.K_of_M hM), by omega, fun j hj => ?_⟩
  rw [List.getElem?_take, if_pos hj, List.getElem?_drop, ← htake, List.getElem?_take, if_pos (by omega), Array.getElem?_toList]
def Mine (S : Nat → Prop) (W : World) (g j : Nat) : Prop := ∀ w, Spoil S W w → ((∃ u, w.cell? ⟨g, j, none⟩ = some u) ∧ w.frozen? ⟨g, j, none⟩ = false) ∧ ∀ u, Spoil S W (w.setCell ⟨g, j, none⟩ u)
def Stays (S : Nat → Prop) (W : World) (g j : Nat) (v : Value) : Prop := ∀ w, Spoil S W w → w.cell? ⟨g, j, none⟩ = some v
theorem y2V {S : Nat → Prop} {W : World} {g j : Nat} {cur : Array Value} {t : TypeId} {u : Value} (hg : W.heap[g]? = some (.cells cur t (0, 0))) (hS : S g) (hj : cur[j]? = some u) (hn : ∀ A n c, u ≠ .slice A n c) : Mine S W g j :=
 fun _ hsp => ⟨hsp.there hg (Array.getElem?_eq_some_iff.1 hj).1, fun v => hsp.set hg hS (fun A n c e => by rw [hj] at e; exact hn A n c (Option.some.inj e)) v⟩
theorem y0f {S : Nat → Prop} {W : World} {g j : Nat} {cur : Array Value} {t : TypeId} {A : Option Addr} {n c : Nat} (hg : W.heap[g]? = some (.cells cur t (0, 0))) (hj : cur[j]? = some (.slice A n c)) : Stays S W g j (.slice A n c) :=
 fun _ hsp => hsp.slice hg hj
theorem Mine.cell {S : Nat → Prop} {W w : World} {g j : Nat} (h : Mine S W g j) (hs : Spoil S W w) : ∃ u, w.cell? ⟨g, j, none⟩ = some u := (h w hs).1.1
theorem Mine.free {S : Nat → Prop} {W w : World} {g j : Nat} (h : Mine S W g j) (hs : Spoil S W w) : w.frozen? ⟨g, j, none⟩ = false := (h w hs).1.2
theorem Mine.set {S : Nat → Prop} {W w : World} {g j : Nat} (h : Mine S W g j) (hs : Spoil S W w) (u : Value) : Spoil S W (w.setCell ⟨g, j, none⟩ u) := (h w hs).2 u
end Go.Proofs.YtplkoabikliagaaGreatDoor.L
namespace Go.Proofs.YtplkoabikliagaaGreatDoor.K
open Go.RowKit Go.Proofs.YtplkoabikliagaaGreatDoorW.PrintWords Go.Proofs.YtplkoabikliagaaGreatDoorW.PrintLast Go.Proofs.YtplkoabikliagaaGreatDoorW.PrintMore
attribute [local go_sem] z1o z1p z1B z1C z1b z1c z1q z1r
set_option linter.unusedVariables false
set_option linter.unusedSimpArgs false
def z2D.f  : Option (List ByteArray × (List (z1J)) × (List (S81))) := some (([] : List ByteArray), (([(⟨97, 0, 0⟩ : z1J), (⟨98, 0, 0⟩ : z1J)] : List (z1J))), (([(⟨(⟨#[112]⟩ : ByteArray), (-1), ([] : List (S51))⟩ : S81), (⟨(⟨#[113]⟩ : ByteArray), 0, ([] : List (S51))⟩ : S81)] : List (S81))))
set_option maxHeartbeats 8000000 in
set_option maxRecDepth 100000 in
theorem z2D.calls  (r1 : List ByteArray) (r2 : List (z1J)) (r3 : List (S81)) (w : World) (h : z2D.f  = some (r1, r2, r3)) :
  Calls Tryz.prog 51 #[] w fun e w' => ∃ v0_ v1_ v2_ : Value, e = .returned (.agg #[v0_, v1_, v2_]) ∧ Kd.R Kd.string 9 w' w.heap.size (fun _ => True) v0_ r1 ∧ Kd.R z5a 145 w' w.heap.size (fun _ => True) v1_ r2 ∧ Kd.R k81 81 w' w.heap.size (fun _ => True) v2_ r3 ∧ Below w.heap.size w w' := by
 have hu28 := Tryz.underlying28
 have hu145 := Tryz.underlying145
 have hu25 := Tryz.underlying25
 have hu81 := Tryz.underlying81
 have HB := z0a.mk (Below.refl w.heap.size w)
 have H : (some (([] : List ByteArray), (([(⟨97, 0, 0⟩ : z1J), (⟨98, 0, 0⟩ : z1J)] : List (z1J))), (([(⟨(⟨#[112]⟩ : ByteArray), (-1), ([] : List (S51))⟩ : S81), (⟨(⟨#[113]⟩ : ByteArray), 0, ([] : List (S51))⟩ : S81)] : List (S81))))) = some (r1, r2, r3) := h
 clear h
 obtain ⟨y177, hy177⟩ : ∃ y_ : List (z1J), y_ = (([(⟨97, 0, 0⟩ : z1J), (⟨98, 0, 0⟩ : z1J)] : List (z1J))) := ⟨_, rfl⟩
 replace H : (some (([] : List ByteArray), y177, (([(⟨(⟨#[112]⟩ : ByteArray), (-1), ([] : List (S51))⟩ : S81), (⟨(⟨#[113]⟩ : ByteArray), 0, ([] : List (S51))⟩ : S81)] : List (S81))))) = some (r1, r2, r3) := by first | (rw [hy177]; with_reducible exact H) | (have H2_ := (Option.bind_some _ _).symm.trans H; rw [hy177]; with_reducible exact H2_) | (have H2_ := (Option.bind_some _ _).symm.trans H; with_reducible exact H2_) | with_reducible exact H | (rw [hy177]; exact H) | exact H
 have Ny177 := z0a.mk hy177
 clear hy177
 obtain ⟨y181, hy181⟩ : ∃ y_ : List (S81), y_ = (([(⟨(⟨#[112]⟩ : ByteArray), (-1), ([] : List (S51))⟩ : S81), (⟨(⟨#[113]⟩ : ByteArray), 0, ([] : List (S51))⟩ : S81)] : List (S81))) := ⟨_, rfl⟩
 replace H : (some (([] : List ByteArray), y177, y181)) = some (r1, r2, r3) := by first | (rw [hy181]; with_reducible exact H) | (have H2_ := (Option.bind_some _ _).symm.trans H; rw [hy181]; with_reducible exact H2_) | (have H2_ := (Option.bind_some _ _).symm.trans H; with_reducible exact H2_) | with_reducible exact H | (rw [hy181]; exact H) | exact H
 have Ny181 := z0a.mk hy181
 clear hy181
 simp only [Option.some.injEq, Prod.mk.injEq] at H
 obtain ⟨rfl, rfl, rfl⟩ := H
 go_enter Tryz.func51, Tryz.ntmps51
 go_wp2_with (first | ((with_reducible refine z0o (N := 0) rfl ?_); refine zo (cs := #[.slice none 0 0, .slice none 0 0, .slice none 0 0]) (t := 28) ?_; intro y7l hg w1 hbox hb; have y1n := z0a.mk hbox; have GW176 := zG HB hg; have GE176 := zG HB hg; replace HB := zB HB hb; clear hb hbox hg) | ((with_reducible refine z0o (N := 4) rfl ?_); refine Kd.y6H z5a _ 145 ?hg (N := 4) ?hd (xs := ([(⟨97, 0, 0⟩ : z1J), (⟨98, 0, 0⟩ : z1J)] : List (z1J))) (inner := [.int .i32 97, .int .u32 0, .int .u32 0, .int .i32 98, .int .u32 0, .int .u32 0]) (ok := fun _ => True) (okp := fun _ => True) ?hr ?hp (fun _ hk => hk) trivial (Below.refl _ _) (Nat.le_refl _) (by simp) ?_; (case hd => rfl); (case hg => rfl); (case hr => first | (go_simp; done) | (go_simp; rfl)); (case hp => exact (Reps.c3 (show Kd.M z5a _ _ _ (⟨97, 0, 0⟩ : z1J) [.int .i32 97, .int .u32 0, .int .u32 0] from (x0x _ _ _ (⟨97, 0, 0⟩ : z1J) )) (Reps.c3 (show Kd.M z5a _ _ _ (⟨98, 0, 0⟩ : z1J) [.int .i32 98, .int .u32 0, .int .u32 0] from (x0x _ _ _ (⟨98, 0, 0⟩ : z1J) )) (Reps.none _ _)))); intro v178 w2 ho3 hb hg_ hnew_; clear hg_ hnew_; (first | rw [← Ny177.out] at ho3 | (simp only [Int.reduceToNat] at ho3; rw [← Ny177.out] at ho3)); have HO179 := z0a.mk (Kd.z2n ho3 (z1x zb)); replace y1n := zK y1n hb; replace HB := zB HB hb; clear hb ho3; obtain ⟨Ao4, co4, eo4⟩ := Kd.z2q HO179.out; subst eo4) | ((with_reducible refine z0o (N := 1) rfl ?_); refine zo (cs := #[.slice none 0 0, .slice none 0 0]) (t := 25) ?_; intro w0z hg w5 hbox hb; have x7b := z0a.mk hbox; have GW180 := zG HB hg; have GE180 := zG HB hg; have y2W := zN y1n hg; have x4w := zM y1n hg; replace HO179 := z0a.mk (Kd.z2f (by (with_reducible repeat (first | apply Kd.z0Z | apply Kd.z0Y | apply Kd.z1n)); exact HO179.out) hb); replace y1n := zK y1n hb; replace HB := zB HB hb; clear hb hbox hg; have hnb6 := x4w.out; have hnc6 := y2W.out; obtain ⟨z4b, z4c, z4d, z4e⟩ := zc2 w5 x7b.out) | ((with_reducible refine z0o (N := 9) rfl ?_); refine Kd.y6H k81 _ 81 ?hg (N := 9) ?hd (xs := ([(⟨(⟨#[112]⟩ : ByteArray), (-1), ([] : List (S51))⟩ : S81), (⟨(⟨#[113]⟩ : ByteArray), 0, ([] : List (S51))⟩ : S81)] : List (S81))) (inner := [.string (⟨#[112]⟩ : ByteArray), .int .i64 (-1), .slice none 0 0, .string (⟨#[113]⟩ : ByteArray), .int .i64 0, .slice none 0 0]) (ok := fun _ => True) (okp := fun _ => True) ?hr ?hp (fun _ hk => hk) trivial (Below.refl _ _) (Nat.le_refl _) (by simp) ?_; (case hd => rfl); (case hg => rfl); (case hr => first | (go_simp; done) | (go_simp; rfl)); (case hp => exact (Reps.c3 (show Kd.M k81 _ _ _ (⟨(⟨#[112]⟩ : ByteArray), (-1), ([] : List (S51))⟩ : S81) [.string (⟨#[112]⟩ : ByteArray), .int .i64 (-1), .slice none 0 0] from (x2j _ _ _ (⟨(⟨#[112]⟩ : ByteArray), (-1), ([] : List (S51))⟩ : S81) (Kd.z5O _ _ _ _ _))) (Reps.c3 (show Kd.M k81 _ _ _ (⟨(⟨#[113]⟩ : ByteArray), 0, ([] : List (S51))⟩ : S81) [.string (⟨#[113]⟩ : ByteArray), .int .i64 0, .slice none 0 0] from (x2j _ _ _ (⟨(⟨#[113]⟩ : ByteArray), 0, ([] : List (S51))⟩ : S81) (Kd.z5O _ _ _ _ _))) (Reps.none _ _)))); intro v182 w8 ho9 hb hg_ hnew_; clear hg_ hnew_; (first | rw [← Ny181.out] at ho9 | (simp only [Int.reduceToNat] at ho9; rw [← Ny181.out] at ho9)); have HO183 := z0a.mk (Kd.z2n ho9 (z1x zb)); replace HO179 := z0a.mk (Kd.z2f (by (with_reducible repeat (first | apply Kd.z0Z | apply Kd.z0Y | apply Kd.z1n)); exact (Kd.z3D (Kd.z7U (p := ⟨w0z, 1, none⟩) (Kd.z7U (p := ⟨w0z, 0, none⟩) (Kd.y1A HO179.out x7b.out (by decide)) (fun _ hk => hk.2) (.slice none 0 0)) (fun _ hk => hk.2) (.slice Ao4 y177.length co4)) (fun _ h_ => h_.1))) hb); replace y1n := z0a.mk (z0O (g := y7l) (o := .cells #[.slice none 0 0, .slice none 0 0, .slice none 0 0] 28 (0, 0)) (by (with_reducible repeat (first | refine z0c ?_ _ | refine z0e ?_ | refine z0b ?_ _)); refine z0n ?_ y2W.out _; (with_reducible repeat (first | refine z0c ?_ _ | refine z0e ?_ | refine z0b ?_ _)); refine z0n ?_ y2W.out _; (with_reducible repeat (first | refine z0c ?_ _ | refine z0e ?_ | refine z0b ?_ _)); exact y1n.out) hb); replace x7b := z0a.mk (z0O (g := w0z) (o := .cells #[.slice none 0 0, .slice Ao4 y177.length co4] 25 (0, 0)) (z5s (z5s x7b.out 0 _) 1 _) hb); replace HB := zB HB hb; clear hb ho9; obtain ⟨Ao10, co10, eo10⟩ := Kd.z2q HO183.out; subst eo10; obtain ⟨z3M, z6J, z6K, z3N, z6L, z6M⟩ := zc3 w8 y1n.out))
 refine bodyPost_ret (results_cell_row rfl _ _ y7l 28 #[.slice none 0 0, .slice Ao4 y177.length co4, .slice Ao10 y181.length co10] (0, 0) _ rfl (z5s (z5s (z5s y1n.out 0 _) 1 _) 2 _) Tryz.underlying28 rfl (by kernel_rfl)) rfl ?_
 exact ⟨_, _, _, zr, by first | exact Kd.z5O _ _ _ _ _ | exact Kd.y6P _ _ _ _ _ | exact Kd.y6T _ _ _ _ _ | exact Kd.y6I _ _ _ _ _ | exact Kd.y6O _ _ _ _ _, by (with_reducible repeat (first | apply Kd.z0Z | apply Kd.z0Y | apply Kd.z1n)); exact Kd.z3D (Kd.z7U (p := ⟨y7l, 2, none⟩) (Kd.z7U (p := ⟨y7l, 1, none⟩) (Kd.z7U (p := ⟨y7l, 0, none⟩) (Kd.y1A HO179.out y1n.out (by decide)) (fun _ hk => hk.2) (.slice none 0 0)) (fun _ hk => hk.2) (.slice Ao4 y177.length co4)) (fun _ hk => hk.2) (.slice Ao10 y181.length co10)) (fun _ hk => trivial), by (with_reducible repeat (first | apply Kd.z0Z | apply Kd.z0Y | apply Kd.z1n)); exact Kd.z3D (Kd.z7U (p := ⟨y7l, 2, none⟩) (Kd.z7U (p := ⟨y7l, 1, none⟩) (Kd.z7U (p := ⟨y7l, 0, none⟩) (Kd.y1A HO183.out y1n.out (by decide)) (fun _ hk => hk.2) (.slice none 0 0)) (fun _ hk => hk.2) (.slice Ao4 y177.length co4)) (fun _ hk => hk.2) (.slice Ao10 y181.length co10)) (fun _ hk => trivial), by repeat (first | (with_reducible first | exact HB.out | apply z1w | apply z1d | apply z1l | refine z1X ?_ GE176.out | refine z1X ?_ GE180.out) | exact HB.out)⟩
def z1H.f (k : Nat)  : Option (Bool) := (z2D.f).bind fun bt184 => ((z1T.f k bt184.1 bt184.2.1 bt184.2.2).bind fun bt193 => (if bt193.2 = 0 then (some (bt193.1.toList == ([112, 10, 32, 32, 113, 10] : List UInt8))) else (some false)))
theorem z1H.mono : ∀ k, LeO (z1H.f k ) (z1H.f (k + 1) ) := by
 intro  k
 unfold z1H.f
 repeat' first
   | (with_reducible exact z1T.mono _ _ _ _)
   | (with_reducible exact LeO.refl _)
   | (with_reducible exact LeO.none _)
   | (with_reducible refine LeO.ite ?_ ?_)
   | (with_reducible refine LeO.bind ?_ (fun _ => ?_))
set_option maxHeartbeats 8000000 in
set_option maxRecDepth 100000 in
theorem z1H.calls (k : Nat)  (r : Bool) (w : World) (h : z1H.f k  = some r) :
  Calls Tryz.prog 10 #[] w fun e w' => e = .returned (.bool r) ∧ Below w.heap.size w w' := by
 have HB := z0a.mk (Below.refl w.heap.size w)
 have H : ((z2D.f).bind fun bt184 => ((z1T.f k bt184.1 bt184.2.1 bt184.2.2).bind fun bt193 => (if bt193.2 = 0 then (some (bt193.1.toList == ([112, 10, 32, 32, 113, 10] : List UInt8))) else (some false)))) = some r := h
 clear h
 replace H := Option.bind_eq_some_iff.mp H
 obtain ⟨⟨t184, t187, t190⟩, A10, H⟩ := H
 replace H : ((z1T.f k t184 t187 t190).bind fun bt193 => (if bt193.2 = 0 then (some (bt193.1.toList == ([112, 10, 32, 32, 113, 10] : List UInt8))) else (some false))) = some r := H
 have A1 := z0a.mk A10
 clear A10
 replace H := Option.bind_eq_some_iff.mp H
 obtain ⟨⟨t193, t194⟩, A20, H⟩ := H
 replace H : (if t194 = 0 then (some (t193.toList == ([112, 10, 32, 32, 113, 10] : List UInt8))) else (some false)) = some r := H
 have A2 := z0a.mk A20
 clear A20
 by_cases c3 : t194 = 0
 ·rw [if_pos c3] at H
  have c3b0 : (t194 == 0) = true := beq_iff_eq.mpr c3
  have c3b1 : (t194 != 0) = false := bne_eq_false_iff_eq.mpr c3
  clear c3
  obtain rfl := Option.some.inj H
  go_enter Tryz.func10, Tryz.ntmps10
  go_wp2_with (first | ((with_reducible refine z0m (f := 51) rfl ?_); refine z1a (some 4) rfl rfl Tryz.func51 (by kernel_rfl) rfl #[] rfl zq ?_; (with_reducible refine (z2D.calls  t184 t187 t190 _ A1.out).mono ?_); rintro e w4 ⟨v185, v188, v191, rfl, ho0, ho1, ho2, hb⟩; refine ⟨_, rfl, ?_⟩; have HO186 := z0a.mk (Kd.z2n ho0 (z1x zb)); have HO189 := z0a.mk (Kd.z2n ho1 (z1x zb)); have HO192 := z0a.mk (Kd.z2n ho2 (z1x zb)); replace HB := zB HB hb; (try clear hb); (try clear ho0); (try clear ho1); (try clear ho2); obtain ⟨Ao5, co5, eo5⟩ := Kd.z2q HO186.out; subst eo5; obtain ⟨Ao6, co6, eo6⟩ := Kd.z2q HO189.out; subst eo6; obtain ⟨Ao7, co7, eo7⟩ := Kd.z2q HO192.out; subst eo7) | ((with_reducible refine z0m (f := 20) rfl ?_); refine z1a (some 5) rfl rfl Tryz.func20 (by kernel_rfl) rfl #[.agg #[.slice Ao5 t184.length co5, .slice Ao6 t187.length co6, .slice Ao7 t190.length co7]] rfl zq ?_; (with_reducible refine (z1T.calls k _ _ t184 _ _ t187 _ _ t190 t193 t194 _ ?z0M ?z4Y ?z0Q ?z6g ?z1z ?z6O A2.out).mono ?_); (case z0M => repeat (first | exact (Kd.z1K HO186.out).2.2 | (with_reducible refine Kd.z3F ?_ _) | (with_reducible refine Kd.z3G ?_ _) | (with_reducible refine Kd.z3x ?_))); (case z4Y => exact (Kd.z1K HO186.out).2.1); (case z0Q => repeat (first | exact (Kd.z1K HO189.out).2.2 | (with_reducible refine Kd.z3F ?_ _) | (with_reducible refine Kd.z3G ?_ _) | (with_reducible refine Kd.z3x ?_))); (case z6g => exact (Kd.z1K HO189.out).2.1); (case z1z => repeat (first | exact (Kd.z1K HO192.out).2.2 | (with_reducible refine Kd.z3F ?_ _) | (with_reducible refine Kd.z3G ?_ _) | (with_reducible refine Kd.z3x ?_))); (case z6O => exact (Kd.z1K HO192.out).2.1); rintro e w8 ⟨rfl, hb⟩; refine ⟨_, rfl, ?_⟩; replace HO186 := z0a.mk (Kd.z2f (by (with_reducible repeat (first | apply Kd.z0Z | apply Kd.z0Y | apply Kd.z1n)); exact HO186.out) hb); replace HO189 := z0a.mk (Kd.z2f (by (with_reducible repeat (first | apply Kd.z0Z | apply Kd.z0Y | apply Kd.z1n)); exact HO189.out) hb); replace HO192 := z0a.mk (Kd.z2f (by (with_reducible repeat (first | apply Kd.z0Z | apply Kd.z0Y | apply Kd.z1n)); exact HO192.out) hb); replace HB := zB HB hb; (try clear hb)))
  go_ret
  exact ⟨zr, zb⟩
 rw [if_neg c3] at H
 have c3b0 : (t194 == 0) = false := beq_eq_false_iff_ne.mpr c3
 have c3b1 : (t194 != 0) = true := bne_iff_ne.mpr c3
 obtain rfl := Option.some.inj H
 go_enter Tryz.func10, Tryz.ntmps10
 go_wp2_with (first | ((with_reducible refine z0m (f := 51) rfl ?_); refine z1a (some 4) rfl rfl Tryz.func51 (by kernel_rfl) rfl #[] rfl zq ?_; (with_reducible refine (z2D.calls  t184 t187 t190 _ A1.out).mono ?_); rintro e w9 ⟨v185, v188, v191, rfl, ho0, ho1, ho2, hb⟩; refine ⟨_, rfl, ?_⟩; have HO186 := z0a.mk (Kd.z2n ho0 (z1x zb)); have HO189 := z0a.mk (Kd.z2n ho1 (z1x zb)); have HO192 := z0a.mk (Kd.z2n ho2 (z1x zb)); replace HB := zB HB hb; (try clear hb); (try clear ho0); (try clear ho1); (try clear ho2); obtain ⟨Ao10, co10, eo10⟩ := Kd.z2q HO186.out; subst eo10; obtain ⟨Ao11, co11, eo11⟩ := Kd.z2q HO189.out; subst eo11; obtain ⟨Ao12, co12, eo12⟩ := Kd.z2q HO192.out; subst eo12) | ((with_reducible refine z0m (f := 20) rfl ?_); refine z1a (some 5) rfl rfl Tryz.func20 (by kernel_rfl) rfl #[.agg #[.slice Ao10 t184.length co10, .slice Ao11 t187.length co11, .slice Ao12 t190.length co12]] rfl zq ?_; (with_reducible refine (z1T.calls k _ _ t184 _ _ t187 _ _ t190 t193 t194 _ ?z0M ?z4Y ?z0Q ?z6g ?z1z ?z6O A2.out).mono ?_); (case z0M => repeat (first | exact (Kd.z1K HO186.out).2.2 | (with_reducible refine Kd.z3F ?_ _) | (with_reducible refine Kd.z3G ?_ _) | (with_reducible refine Kd.z3x ?_))); (case z4Y => exact (Kd.z1K HO186.out).2.1); (case z0Q => repeat (first | exact (Kd.z1K HO189.out).2.2 | (with_reducible refine Kd.z3F ?_ _) | (with_reducible refine Kd.z3G ?_ _) | (with_reducible refine Kd.z3x ?_))); (case z6g => exact (Kd.z1K HO189.out).2.1); (case z1z => repeat (first | exact (Kd.z1K HO192.out).2.2 | (with_reducible refine Kd.z3F ?_ _) | (with_reducible refine Kd.z3G ?_ _) | (with_reducible refine Kd.z3x ?_))); (case z6O => exact (Kd.z1K HO192.out).2.1); rintro e w13 ⟨rfl, hb⟩; refine ⟨_, rfl, ?_⟩; replace HO186 := z0a.mk (Kd.z2f (by (with_reducible repeat (first | apply Kd.z0Z | apply Kd.z0Y | apply Kd.z1n)); exact HO186.out) hb); replace HO189 := z0a.mk (Kd.z2f (by (with_reducible repeat (first | apply Kd.z0Z | apply Kd.z0Y | apply Kd.z1n)); exact HO189.out) hb); replace HO192 := z0a.mk (Kd.z2f (by (with_reducible repeat (first | apply Kd.z0Z | apply Kd.z0Y | apply Kd.z1n)); exact HO192.out) hb); replace HB := zB HB hb; (try clear hb)))
 go_ret
 exact ⟨zr, zb⟩
mutual
def z0u.l0 : Nat → Int → Int → List ByteArray → List (z1J) → List (S81) → Option (Bool)
 | 0, _, _, _, _, _ => none
 | k + 1, x3, x4, y2X, y2Y, z6P => if x4 < (z6P.length : Int) then (z0u.j1 k x3 x4 (decide (x4 < 40)) y2X y2Y z6P) else (z0u.j1 k x3 x4 false y2X y2Y z6P)
def z0u.j1 : Nat → Int → Int → Bool → List ByteArray → List (z1J) → List (S81) → Option (Bool)
 | 0, _, _, _, _, _, _ => none
 | k + 1, x3, x4, x13, y2X, y2Y, z6P => if x13 = true then (if 0 ≤ x4 then (if x4 < (z6P.length : Int) then (if (((z0s z6P x4).f2).length : Int) ≤ 64 then (z0u.l0 k (wrap64 (x3 + (((z0s z6P x4).f2).length : Int))) (wrap64 (x4 + 1)) y2X y2Y z6P) else (z0u.l0 k x3 (wrap64 (x4 + 1)) y2X y2Y z6P)) else (none)) else (none)) else (some (decide (x3 > 60)))
end
def z0u.f (k : Nat) (l0_0 : List ByteArray) (l0_1 : List (z1J)) (l0_2 : List (S81)) : Option (Bool) := z0u.l0 k 0 0 l0_0 l0_1 l0_2
theorem z0u.z1t : ∀ k, (∀ y0 y1 y2 y3 y4, LeO (z0u.l0 k y0 y1 y2 y3 y4) (z0u.l0 (k + 1) y0 y1 y2 y3 y4)) ∧ (∀ y0 y1 y2 y3 y4 y5, LeO (z0u.j1 k y0 y1 y2 y3 y4 y5) (z0u.j1 (k + 1) y0 y1 y2 y3 y4 y5))
 | 0 => ⟨fun _ _ _ _ _ r h => by simp [z0u.l0] at h, fun _ _ _ _ _ _ r h => by simp [z0u.j1] at h⟩
 | k + 1 => by
  obtain ⟨ih0, ih1⟩ := z0u.z1t k
  refine ⟨?_, ?_⟩
  ·intro y0 y1 y2 y3 y4
   unfold z0u.l0
   repeat' first
   | (with_reducible exact ih0 _ _ _ _ _)
   | (with_reducible exact ih1 _ _ _ _ _ _)
   | (with_reducible exact LeO.refl _)
   | (with_reducible exact LeO.none _)
   | (with_reducible refine LeO.ite ?_ ?_)
   | (with_reducible refine LeO.bind ?_ (fun _ => ?_))
  ·intro y0 y1 y2 y3 y4 y5
   unfold z0u.j1
   repeat' first
   | (with_reducible exact ih0 _ _ _ _ _)
   | (with_reducible exact ih1 _ _ _ _ _ _)
   | (with_reducible exact LeO.refl _)
   | (with_reducible exact LeO.none _)
   | (with_reducible refine LeO.ite ?_ ?_)
   | (with_reducible refine LeO.bind ?_ (fun _ => ?_))
theorem z0u.mono : ∀ a0 a1 a2 k, LeO (z0u.f k a0 a1 a2) (z0u.f (k + 1) a0 a1 a2) := by
 intro a0 a1 a2 k
 obtain ⟨ih0, ih1⟩ := z0u.z1t k
 unfold z0u.f
 repeat' first
   | (with_reducible exact ih0 _ _ _ _ _)
   | (with_reducible exact ih1 _ _ _ _ _ _)
   | (with_reducible exact LeO.refl _)
   | (with_reducible exact LeO.none _)
   | (with_reducible refine LeO.ite ?_ ?_)
   | (with_reducible refine LeO.bind ?_ (fun _ => ?_))
set_option maxHeartbeats 8000000 in
set_option maxRecDepth 100000 in
theorem z0u.calls (k : Nat) (z0U : Option Addr) (c0_0 : Nat) (l0_0 : List ByteArray) (z0X : Option Addr) (c0_1 : Nat) (l0_1 : List (z1J)) (z2c : Option Addr) (c0_2 : Nat) (l0_2 : List (S81)) (r : Bool) (w : World) (hr0_0 : Kd.C Kd.string w z0U l0_0.length l0_0) (hc0_0 : l0_0.length ≤ c0_0) (hr0_1 : Kd.C z5a w z0X l0_1.length l0_1) (hc0_1 : l0_1.length ≤ c0_1) (hr0_2 : Kd.C k81 w z2c l0_2.length l0_2) (hc0_2 : l0_2.length ≤ c0_2) (h : z0u.f k l0_0 l0_1 l0_2 = some r) :
  Calls Tryz.prog 11 #[.agg #[.slice z0U l0_0.length c0_0, .slice z0X l0_1.length c0_1, .slice z2c l0_2.length c0_2]] w fun e w' => e = .returned (.bool r) ∧ Below w.heap.size w w' := by
 have hu28 := Tryz.underlying28
 have z2g := z0a.mk hr0_0
 have z1g := z0a.mk hc0_0
 clear hr0_0 hc0_0
 have z2x := z0a.mk hr0_1
 have z1j := z0a.mk hc0_1
 clear hr0_1 hc0_1
 have z3X := z0a.mk hr0_2
 have z2T := z0a.mk hc0_2
 clear hr0_2 hc0_2
 have HB := z0a.mk (Below.refl w.heap.size w)
 have H : (z0u.l0 k 0 0 l0_0 l0_1 l0_2) = some r := h
 clear h
 have H' := z0a.mk H
 clear H
 go_enter Tryz.func11, Tryz.ntmps11
 go_wp2_with (first | ((with_reducible refine z0o (N := 1) rfl ?_); refine zo (cs := #[.slice z0U l0_0.length c0_0, .slice z0X l0_1.length c0_1, .slice z2c l0_2.length c0_2]) (t := 28) ?_; intro w2T hg w2 hbox hb; have x1g := z0a.mk hbox; have GW195 := zG HB hg; have GE195 := zG HB hg; replace HB := zB HB hb; clear hb hbox hg))
 go_loopg [3, 4] k (fun kq v3 v4 w' => ∃ (x3_1 : Int) (x4_1 : Int), v3 = .int .i64 x3_1 ∧ v4 = .int .i64 x4_1 ∧ z0a (z0u.l0 kq x3_1 x4_1 l0_0 l0_1 l0_2 = some r) ∧ z0a (kq ≤ k) ∧ z0a (w'.heap[w2T]? = some (.cells #[(.slice z0U l0_0.length c0_0), (.slice z0X l0_1.length c0_1), (.slice z2c l0_2.length c0_2)] 28 (0, 0))) ∧ z0a (Below w.heap.size w w'))
 case atStart => exact ⟨(0), (0), ze, ze, H', ⟨Nat.le_refl _⟩, ⟨zk⟩, ⟨zb⟩⟩
 case round =>
  clear H'
  obtain ⟨x3_1, x4_1, rfl, rfl, HA, HK1, x1g, HB⟩ := hrel
  cases gk with
  | zero => exact absurd HA.out (by simp [z0u.l0])
  | succ k1 =>
   have H := HA.out
   clear HA
   simp only [z0u.l0] at H
   have HC3 := z0a.mk H
   clear H
   go_upto_region 3 with (fail)
   go_cut [13] (fun v13 wc => ∃ (kq : Nat) (x13_2 : Bool), v13 = .bool x13_2 ∧ z0a (z0u.j1 kq x3_1 x4_1 x13_2 l0_0 l0_1 l0_2 = some r) ∧ z0a (kq ≤ k1) ∧ z0a (wc.heap[w2T]? = some (.cells #[(.slice z0U l0_0.length c0_0), (.slice z0X l0_1.length c0_1), (.slice z2c l0_2.length c0_2)] 28 (0, 0))) ∧ z0a (Below w.heap.size w wc))
   case first =>
    have H := HC3.out
    clear HC3
    by_cases c4 : x4_1 < (l0_2.length : Int)
    rotate_left
    ·rw [if_neg c4] at H
     have c4b0 : decide (x4_1 < (l0_2.length : Int)) = false := decide_eq_false c4
     clear c4
     (first | rw [c4b0] | (simp only [z0V, z0W]; rw [c4b0]) | skip)
     have H' := z0a.mk H
     clear H
     obtain ⟨z8a, z8b, y0c, z8c, z8d, y0d⟩ := zc3 wr x1g.out
     go_wp2
     go_meet
     case rel => exact ⟨_, (false), ze, H', ⟨by have := HK1.out; first | omega | exact Nat.le_refl _⟩, ⟨zk⟩, ⟨zb⟩⟩
    rw [if_pos c4] at H
    have c4b0 : decide (x4_1 < (l0_2.length : Int)) = true := decide_eq_true c4
    clear c4
    (first | rw [c4b0] | (simp only [z0V, z0W]; rw [c4b0]) | skip)
    have H' := z0a.mk H
    clear H
    obtain ⟨y6Z, y7a, x4x, y7b, y7c, x4y⟩ := zc3 wr x1g.out
    go_wp2
    go_meet
    case rel => exact ⟨_, (decide (x4_1 < 40)), ze, H', ⟨by have := HK1.out; first | omega | exact Nat.le_refl _⟩, ⟨zk⟩, ⟨zb⟩⟩
   case rest =>
    clear HC3
    obtain ⟨kq, x13_2, rfl, HA, HJ2, x1g, HB⟩ := hcut
    cases kq with
    | zero => exact absurd HA.out (by simp [z0u.j1])
    | succ kj2 =>
     have H := HA.out
     clear HA
     simp only [z0u.j1] at H
     by_cases c7 : x13_2 = true
     rotate_left
     ·replace c7 := Bool.eq_false_iff.mpr c7
      subst c7
      have H1 : (some (decide (x3_1 > 60))) = some r := by rw [if_neg (show ¬ (false = true) by decide)] at H; exact H
      clear H
      have H := H1
      clear H1
      obtain rfl := Option.some.inj H
      go_wp2
      go_ret
      exact ⟨zr, zb⟩
     subst c7
     have H1 : (if 0 ≤ x4_1 then (if x4_1 < (l0_2.length : Int) then (if (((z0s l0_2 x4_1).f2).length : Int) ≤ 64 then (z0u.l0 kj2 (wrap64 (x3_1 + (((z0s l0_2 x4_1).f2).length : Int))) (wrap64 (x4_1 + 1)) l0_0 l0_1 l0_2) else (z0u.l0 kj2 x3_1 (wrap64 (x4_1 + 1)) l0_0 l0_1 l0_2)) else (none)) else (none)) = some r := by rw [if_pos rfl] at H; exact H
     clear H
     have H := H1
     clear H1
     by_cases c8 : 0 ≤ x4_1
     rotate_left
     ·rw [if_neg c8] at H
      exact absurd H (by simp)
     rw [if_pos c8] at H
     have c8b0 : decide (0 ≤ x4_1) = true := decide_eq_true c8
     clear c8
     by_cases c9 : x4_1 < (l0_2.length : Int)
     rotate_left
     ·rw [if_neg c9] at H
      exact absurd H (by simp)
     rw [if_pos c9] at H
     have c9b0 : decide (x4_1 < (l0_2.length : Int)) = true := decide_eq_true c9
     clear c9
     by_cases c10 : (((z0s l0_2 x4_1).f2).length : Int) ≤ 64
     rotate_left
     ·rw [if_neg c10] at H
      have c10b0 : decide ((((z0s l0_2 x4_1).f2).length : Int) ≤ 64) = false := decide_eq_false c10
      have c10b1 : decide (((z0s l0_2 x4_1).f2).length ≤ 64) = false := decide_eq_false (by omega)
      clear c10
      have H' := z0a.mk H
      clear H
      obtain ⟨z8o, y0D, y5Z, z8p, y0E, y6a⟩ := zc3 wc x1g.out
      have p196 : 0 ≤ (x4_1 : Int) := za
      have q196 : x4_1 < (l0_2.length : Int) := za
      obtain ⟨ad196, w2U, c196_2, e196, y2Z, y3a, y0F, y3b, y3c⟩ := z3e z3X.out x4_1 p196 q196
      cases e196
      replace y2Z := zx HB y2Z
      replace y3a := zx HB y3a
      replace y0F := zx HB y0F
      have w0A := z0a.mk y3c
      have w0B := z0a.mk y3b
      clear y3c y3b
      replace p196 := eq_true p196
      replace q196 := eq_true q196
      go_wp2
      go_roundg kj2
      case measure => have := HK1.out; have := HJ2.out; omega
      case rel => exact ⟨(x3_1), (wrap64 (x4_1 + 1)), ze, ze, H', ⟨by have := HK1.out; have := HJ2.out; omega⟩, ⟨zk⟩, ⟨zb⟩⟩
     rw [if_pos c10] at H
     have c10b0 : decide ((((z0s l0_2 x4_1).f2).length : Int) ≤ 64) = true := decide_eq_true c10
     have c10b1 : decide (((z0s l0_2 x4_1).f2).length ≤ 64) = true := decide_eq_true (by omega)
     clear c10
     have H' := z0a.mk H
     clear H
     obtain ⟨z3M, z6J, z6K, z3N, z6L, z6M⟩ := zc3 wc x1g.out
     have p196 : 0 ≤ (x4_1 : Int) := za
     have q196 : x4_1 < (l0_2.length : Int) := za
     obtain ⟨ad196, w2U, c196_2, e196, y2Z, y3a, y0F, y3b, y3c⟩ := z3e z3X.out x4_1 p196 q196
     cases e196
     replace y2Z := zx HB y2Z
     replace y3a := zx HB y3a
     replace y0F := zx HB y0F
     have w0A := z0a.mk y3c
     have w0B := z0a.mk y3b
     clear y3c y3b
     replace p196 := eq_true p196
     replace q196 := eq_true q196
     have p197 : 0 ≤ (x4_1 : Int) := za
     have q197 : x4_1 < (l0_2.length : Int) := za
     obtain ⟨ad197, A197_2, c197_2, e197, x4z, x4A, y9j, x4B, x4C⟩ := z3e z3X.out x4_1 p197 q197
     obtain rfl : ad196 = ad197 := (by injection e197)
     replace x4z := zx HB x4z
     replace x4A := zx HB x4A
     replace y9j := zx HB y9j
     have HR197_2 := z0a.mk x4C
     have HC197_2 := z0a.mk x4B
     clear x4C x4B
     replace p197 := eq_true p197
     replace q197 := eq_true q197
     have ea_ := Option.some.inj (y0F.symm.trans y9j)
     injection ea_ with ea_ en_ ec_
     subst ea_
     subst ec_
     clear en_
     go_wp2
     go_roundg kj2
     case measure => have := HK1.out; have := HJ2.out; omega
     case rel => exact ⟨(wrap64 (x3_1 + (((z0s l0_2 x4_1).f2).length : Int))), (wrap64 (x4_1 + 1)), ze, ze, H', ⟨by have := HK1.out; have := HJ2.out; omega⟩, ⟨zk⟩, ⟨zb⟩⟩
def z2V.f (k : Nat) (l0_0 : List ByteArray) (l0_1 : List (z1J)) (l0_2 : List (S81)) (a1 : Int) : Option (List Int × Int) := (z0L.f k l0_0 l0_1 l0_2 (([a1] : List Int))).bind fun t212 => (if t212 = 0 then ((z1f.f k l0_0 l0_1 l0_2 a1).bind fun t213 => (some (t213, 0))) else (some (([] : List Int), t212)))
theorem z2V.mono : ∀ a0 a1 a2 a3 k, LeO (z2V.f k a0 a1 a2 a3) (z2V.f (k + 1) a0 a1 a2 a3) := by
 intro a0 a1 a2 a3 k
 unfold z2V.f
 repeat' first
   | (with_reducible exact z0L.mono _ _ _ _ _)
   | (with_reducible exact z1f.mono _ _ _ _ _)
   | (with_reducible exact LeO.refl _)
   | (with_reducible exact LeO.none _)
   | (with_reducible refine LeO.ite ?_ ?_)
   | (with_reducible refine LeO.bind ?_ (fun _ => ?_))
set_option maxHeartbeats 8000000 in
set_option maxRecDepth 100000 in
theorem z2V.calls (k : Nat) (z0U : Option Addr) (c0_0 : Nat) (l0_0 : List ByteArray) (z0X : Option Addr) (c0_1 : Nat) (l0_1 : List (z1J)) (z2c : Option Addr) (c0_2 : Nat) (l0_2 : List (S81)) (a1 : Int) (r1 : List Int) (r2 : Int) (w : World) (hr0_0 : Kd.C Kd.string w z0U l0_0.length l0_0) (hc0_0 : l0_0.length ≤ c0_0) (hr0_1 : Kd.C z5a w z0X l0_1.length l0_1) (hc0_1 : l0_1.length ≤ c0_1) (hr0_2 : Kd.C k81 w z2c l0_2.length l0_2) (hc0_2 : l0_2.length ≤ c0_2) (h : z2V.f k l0_0 l0_1 l0_2 a1 = some (r1, r2)) :
  Calls Tryz.prog 12 #[.agg #[.slice z0U l0_0.length c0_0, .slice z0X l0_1.length c0_1, .slice z2c l0_2.length c0_2], .int .i64 a1] w fun e w' => ∃ v0_ : Value, e = .returned (.tuple #[v0_, .int .i64 r2]) ∧ Kd.R (Kd.int .i64) 3 w' w.heap.size (fun _ => True) v0_ r1 ∧ Below w.heap.size w w' := by
 have hu28 := Tryz.underlying28
 have z2g := z0a.mk hr0_0
 have z1g := z0a.mk hc0_0
 clear hr0_0 hc0_0
 have z2x := z0a.mk hr0_1
 have z1j := z0a.mk hc0_1
 clear hr0_1 hc0_1
 have z3X := z0a.mk hr0_2
 have z2T := z0a.mk hc0_2
 clear hr0_2 hc0_2
 have HB := z0a.mk (Below.refl w.heap.size w)
 have H : ((z0L.f k l0_0 l0_1 l0_2 (([a1] : List Int))).bind fun t212 => (if t212 = 0 then ((z1f.f k l0_0 l0_1 l0_2 a1).bind fun t213 => (some (t213, 0))) else (some (([] : List Int), t212)))) = some (r1, r2) := h
 clear h
 obtain ⟨y209, hy209⟩ : ∃ y_ : List Int, y_ = (([a1] : List Int)) := ⟨_, rfl⟩
 replace H : ((z0L.f k l0_0 l0_1 l0_2 y209).bind fun t212 => (if t212 = 0 then ((z1f.f k l0_0 l0_1 l0_2 a1).bind fun t213 => (some (t213, 0))) else (some (([] : List Int), t212)))) = some (r1, r2) := by first | (rw [hy209]; with_reducible exact H) | (have H2_ := (Option.bind_some _ _).symm.trans H; rw [hy209]; with_reducible exact H2_) | (have H2_ := (Option.bind_some _ _).symm.trans H; with_reducible exact H2_) | with_reducible exact H | (rw [hy209]; exact H) | exact H
 have Ny209 := z0a.mk hy209
 clear hy209
 replace H := Option.bind_eq_some_iff.mp H
 obtain ⟨t212, A30, H⟩ := H
 replace H : (if t212 = 0 then ((z1f.f k l0_0 l0_1 l0_2 a1).bind fun t213 => (some (t213, 0))) else (some (([] : List Int), t212))) = some (r1, r2) := H
 have A3 := z0a.mk A30
 clear A30
 by_cases c4 : t212 = 0
 rotate_left
 ·rw [if_neg c4] at H
  have c4b0 : (t212 == 0) = false := beq_eq_false_iff_ne.mpr c4
  have c4b1 : (t212 != 0) = true := bne_iff_ne.mpr c4
  simp only [Option.some.injEq, Prod.mk.injEq] at H
  obtain ⟨rfl, rfl⟩ := H
  go_enter Tryz.func12, Tryz.ntmps12
  go_wp2_with (first | ((with_reducible refine z0o (N := 2) rfl ?_); refine zo (cs := #[.slice z0U l0_0.length c0_0, .slice z0X l0_1.length c0_1, .slice z2c l0_2.length c0_2]) (t := 28) ?_; intro gb208 hg w14 hbox hb; have y0g := z0a.mk hbox; have GW208 := zG HB hg; have w0C := zG HB hg; replace HB := zB HB hb; clear hb hbox hg; obtain ⟨y8s, y8t, y8u, y8v, y8w, y8x⟩ := zc3 w14 y0g.out) | ((with_reducible refine z0o (N := 9) rfl ?_); refine Kd.y6H (Kd.int .i64) _ 3 ?hg (N := 9) ?hd (xs := ([a1] : List Int)) (inner := [.int .i64 a1]) (ok := fun _ => True) (okp := fun _ => True) ?hr ?hp (fun _ hk => hk) trivial (Below.refl _ _) (Nat.le_refl _) (by simp) ?_; (case hd => rfl); (case hg => rfl); (case hr => first | (go_simp; done) | (go_simp; rfl)); (case hp => exact (Reps.one (show Kd.M (Kd.int .i64) _ _ _ a1 [.int .i64 a1] from rfl) (Reps.none _ _))); intro v210 w16 ho17 hb hg_ hnew_; clear hg_ hnew_; (first | rw [← Ny209.out] at ho17 | (simp only [Int.reduceToNat] at ho17; rw [← Ny209.out] at ho17)); have HO211 := z0a.mk (Kd.z2n ho17 (z1x zb)); replace y0g := zK y0g hb; replace HB := zB HB hb; clear hb ho17; obtain ⟨Ao18, co18, eo18⟩ := Kd.z2q HO211.out; subst eo18) | ((with_reducible refine z0m (f := 52) rfl ?_); refine z1a (some 10) rfl rfl Tryz.func52 (by kernel_rfl) rfl #[.agg #[.slice z0U l0_0.length c0_0, .slice z0X l0_1.length c0_1, .slice z2c l0_2.length c0_2], .slice Ao18 y209.length co18] rfl zq ?_; (with_reducible refine (z0L.calls k _ _ l0_0 _ _ l0_1 _ _ l0_2 _ _ y209 t212 _ ?z0M z1g.out ?z0Q z1j.out ?z1z z2T.out ?z6I ?y3d A3.out).mono ?_); (case z0M => exact zs); (case z0Q => exact zs); (case z1z => exact zs); (case z6I => repeat (first | exact (Kd.z1K HO211.out).2.2 | (with_reducible refine Kd.z3F ?_ _) | (with_reducible refine Kd.z3G ?_ _) | (with_reducible refine Kd.z3x ?_))); (case y3d => exact (Kd.z1K HO211.out).2.1); rintro e w19 ⟨rfl, hb⟩; refine ⟨_, rfl, ?_⟩; replace HO211 := z0a.mk (Kd.z2f (by (with_reducible repeat (first | apply Kd.z0Z | apply Kd.z0Y | apply Kd.z1n)); exact HO211.out) hb); replace y0g := zK y0g hb; replace HB := zB HB hb; (try clear hb)))
  go_ret2
  exact ⟨_, zr, by first | exact Kd.z5O _ _ _ _ _ | exact Kd.y6P _ _ _ _ _ | exact Kd.y6T _ _ _ _ _ | exact Kd.y6I _ _ _ _ _ | exact Kd.y6O _ _ _ _ _, by repeat (first | (with_reducible first | exact HB.out | apply z1w | apply z1d | apply z1l | refine z1X ?_ w0C.out) | exact HB.out)⟩
 rw [if_pos c4] at H
 have c4b0 : (t212 == 0) = true := beq_iff_eq.mpr c4
 have c4b1 : (t212 != 0) = false := bne_eq_false_iff_eq.mpr c4
 clear c4
 replace H := Option.bind_eq_some_iff.mp H
 obtain ⟨t213, A50, H⟩ := H
 replace H : (some (t213, 0)) = some (r1, r2) := H
 have A5 := z0a.mk A50
 clear A50
 simp only [Option.some.injEq, Prod.mk.injEq] at H
 obtain ⟨rfl, rfl⟩ := H
 go_enter Tryz.func12, Tryz.ntmps12
 go_wp2_with (first | ((with_reducible refine z0o (N := 2) rfl ?_); refine zo (cs := #[.slice z0U l0_0.length c0_0, .slice z0X l0_1.length c0_1, .slice z2c l0_2.length c0_2]) (t := 28) ?_; intro gb208 hg w6 hbox hb; have y0g := z0a.mk hbox; have GW208 := zG HB hg; have w0C := zG HB hg; replace HB := zB HB hb; clear hb hbox hg; obtain ⟨z4b, z4c, z5U, z4d, z4e, z5V⟩ := zc3 w6 y0g.out) | ((with_reducible refine z0o (N := 9) rfl ?_); refine Kd.y6H (Kd.int .i64) _ 3 ?hg (N := 9) ?hd (xs := ([a1] : List Int)) (inner := [.int .i64 a1]) (ok := fun _ => True) (okp := fun _ => True) ?hr ?hp (fun _ hk => hk) trivial (Below.refl _ _) (Nat.le_refl _) (by simp) ?_; (case hd => rfl); (case hg => rfl); (case hr => first | (go_simp; done) | (go_simp; rfl)); (case hp => exact (Reps.one (show Kd.M (Kd.int .i64) _ _ _ a1 [.int .i64 a1] from rfl) (Reps.none _ _))); intro v210 w8 ho9 hb hg_ hnew_; clear hg_ hnew_; (first | rw [← Ny209.out] at ho9 | (simp only [Int.reduceToNat] at ho9; rw [← Ny209.out] at ho9)); have HO211 := z0a.mk (Kd.z2n ho9 (z1x zb)); replace y0g := zK y0g hb; replace HB := zB HB hb; clear hb ho9; obtain ⟨Ao10, co10, eo10⟩ := Kd.z2q HO211.out; subst eo10) | ((with_reducible refine z0m (f := 52) rfl ?_); refine z1a (some 10) rfl rfl Tryz.func52 (by kernel_rfl) rfl #[.agg #[.slice z0U l0_0.length c0_0, .slice z0X l0_1.length c0_1, .slice z2c l0_2.length c0_2], .slice Ao10 y209.length co10] rfl zq ?_; (with_reducible refine (z0L.calls k _ _ l0_0 _ _ l0_1 _ _ l0_2 _ _ y209 t212 _ ?z0M z1g.out ?z0Q z1j.out ?z1z z2T.out ?z6I ?y3d A3.out).mono ?_); (case z0M => exact zs); (case z0Q => exact zs); (case z1z => exact zs); (case z6I => repeat (first | exact (Kd.z1K HO211.out).2.2 | (with_reducible refine Kd.z3F ?_ _) | (with_reducible refine Kd.z3G ?_ _) | (with_reducible refine Kd.z3x ?_))); (case y3d => exact (Kd.z1K HO211.out).2.1); rintro e w11 ⟨rfl, hb⟩; refine ⟨_, rfl, ?_⟩; replace HO211 := z0a.mk (Kd.z2f (by (with_reducible repeat (first | apply Kd.z0Z | apply Kd.z0Y | apply Kd.z1n)); exact HO211.out) hb); replace y0g := zK y0g hb; replace HB := zB HB hb; (try clear hb); obtain ⟨z8o, y0D, y5Z, z8p, y0E, y6a⟩ := zc3 w11 y0g.out) | ((with_reducible refine z0m (f := 53) rfl ?_); refine z1a (some 16) rfl rfl Tryz.func53 (by kernel_rfl) rfl #[.agg #[.slice z0U l0_0.length c0_0, .slice z0X l0_1.length c0_1, .slice z2c l0_2.length c0_2], .int .i64 a1] rfl zq ?_; (with_reducible refine (z1f.calls k _ _ l0_0 _ _ l0_1 _ _ l0_2 a1 t213 _ ?z0M z1g.out ?z0Q z1j.out ?z1z z2T.out A5.out).mono ?_); (case z0M => exact zs); (case z0Q => exact zs); (case z1z => exact zs); rintro e w13 ⟨v214, rfl, ho0, hb⟩; refine ⟨_, rfl, ?_⟩; have HO215 := z0a.mk (Kd.z2n (Kd.x0p ho0 (Kd.w2j (by (with_reducible repeat (first | apply Kd.z0Z | apply Kd.z0Y | apply Kd.z1n)); exact HO211.out))) (z1x zb)); replace HO211 := z0a.mk (Kd.y1r (by (with_reducible repeat (first | apply Kd.z0Z | apply Kd.z0Y | apply Kd.z1n)); exact HO211.out) (Kd.y6G ho0) hb); replace y0g := zK y0g hb; replace HB := zB HB hb; (try clear hb); (try clear ho0)))
 go_ret2
 exact ⟨_, zr, by (with_reducible repeat (first | apply Kd.z0Z | apply Kd.z0Y | apply Kd.z1n)); exact Kd.z3D HO215.out (fun _ hk => trivial), by repeat (first | (with_reducible first | exact HB.out | apply z1w | apply z1d | apply z1l | refine z1X ?_ w0C.out) | exact HB.out)⟩
mutual
def z0v.j0 : Nat → ByteArray → Bool → Option (Bool)
 | 0, _, _ => none
 | k + 1, x0, x11 => if x11 = true then (some false) else (z0v.l0 k x0 0)
def z0v.l0 : Nat → ByteArray → Int → Option (Bool)
 | 0, _, _ => none
 | k + 1, x0, x3 => if x3 < (x0.size : Int) then (if 0 ≤ x3 then (if (bt x0 x3) < 97 then (some false) else (if (bt x0 x3) > 122 then (some false) else (z0v.l0 k x0 (wrap64 (x3 + 1))))) else (none)) else (some true)
end
def z0v.f (k : Nat) (a0 : ByteArray) : Option (Bool) := if (a0.size : Int) < 1 then (z0v.j0 k a0 true) else (z0v.j0 k a0 (decide ((a0.size : Int) > 32)))
theorem z0v.z1t : ∀ k, (∀ y0 y1, LeO (z0v.j0 k y0 y1) (z0v.j0 (k + 1) y0 y1)) ∧ (∀ y0 y1, LeO (z0v.l0 k y0 y1) (z0v.l0 (k + 1) y0 y1))
 | 0 => ⟨fun _ _ r h => by simp [z0v.j0] at h, fun _ _ r h => by simp [z0v.l0] at h⟩
 | k + 1 => by
  obtain ⟨ih0, ih1⟩ := z0v.z1t k
  refine ⟨?_, ?_⟩
  ·intro y0 y1
   unfold z0v.j0
   repeat' first
   | (with_reducible exact ih0 _ _)
   | (with_reducible exact ih1 _ _)
   | (with_reducible exact LeO.refl _)
   | (with_reducible exact LeO.none _)
   | (with_reducible refine LeO.ite ?_ ?_)
   | (with_reducible refine LeO.bind ?_ (fun _ => ?_))
  ·intro y0 y1
   unfold z0v.l0
   repeat' first
   | (with_reducible exact ih0 _ _)
   | (with_reducible exact ih1 _ _)
   | (with_reducible exact LeO.refl _)
   | (with_reducible exact LeO.none _)
   | (with_reducible refine LeO.ite ?_ ?_)
   | (with_reducible refine LeO.bind ?_ (fun _ => ?_))
theorem z0v.mono : ∀ a0 k, LeO (z0v.f k a0) (z0v.f (k + 1) a0) := by
 intro a0 k
 obtain ⟨ih0, ih1⟩ := z0v.z1t k
 unfold z0v.f
 repeat' first
   | (with_reducible exact ih0 _ _)
   | (with_reducible exact ih1 _ _)
   | (with_reducible exact LeO.refl _)
   | (with_reducible exact LeO.none _)
   | (with_reducible refine LeO.ite ?_ ?_)
   | (with_reducible refine LeO.bind ?_ (fun _ => ?_))
set_option maxHeartbeats 8000000 in
set_option maxRecDepth 100000 in
theorem z0v.calls (k : Nat) (a0 : ByteArray) (r : Bool) (w : World) (h : z0v.f k a0 = some r) :
  Calls Tryz.prog 115 #[.string a0] w fun e w' => e = .returned (.bool r) ∧ z1v w w' := by
 have H : (if (a0.size : Int) < 1 then (z0v.j0 k a0 true) else (z0v.j0 k a0 (decide ((a0.size : Int) > 32)))) = some r := h
 clear h
 have HC2 := z0a.mk H
 clear H
 go_enter Tryz.func115, Tryz.ntmps115
 go_upto_region 1 with (fail)
 go_cut [11] (fun v11 wc => ∃ (kq : Nat) (x11_1 : Bool), v11 = .bool x11_1 ∧ z0a (z0v.j0 kq a0 x11_1 = some r) ∧ z0a (kq ≤ k) ∧ z1v w wc)
 case first =>
  have H := HC2.out
  clear HC2
  by_cases c3 : (a0.size : Int) < 1
  ·rw [if_pos c3] at H
   have c3b0 : decide ((a0.size : Int) < 1) = true := decide_eq_true c3
   have c3b1 : decide (a0.size < 1) = true := decide_eq_true (by omega)
   clear c3
   (first | rw [c3b0] | (simp only [z0V, z0W]; rw [c3b0]) | skip)
   have H' := z0a.mk H
   clear H
   go_wp2
   go_meet
   case rel => exact ⟨_, (true), ze, H', ⟨zl⟩, by repeat (first | exact z1v.refl _ | apply z1v.step)⟩
  rw [if_neg c3] at H
  have c3b0 : decide ((a0.size : Int) < 1) = false := decide_eq_false c3
  have c3b1 : decide (a0.size < 1) = false := decide_eq_false (by omega)
  clear c3
  (first | rw [c3b0] | (simp only [z0V, z0W]; rw [c3b0]) | skip)
  have H' := z0a.mk H
  clear H
  go_wp2
  go_meet
  case rel => exact ⟨_, (decide ((a0.size : Int) > 32)), ze, H', ⟨zl⟩, by repeat (first | exact z1v.refl _ | apply z1v.step)⟩
 case rest =>
  clear HC2
  obtain ⟨kq, x11_1, rfl, HA, HJ1, ⟨mc1, rfl⟩⟩ := hcut
  cases kq with
  | zero => exact absurd HA.out (by simp [z0v.j0])
  | succ kj1 =>
   have H := HA.out
   clear HA
   simp only [z0v.j0] at H
   by_cases c4 : x11_1 = true
   ·subst c4
    have H1 : (some false) = some r := by rw [if_pos rfl] at H; exact H
    clear H
    have H := H1
    clear H1
    obtain rfl := Option.some.inj H
    go_wp2
    go_ret
    exact ⟨ze, zd⟩
   replace c4 := Bool.eq_false_iff.mpr c4
   subst c4
   have H1 : (z0v.l0 kj1 a0 0) = some r := by rw [if_neg (show ¬ (false = true) by decide)] at H; exact H
   clear H
   have H := H1
   clear H1
   have H' := z0a.mk H
   clear H
   go_wp2
   go_loopg [3] kj1 (fun kq v3 w' => ∃ (x3_2 : Int), v3 = .int .i64 x3_2 ∧ z0a (z0v.l0 kq a0 x3_2 = some r) ∧ z0a (kq ≤ kj1) ∧ z1v w w')
   case atStart => exact ⟨(0), ze, H', ⟨Nat.le_refl _⟩, by repeat (first | exact z1v.refl _ | apply z1v.step)⟩
   case round =>
    clear H'
    try clear c4
    obtain ⟨x3_2, rfl, HA, HK2, ⟨m2, rfl⟩⟩ := hrel
    cases gk with
    | zero => exact absurd HA.out (by simp [z0v.l0])
    | succ k2 =>
     have H := HA.out
     clear HA
     simp only [z0v.l0] at H
     by_cases c5 : x3_2 < (a0.size : Int)
     rotate_left
     ·rw [if_neg c5] at H
      have c5b0 : decide (x3_2 < (a0.size : Int)) = false := decide_eq_false c5
      clear c5
      obtain rfl := Option.some.inj H
      go_wp2
      go_ret
      exact ⟨ze, zd⟩
     rw [if_pos c5] at H
     have c5b0 : decide (x3_2 < (a0.size : Int)) = true := decide_eq_true c5
     clear c5
     by_cases c6 : 0 ≤ x3_2
     rotate_left
     ·rw [if_neg c6] at H
      exact absurd H (by simp)
     rw [if_pos c6] at H
     have c6b0 : decide (0 ≤ x3_2) = true := decide_eq_true c6
     clear c6
     by_cases c8 : (bt a0 x3_2) < 97
     ·rw [if_pos c8] at H
      have c8b0 : decide ((bt a0 x3_2) < 97) = true := decide_eq_true c8
      clear c8
      obtain rfl := Option.some.inj H
      have p7 : 0 ≤ (x3_2 : Int) := za
      have q7 : x3_2 < (a0.size : Int) := za
      have hx7 := z7T a0 x3_2
      replace p7 := eq_true p7
      replace q7 := eq_true q7
      go_wp2
      go_ret
      exact ⟨ze, zd⟩
     rw [if_neg c8] at H
     have c8b0 : decide ((bt a0 x3_2) < 97) = false := decide_eq_false c8
     clear c8
     by_cases c10 : (bt a0 x3_2) > 122
     ·rw [if_pos c10] at H
      have c10b0 : decide (122 < (bt a0 x3_2)) = true := decide_eq_true c10
      clear c10
      obtain rfl := Option.some.inj H
      have p7 : 0 ≤ (x3_2 : Int) := za
      have q7 : x3_2 < (a0.size : Int) := za
      have hx7 := z7T a0 x3_2
      replace p7 := eq_true p7
      replace q7 := eq_true q7
      have p9 : 0 ≤ (x3_2 : Int) := za
      have q9 : x3_2 < (a0.size : Int) := za
      have hx9 := z7T a0 x3_2
      replace p9 := eq_true p9
      replace q9 := eq_true q9
      go_wp2
      go_ret
      exact ⟨ze, zd⟩
     rw [if_neg c10] at H
     have c10b0 : decide (122 < (bt a0 x3_2)) = false := decide_eq_false c10
     clear c10
     have H' := z0a.mk H
     clear H
     have p7 : 0 ≤ (x3_2 : Int) := za
     have q7 : x3_2 < (a0.size : Int) := za
     have hx7 := z7T a0 x3_2
     replace p7 := eq_true p7
     replace q7 := eq_true q7
     have p9 : 0 ≤ (x3_2 : Int) := za
     have q9 : x3_2 < (a0.size : Int) := za
     have hx9 := z7T a0 x3_2
     replace p9 := eq_true p9
     replace q9 := eq_true q9
     go_wp2
     go_roundg k2
     case measure => have := HJ1.out; have := HK2.out; omega
     case rel => exact ⟨(wrap64 (x3_2 + 1)), ze, H', ⟨by have := HJ1.out; have := HK2.out; omega⟩, by repeat (first | exact z1v.refl _ | apply z1v.step)⟩
def z1P.f (a0 : Int) : Option (Bool) := if a0 ≥ 97 then (if a0 ≤ 122 then (some true) else (if a0 ≥ 65 then (if a0 ≤ 90 then (some true) else (if a0 ≥ 161 then (if a0 ≤ 1114111 then (if a0 = 65533 then (some false) else (if a0 < 55296 then (some true) else (some (decide (a0 > 57343))))) else (some false)) else (some false))) else (if a0 ≥ 161 then (if a0 ≤ 1114111 then (if a0 = 65533 then (some false) else (if a0 < 55296 then (some true) else (some (decide (a0 > 57343))))) else (some false)) else (some false)))) else (if a0 ≥ 65 then (if a0 ≤ 90 then (some true) else (if a0 ≥ 161 then (if a0 ≤ 1114111 then (if a0 = 65533 then (some false) else (if a0 < 55296 then (some true) else (some (decide (a0 > 57343))))) else (some false)) else (some false))) else (if a0 ≥ 161 then (if a0 ≤ 1114111 then (if a0 = 65533 then (some false) else (if a0 < 55296 then (some true) else (some (decide (a0 > 57343))))) else (some false)) else (some false)))
set_option maxHeartbeats 8000000 in
set_option maxRecDepth 100000 in
theorem z1P.calls (a0 : Int) (r : Bool) (w : World) (h : z1P.f a0 = some r) :
  Calls Tryz.prog 116 #[.int .i32 a0] w fun e w' => e = .returned (.bool r) ∧ z1v w w' := by
 have H : (if a0 ≥ 97 then (if a0 ≤ 122 then (some true) else (if a0 ≥ 65 then (if a0 ≤ 90 then (some true) else (if a0 ≥ 161 then (if a0 ≤ 1114111 then (if a0 = 65533 then (some false) else (if a0 < 55296 then (some true) else (some (decide (a0 > 57343))))) else (some false)) else (some false))) else (if a0 ≥ 161 then (if a0 ≤ 1114111 then (if a0 = 65533 then (some false) else (if a0 < 55296 then (some true) else (some (decide (a0 > 57343))))) else (some false)) else (some false)))) else (if a0 ≥ 65 then (if a0 ≤ 90 then (some true) else (if a0 ≥ 161 then (if a0 ≤ 1114111 then (if a0 = 65533 then (some false) else (if a0 < 55296 then (some true) else (some (decide (a0 > 57343))))) else (some false)) else (some false))) else (if a0 ≥ 161 then (if a0 ≤ 1114111 then (if a0 = 65533 then (some false) else (if a0 < 55296 then (some true) else (some (decide (a0 > 57343))))) else (some false)) else (some false)))) = some r := h
 clear h
 by_cases c2 : a0 ≥ 97
 rotate_left
 ·rw [if_neg c2] at H
  have c2b0 : decide (97 ≤ a0) = false := decide_eq_false c2
  clear c2
  by_cases c14 : a0 ≥ 65
  rotate_left
  ·rw [if_neg c14] at H
   have c14b0 : decide (65 ≤ a0) = false := decide_eq_false c14
   clear c14
   by_cases c20 : a0 ≥ 161
   rotate_left
   ·rw [if_neg c20] at H
    have c20b0 : decide (161 ≤ a0) = false := decide_eq_false c20
    clear c20
    obtain rfl := Option.some.inj H
    go_enter Tryz.func116, Tryz.ntmps116
    go_wp2
    go_ret
    exact ⟨ze, zd⟩
   rw [if_pos c20] at H
   have c20b0 : decide (161 ≤ a0) = true := decide_eq_true c20
   clear c20
   by_cases c21 : a0 ≤ 1114111
   rotate_left
   ·rw [if_neg c21] at H
    have c21b0 : decide (a0 ≤ 1114111) = false := decide_eq_false c21
    clear c21
    obtain rfl := Option.some.inj H
    go_enter Tryz.func116, Tryz.ntmps116
    go_wp2
    go_ret
    exact ⟨ze, zd⟩
   rw [if_pos c21] at H
   have c21b0 : decide (a0 ≤ 1114111) = true := decide_eq_true c21
   clear c21
   by_cases c22 : a0 = 65533
   ·rw [if_pos c22] at H
    have c22b0 : (a0 == 65533) = true := beq_iff_eq.mpr c22
    have c22b1 : (a0 != 65533) = false := bne_eq_false_iff_eq.mpr c22
    clear c22
    obtain rfl := Option.some.inj H
    go_enter Tryz.func116, Tryz.ntmps116
    go_wp2
    go_ret
    exact ⟨ze, zd⟩
   rw [if_neg c22] at H
   have c22b0 : (a0 == 65533) = false := beq_eq_false_iff_ne.mpr c22
   have c22b1 : (a0 != 65533) = true := bne_iff_ne.mpr c22
   by_cases c23 : a0 < 55296
   ·rw [if_pos c23] at H
    have c23b0 : decide (a0 < 55296) = true := decide_eq_true c23
    clear c23
    obtain rfl := Option.some.inj H
    go_enter Tryz.func116, Tryz.ntmps116
    go_wp2
    go_ret
    exact ⟨ze, zd⟩
   rw [if_neg c23] at H
   have c23b0 : decide (a0 < 55296) = false := decide_eq_false c23
   clear c23
   obtain rfl := Option.some.inj H
   go_enter Tryz.func116, Tryz.ntmps116
   go_wp2
   go_ret
   exact ⟨ze, zd⟩
  rw [if_pos c14] at H
  have c14b0 : decide (65 ≤ a0) = true := decide_eq_true c14
  clear c14
  by_cases c15 : a0 ≤ 90
  ·rw [if_pos c15] at H
   have c15b0 : decide (a0 ≤ 90) = true := decide_eq_true c15
   clear c15
   obtain rfl := Option.some.inj H
   go_enter Tryz.func116, Tryz.ntmps116
   go_wp2
   go_ret
   exact ⟨ze, zd⟩
  rw [if_neg c15] at H
  have c15b0 : decide (a0 ≤ 90) = false := decide_eq_false c15
  clear c15
  by_cases c16 : a0 ≥ 161
  rotate_left
  ·rw [if_neg c16] at H
   have c16b0 : decide (161 ≤ a0) = false := decide_eq_false c16
   clear c16
   obtain rfl := Option.some.inj H
   go_enter Tryz.func116, Tryz.ntmps116
   go_wp2
   go_ret
   exact ⟨ze, zd⟩
  rw [if_pos c16] at H
  have c16b0 : decide (161 ≤ a0) = true := decide_eq_true c16
  clear c16
  by_cases c17 : a0 ≤ 1114111
  rotate_left
  ·rw [if_neg c17] at H
   have c17b0 : decide (a0 ≤ 1114111) = false := decide_eq_false c17
   clear c17
   obtain rfl := Option.some.inj H
   go_enter Tryz.func116, Tryz.ntmps116
   go_wp2
   go_ret
   exact ⟨ze, zd⟩
  rw [if_pos c17] at H
  have c17b0 : decide (a0 ≤ 1114111) = true := decide_eq_true c17
  clear c17
  by_cases c18 : a0 = 65533
  ·rw [if_pos c18] at H
   have c18b0 : (a0 == 65533) = true := beq_iff_eq.mpr c18
   have c18b1 : (a0 != 65533) = false := bne_eq_false_iff_eq.mpr c18
   clear c18
   obtain rfl := Option.some.inj H
   go_enter Tryz.func116, Tryz.ntmps116
   go_wp2
   go_ret
   exact ⟨ze, zd⟩
  rw [if_neg c18] at H
  have c18b0 : (a0 == 65533) = false := beq_eq_false_iff_ne.mpr c18
  have c18b1 : (a0 != 65533) = true := bne_iff_ne.mpr c18
  by_cases c19 : a0 < 55296
  ·rw [if_pos c19] at H
   have c19b0 : decide (a0 < 55296) = true := decide_eq_true c19
   clear c19
   obtain rfl := Option.some.inj H
   go_enter Tryz.func116, Tryz.ntmps116
   go_wp2
   go_ret
   exact ⟨ze, zd⟩
  rw [if_neg c19] at H
  have c19b0 : decide (a0 < 55296) = false := decide_eq_false c19
  clear c19
  obtain rfl := Option.some.inj H
  go_enter Tryz.func116, Tryz.ntmps116
  go_wp2
  go_ret
  exact ⟨ze, zd⟩
 rw [if_pos c2] at H
 have c2b0 : decide (97 ≤ a0) = true := decide_eq_true c2
 clear c2
 by_cases c3 : a0 ≤ 122
 ·rw [if_pos c3] at H
  have c3b0 : decide (a0 ≤ 122) = true := decide_eq_true c3
  clear c3
  obtain rfl := Option.some.inj H
  go_enter Tryz.func116, Tryz.ntmps116
  go_wp2
  go_ret
  exact ⟨ze, zd⟩
 rw [if_neg c3] at H
 have c3b0 : decide (a0 ≤ 122) = false := decide_eq_false c3
 clear c3
 by_cases c4 : a0 ≥ 65
 rotate_left
 ·rw [if_neg c4] at H
  have c4b0 : decide (65 ≤ a0) = false := decide_eq_false c4
  clear c4
  by_cases c10 : a0 ≥ 161
  rotate_left
  ·rw [if_neg c10] at H
   have c10b0 : decide (161 ≤ a0) = false := decide_eq_false c10
   clear c10
   obtain rfl := Option.some.inj H
   go_enter Tryz.func116, Tryz.ntmps116
   go_wp2
   go_ret
   exact ⟨ze, zd⟩
  rw [if_pos c10] at H
  have c10b0 : decide (161 ≤ a0) = true := decide_eq_true c10
  clear c10
  by_cases c11 : a0 ≤ 1114111
  rotate_left
  ·rw [if_neg c11] at H
   have c11b0 : decide (a0 ≤ 1114111) = false := decide_eq_false c11
   clear c11
   obtain rfl := Option.some.inj H
   go_enter Tryz.func116, Tryz.ntmps116
   go_wp2
   go_ret
   exact ⟨ze, zd⟩
  rw [if_pos c11] at H
  have c11b0 : decide (a0 ≤ 1114111) = true := decide_eq_true c11
  clear c11
  by_cases c12 : a0 = 65533
  ·rw [if_pos c12] at H
   have c12b0 : (a0 == 65533) = true := beq_iff_eq.mpr c12
   have c12b1 : (a0 != 65533) = false := bne_eq_false_iff_eq.mpr c12
   clear c12
   obtain rfl := Option.some.inj H
   go_enter Tryz.func116, Tryz.ntmps116
   go_wp2
   go_ret
   exact ⟨ze, zd⟩
  rw [if_neg c12] at H
  have c12b0 : (a0 == 65533) = false := beq_eq_false_iff_ne.mpr c12
  have c12b1 : (a0 != 65533) = true := bne_iff_ne.mpr c12
  by_cases c13 : a0 < 55296
  ·rw [if_pos c13] at H
   have c13b0 : decide (a0 < 55296) = true := decide_eq_true c13
   clear c13
   obtain rfl := Option.some.inj H
   go_enter Tryz.func116, Tryz.ntmps116
   go_wp2
   go_ret
   exact ⟨ze, zd⟩
  rw [if_neg c13] at H
  have c13b0 : decide (a0 < 55296) = false := decide_eq_false c13
  clear c13
  obtain rfl := Option.some.inj H
  go_enter Tryz.func116, Tryz.ntmps116
  go_wp2
  go_ret
  exact ⟨ze, zd⟩
 rw [if_pos c4] at H
 have c4b0 : decide (65 ≤ a0) = true := decide_eq_true c4
 clear c4
 by_cases c5 : a0 ≤ 90
 ·rw [if_pos c5] at H
  have c5b0 : decide (a0 ≤ 90) = true := decide_eq_true c5
  clear c5
  obtain rfl := Option.some.inj H
  go_enter Tryz.func116, Tryz.ntmps116
  go_wp2
  go_ret
  exact ⟨ze, zd⟩
 rw [if_neg c5] at H
 have c5b0 : decide (a0 ≤ 90) = false := decide_eq_false c5
 clear c5
 by_cases c6 : a0 ≥ 161
 rotate_left
 ·rw [if_neg c6] at H
  have c6b0 : decide (161 ≤ a0) = false := decide_eq_false c6
  clear c6
  obtain rfl := Option.some.inj H
  go_enter Tryz.func116, Tryz.ntmps116
  go_wp2
  go_ret
  exact ⟨ze, zd⟩
 rw [if_pos c6] at H
 have c6b0 : decide (161 ≤ a0) = true := decide_eq_true c6
 clear c6
 by_cases c7 : a0 ≤ 1114111
 rotate_left
 ·rw [if_neg c7] at H
  have c7b0 : decide (a0 ≤ 1114111) = false := decide_eq_false c7
  clear c7
  obtain rfl := Option.some.inj H
  go_enter Tryz.func116, Tryz.ntmps116
  go_wp2
  go_ret
  exact ⟨ze, zd⟩
 rw [if_pos c7] at H
 have c7b0 : decide (a0 ≤ 1114111) = true := decide_eq_true c7
 clear c7
 by_cases c8 : a0 = 65533
 ·rw [if_pos c8] at H
  have c8b0 : (a0 == 65533) = true := beq_iff_eq.mpr c8
  have c8b1 : (a0 != 65533) = false := bne_eq_false_iff_eq.mpr c8
  clear c8
  obtain rfl := Option.some.inj H
  go_enter Tryz.func116, Tryz.ntmps116
  go_wp2
  go_ret
  exact ⟨ze, zd⟩
 rw [if_neg c8] at H
 have c8b0 : (a0 == 65533) = false := beq_eq_false_iff_ne.mpr c8
 have c8b1 : (a0 != 65533) = true := bne_iff_ne.mpr c8
 by_cases c9 : a0 < 55296
 ·rw [if_pos c9] at H
  have c9b0 : decide (a0 < 55296) = true := decide_eq_true c9
  clear c9
  obtain rfl := Option.some.inj H
  go_enter Tryz.func116, Tryz.ntmps116
  go_wp2
  go_ret
  exact ⟨ze, zd⟩
 rw [if_neg c9] at H
 have c9b0 : decide (a0 < 55296) = false := decide_eq_false c9
 clear c9
 obtain rfl := Option.some.inj H
 go_enter Tryz.func116, Tryz.ntmps116
 go_wp2
 go_ret
 exact ⟨ze, zd⟩
def z2w.f (l0_0 : List ByteArray) (l0_1 : List (z1J)) : Option (Int) := if 0 ≤ (IntKind.u64.wrap ((l0_0.length : Int))) then (some (((shl .u32 1 (IntKind.u64.wrap ((l0_0.length : Int)))) - 1) % 4294967296)) else (none)
set_option maxHeartbeats 8000000 in
set_option maxRecDepth 100000 in
theorem z2w.calls (z0U : Option Addr) (c0_0 : Nat) (l0_0 : List ByteArray) (z0X : Option Addr) (c0_1 : Nat) (l0_1 : List (z1J)) (r : Int) (w : World) (hr0_0 : Kd.C Kd.string w z0U l0_0.length l0_0) (hc0_0 : l0_0.length ≤ c0_0) (hr0_1 : Kd.C z5a w z0X l0_1.length l0_1) (hc0_1 : l0_1.length ≤ c0_1) (h : z2w.f l0_0 l0_1 = some r) :
  Calls Tryz.prog 145 #[.agg #[.slice z0U l0_0.length c0_0, .slice z0X l0_1.length c0_1]] w fun e w' => e = .returned (.int .u32 r) ∧ Below w.heap.size w w' := by
 have hu25 := Tryz.underlying25
 have z2g := z0a.mk hr0_0
 have z1g := z0a.mk hc0_0
 clear hr0_0 hc0_0
 have z2x := z0a.mk hr0_1
 have z1j := z0a.mk hc0_1
 clear hr0_1 hc0_1
 have HB := z0a.mk (Below.refl w.heap.size w)
 have H : (if 0 ≤ (IntKind.u64.wrap ((l0_0.length : Int))) then (some (((shl .u32 1 (IntKind.u64.wrap ((l0_0.length : Int)))) - 1) % 4294967296)) else (none)) = some r := h
 clear h
 obtain ⟨ji2, hji2⟩ : ∃ j_ : Int, (IntKind.u64.wrap ((l0_0.length : Int))) = j_ := ⟨_, rfl⟩
 replace H : (if 0 ≤ (ji2) then (some (((shl .u32 1 (ji2)) - 1) % 4294967296)) else (none)) = some r := by first | (rw [hji2] at H; exact H) | (simp only [hji2] at H ⊢; exact H)
 by_cases c3 : 0 ≤ (ji2)
 rotate_left
 ·rw [if_neg c3] at H
  exact absurd H (by simp)
 rw [if_pos c3] at H
 have c3b0 := eq_true c3
 have c3b1 : decide (0 ≤ (ji2)) = true := decide_eq_true c3
 clear c3
 obtain ⟨ji4, hji4⟩ : ∃ j_ : Int, (shl .u32 1 (ji2)) = j_ := ⟨_, rfl⟩
 replace H : (some (((ji4) - 1) % 4294967296)) = some r := by first | (rw [hji4] at H; exact H) | (simp only [hji4] at H ⊢; exact H)
 have hji4_ : (IntKind.u32.wrap (1 * 2 ^ min (ji2).toNat 32)) = ji4 := hji4
 have hji4z : (ji2) ≤ 32 → (IntKind.u32.wrap (1 * 2 ^ (ji2).toNat)) = ji4 := x2b hji4
 have hji4u : (IntKind.u32.wrap (2 ^ min (ji2).toNat 32)) = ji4 := by have h_ := hji4_; rw [Int.one_mul] at h_; exact h_
 have hji4v : (ji2) ≤ 32 → (IntKind.u32.wrap (2 ^ (ji2).toNat)) = ji4 := fun hle_ => by have h_ := hji4z hle_; rw [Int.one_mul] at h_; exact h_
 obtain rfl := Option.some.inj H
 go_enter Tryz.func145, Tryz.ntmps145
 go_wp2_with (first | ((with_reducible refine z0o (N := 1) rfl ?_); refine zo (cs := #[.slice z0U l0_0.length c0_0, .slice z0X l0_1.length c0_1]) (t := 25) ?_; intro gb216 hg w5 hbox hb; have BK216 := z0a.mk hbox; have GW216 := zG HB hg; have GE216 := zG HB hg; replace HB := zB HB hb; clear hb hbox hg; obtain ⟨z8a, z8b, z8c, z8d⟩ := zc2 w5 BK216.out))
 go_ret
 exact ⟨by first | rfl | (simp [z3J, z3K] <;> rfl) | (simp only [← hji2, ← hji4]; first | rfl | (simp [z3J, z3K] <;> rfl)) | (simp [*, z3J, z3K] <;> rfl), by repeat (first | (with_reducible first | exact HB.out | apply z1w | apply z1d | apply z1l | refine z1X ?_ GE216.out) | exact HB.out)⟩
def z1e.f (l0_0 : List ByteArray) (l0_1 : List (z1J)) (a1 : Int) (a2 : Int) : Option (Bool) := (z2w.f l0_0 l0_1).bind fun t218 => (if (Go.bits .and .u32 (Go.bits .or .u32 a1 a2) t218) = (Go.bits .or .u32 a1 a2) then (some ((Go.bits .and .u32 a1 a2) == 0)) else (some false))
set_option maxHeartbeats 8000000 in
set_option maxRecDepth 100000 in
theorem z1e.calls (z0U : Option Addr) (c0_0 : Nat) (l0_0 : List ByteArray) (z0X : Option Addr) (c0_1 : Nat) (l0_1 : List (z1J)) (a1 : Int) (a2 : Int) (r : Bool) (w : World) (hr0_0 : Kd.C Kd.string w z0U l0_0.length l0_0) (hc0_0 : l0_0.length ≤ c0_0) (hr0_1 : Kd.C z5a w z0X l0_1.length l0_1) (hc0_1 : l0_1.length ≤ c0_1) (h : z1e.f l0_0 l0_1 a1 a2 = some r) :
  Calls Tryz.prog 117 #[.agg #[.slice z0U l0_0.length c0_0, .slice z0X l0_1.length c0_1], .int .u32 a1, .int .u32 a2] w fun e w' => e = .returned (.bool r) ∧ Below w.heap.size w w' := by
 have hu25 := Tryz.underlying25
 have z2g := z0a.mk hr0_0
 have z1g := z0a.mk hc0_0
 clear hr0_0 hc0_0
 have z2x := z0a.mk hr0_1
 have z1j := z0a.mk hc0_1
 clear hr0_1 hc0_1
 have HB := z0a.mk (Below.refl w.heap.size w)
 have H : ((z2w.f l0_0 l0_1).bind fun t218 => (if (Go.bits .and .u32 (Go.bits .or .u32 a1 a2) t218) = (Go.bits .or .u32 a1 a2) then (some ((Go.bits .and .u32 a1 a2) == 0)) else (some false))) = some r := h
 clear h
 replace H := Option.bind_eq_some_iff.mp H
 obtain ⟨t218, A40, H⟩ := H
 replace H : (if (Go.bits .and .u32 (Go.bits .or .u32 a1 a2) t218) = (Go.bits .or .u32 a1 a2) then (some ((Go.bits .and .u32 a1 a2) == 0)) else (some false)) = some r := H
 have A4 := z0a.mk A40
 clear A40
 by_cases c5 : (Go.bits .and .u32 (Go.bits .or .u32 a1 a2) t218) = (Go.bits .or .u32 a1 a2)
 rotate_left
 ·rw [if_neg c5] at H
  have c5b0 : ((Go.bits .and .u32 (Go.bits .or .u32 a1 a2) t218) == (Go.bits .or .u32 a1 a2)) = false := beq_eq_false_iff_ne.mpr c5
  have c5b1 : ((Go.bits .and .u32 (Go.bits .or .u32 a1 a2) t218) != (Go.bits .or .u32 a1 a2)) = true := bne_iff_ne.mpr c5
  obtain rfl := Option.some.inj H
  go_enter Tryz.func117, Tryz.ntmps117
  go_wp2_with (first | ((with_reducible refine z0o (N := 3) rfl ?_); refine zo (cs := #[.slice z0U l0_0.length c0_0, .slice z0X l0_1.length c0_1]) (t := 25) ?_; intro gb217 hg w9 hbox hb; have y9k := z0a.mk hbox; have GW217 := zG HB hg; have GE217 := zG HB hg; replace HB := zB HB hb; clear hb hbox hg; obtain ⟨z6C, z6D, z6E, z6F⟩ := zc2 w9 y9k.out) | ((with_reducible refine z0m (f := 145) rfl ?_); refine z1a (some 11) rfl rfl Tryz.func145 (by kernel_rfl) rfl #[.agg #[.slice z0U l0_0.length c0_0, .slice z0X l0_1.length c0_1]] rfl zq ?_; (with_reducible refine (z2w.calls _ _ l0_0 _ _ l0_1 t218 _ ?z0M z1g.out ?z0Q z1j.out A4.out).mono ?_); (case z0M => exact zs); (case z0Q => exact zs); rintro e w11 ⟨rfl, hb⟩; refine ⟨_, rfl, ?_⟩; replace y9k := zK y9k hb; replace HB := zB HB hb; (try clear hb)))
  go_ret
  exact ⟨zr, zb⟩
 rw [if_pos c5] at H
 have c5b0 : ((Go.bits .and .u32 (Go.bits .or .u32 a1 a2) t218) == (Go.bits .or .u32 a1 a2)) = true := beq_iff_eq.mpr c5
 have c5b1 : ((Go.bits .and .u32 (Go.bits .or .u32 a1 a2) t218) != (Go.bits .or .u32 a1 a2)) = false := bne_eq_false_iff_eq.mpr c5
 clear c5
 obtain rfl := Option.some.inj H
 go_enter Tryz.func117, Tryz.ntmps117
 go_wp2_with (first | ((with_reducible refine z0o (N := 3) rfl ?_); refine zo (cs := #[.slice z0U l0_0.length c0_0, .slice z0X l0_1.length c0_1]) (t := 25) ?_; intro gb217 hg w6 hbox hb; have y9k := z0a.mk hbox; have GW217 := zG HB hg; have GE217 := zG HB hg; replace HB := zB HB hb; clear hb hbox hg; obtain ⟨z4b, z4c, z4d, z4e⟩ := zc2 w6 y9k.out) | ((with_reducible refine z0m (f := 145) rfl ?_); refine z1a (some 11) rfl rfl Tryz.func145 (by kernel_rfl) rfl #[.agg #[.slice z0U l0_0.length c0_0, .slice z0X l0_1.length c0_1]] rfl zq ?_; (with_reducible refine (z2w.calls _ _ l0_0 _ _ l0_1 t218 _ ?z0M z1g.out ?z0Q z1j.out A4.out).mono ?_); (case z0M => exact zs); (case z0Q => exact zs); rintro e w8 ⟨rfl, hb⟩; refine ⟨_, rfl, ?_⟩; replace y9k := zK y9k hb; replace HB := zB HB hb; (try clear hb)))
 go_ret
 exact ⟨zr, zb⟩
mutual
def z0f.j0 : Nat → Bool → List ByteArray → List (z1J) → Option (Int)
 | 0, _, _, _ => none
 | k + 1, x25, z2O, z2r => if x25 = true then (some 7) else (z0f.l0 k 0 z2O z2r)
def z0f.l0 : Nat → Int → List ByteArray → List (z1J) → Option (Int)
 | 0, _, _, _ => none
 | k + 1, x3, z2O, z2r => if x3 < (z2O.length : Int) then (if 0 ≤ x3 then ((z0v.f k (z7Q ByteArray.empty z2O x3)).bind fun t221 => (z0f.l1 k x3 t221 0 z2O z2r)) else (none)) else (z0f.l2 k 0 z2O z2r)
def z0f.l1 : Nat → Int → Bool → Int → List ByteArray → List (z1J) → Option (Int)
 | 0, _, _, _, _, _ => none
 | k + 1, x3, x4, x5, z2O, z2r => if x5 < x3 then (if x4 = true then (if 0 ≤ x5 then (if x5 < (z2O.length : Int) then (if 0 ≤ x3 then (if x3 < (z2O.length : Int) then (z0f.l1 k x3 ((z7Q ByteArray.empty z2O x5).toList != (z7Q ByteArray.empty z2O x3).toList) (wrap64 (x5 + 1)) z2O z2r) else (none)) else (none)) else (none)) else (none)) else (z0f.l1 k x3 false (wrap64 (x5 + 1)) z2O z2r)) else (if x4 = true then (z0f.l0 k (wrap64 (x3 + 1)) z2O z2r) else (some 7))
def z0f.l2 : Nat → Int → List ByteArray → List (z1J) → Option (Int)
 | 0, _, _, _ => none
 | k + 1, x6, z2O, z2r => if x6 < (z2r.length : Int) then (if 0 ≤ x6 then ((z1P.f ((z0R z2r x6).f0)).bind fun t226 => (if t226 = true then ((z1e.f z2O z2r ((z0R z2r x6).f1) ((z0R z2r x6).f2)).bind fun t227 => (z0f.j4 k x6 t227 z2O z2r ((z0R z2r x6).f0) ((z0R z2r x6).f1) ((z0R z2r x6).f2))) else (z0f.j4 k x6 false z2O z2r ((z0R z2r x6).f0) ((z0R z2r x6).f1) ((z0R z2r x6).f2)))) else (none)) else (some 0)
def z0f.j4 : Nat → Int → Bool → List ByteArray → List (z1J) → Int → Int → Int → Option (Int)
 | 0, _, _, _, _, _, _, _ => none
 | k + 1, x6, x8, z2O, z2r, y3e, y6b, y6c => z0f.l3 k x6 x8 0 z2O z2r y3e y6b y6c
def z0f.l3 : Nat → Int → Bool → Int → List ByteArray → List (z1J) → Int → Int → Int → Option (Int)
 | 0, _, _, _, _, _, _, _, _ => none
 | k + 1, x6, x8, x9, z2O, z2r, y3e, y6b, y6c => if x9 < x6 then (if x8 = true then (if 0 ≤ x9 then (if x9 < (z2r.length : Int) then (z0f.l3 k x6 (((z0R z2r x9).f0) != y3e) (wrap64 (x9 + 1)) z2O z2r y3e y6b y6c) else (none)) else (none)) else (z0f.l3 k x6 false (wrap64 (x9 + 1)) z2O z2r y3e y6b y6c)) else (if x8 = true then (z0f.l2 k (wrap64 (x6 + 1)) z2O z2r) else (some 7))
end
def z0f.f (k : Nat) (l0_0 : List ByteArray) (l0_1 : List (z1J)) : Option (Int) := if (l0_0.length : Int) > 24 then (z0f.j0 k true l0_0 l0_1) else (if (l0_1.length : Int) < 1 then (z0f.j0 k true l0_0 l0_1) else (z0f.j0 k (decide ((l0_1.length : Int) > 128)) l0_0 l0_1))
theorem z0f.z1t : ∀ k, (∀ y0 y1 y2, LeO (z0f.j0 k y0 y1 y2) (z0f.j0 (k + 1) y0 y1 y2)) ∧ (∀ y0 y1 y2, LeO (z0f.l0 k y0 y1 y2) (z0f.l0 (k + 1) y0 y1 y2)) ∧ (∀ y0 y1 y2 y3 y4, LeO (z0f.l1 k y0 y1 y2 y3 y4) (z0f.l1 (k + 1) y0 y1 y2 y3 y4)) ∧ (∀ y0 y1 y2, LeO (z0f.l2 k y0 y1 y2) (z0f.l2 (k + 1) y0 y1 y2)) ∧ (∀ y0 y1 y2 y3 y4 y5 y6, LeO (z0f.j4 k y0 y1 y2 y3 y4 y5 y6) (z0f.j4 (k + 1) y0 y1 y2 y3 y4 y5 y6)) ∧ (∀ y0 y1 y2 y3 y4 y5 y6 y7, LeO (z0f.l3 k y0 y1 y2 y3 y4 y5 y6 y7) (z0f.l3 (k + 1) y0 y1 y2 y3 y4 y5 y6 y7))
 | 0 => ⟨fun _ _ _ r h => by simp [z0f.j0] at h, fun _ _ _ r h => by simp [z0f.l0] at h, fun _ _ _ _ _ r h => by simp [z0f.l1] at h, fun _ _ _ r h => by simp [z0f.l2] at h, fun _ _ _ _ _ _ _ r h => by simp [z0f.j4] at h, fun _ _ _ _ _ _ _ _ r h => by simp [z0f.l3] at h⟩
 | k + 1 => by
  obtain ⟨ih0, ih1, ih2, ih3, ih4, ih5⟩ := z0f.z1t k
  refine ⟨?_, ?_, ?_, ?_, ?_, ?_⟩
  ·intro y0 y1 y2
   unfold z0f.j0
   repeat' first
   | (with_reducible exact ih0 _ _ _)
   | (with_reducible exact ih1 _ _ _)
   | (with_reducible exact ih2 _ _ _ _ _)
   | (with_reducible exact ih3 _ _ _)
   | (with_reducible exact ih4 _ _ _ _ _ _ _)
   | (with_reducible exact ih5 _ _ _ _ _ _ _ _)
   | (with_reducible exact z0v.mono _ _)
   | (with_reducible exact LeO.refl _)
   | (with_reducible exact LeO.none _)
   | (with_reducible refine LeO.ite ?_ ?_)
   | (with_reducible refine LeO.bind ?_ (fun _ => ?_))
  ·intro y0 y1 y2
   unfold z0f.l0
   repeat' first
   | (with_reducible exact ih0 _ _ _)
   | (with_reducible exact ih1 _ _ _)
   | (with_reducible exact ih2 _ _ _ _ _)
   | (with_reducible exact ih3 _ _ _)
   | (with_reducible exact ih4 _ _ _ _ _ _ _)
   | (with_reducible exact ih5 _ _ _ _ _ _ _ _)
   | (with_reducible exact z0v.mono _ _)
   | (with_reducible exact LeO.refl _)
   | (with_reducible exact LeO.none _)
   | (with_reducible refine LeO.ite ?_ ?_)
   | (with_reducible refine LeO.bind ?_ (fun _ => ?_))
  ·intro y0 y1 y2 y3 y4
   unfold z0f.l1
   repeat' first
   | (with_reducible exact ih0 _ _ _)
   | (with_reducible exact ih1 _ _ _)
   | (with_reducible exact ih2 _ _ _ _ _)
   | (with_reducible exact ih3 _ _ _)
   | (with_reducible exact ih4 _ _ _ _ _ _ _)
   | (with_reducible exact ih5 _ _ _ _ _ _ _ _)
   | (with_reducible exact z0v.mono _ _)
   | (with_reducible exact LeO.refl _)
   | (with_reducible exact LeO.none _)
   | (with_reducible refine LeO.ite ?_ ?_)
   | (with_reducible refine LeO.bind ?_ (fun _ => ?_))
  ·intro y0 y1 y2
   unfold z0f.l2
   repeat' first
   | (with_reducible exact ih0 _ _ _)
   | (with_reducible exact ih1 _ _ _)
   | (with_reducible exact ih2 _ _ _ _ _)
   | (with_reducible exact ih3 _ _ _)
   | (with_reducible exact ih4 _ _ _ _ _ _ _)
   | (with_reducible exact ih5 _ _ _ _ _ _ _ _)
   | (with_reducible exact z0v.mono _ _)
   | (with_reducible exact LeO.refl _)
   | (with_reducible exact LeO.none _)
   | (with_reducible refine LeO.ite ?_ ?_)
   | (with_reducible refine LeO.bind ?_ (fun _ => ?_))
  ·intro y0 y1 y2 y3 y4 y5 y6
   unfold z0f.j4
   repeat' first
   | (with_reducible exact ih0 _ _ _)
   | (with_reducible exact ih1 _ _ _)
   | (with_reducible exact ih2 _ _ _ _ _)
   | (with_reducible exact ih3 _ _ _)
   | (with_reducible exact ih4 _ _ _ _ _ _ _)
   | (with_reducible exact ih5 _ _ _ _ _ _ _ _)
   | (with_reducible exact z0v.mono _ _)
   | (with_reducible exact LeO.refl _)
   | (with_reducible exact LeO.none _)
   | (with_reducible refine LeO.ite ?_ ?_)
   | (with_reducible refine LeO.bind ?_ (fun _ => ?_))
  ·intro y0 y1 y2 y3 y4 y5 y6 y7
   unfold z0f.l3
   repeat' first
   | (with_reducible exact ih0 _ _ _)
   | (with_reducible exact ih1 _ _ _)
   | (with_reducible exact ih2 _ _ _ _ _)
   | (with_reducible exact ih3 _ _ _)
   | (with_reducible exact ih4 _ _ _ _ _ _ _)
   | (with_reducible exact ih5 _ _ _ _ _ _ _ _)
   | (with_reducible exact z0v.mono _ _)
   | (with_reducible exact LeO.refl _)
   | (with_reducible exact LeO.none _)
   | (with_reducible refine LeO.ite ?_ ?_)
   | (with_reducible refine LeO.bind ?_ (fun _ => ?_))
theorem z0f.mono : ∀ a0 a1 k, LeO (z0f.f k a0 a1) (z0f.f (k + 1) a0 a1) := by
 intro a0 a1 k
 obtain ⟨ih0, ih1, ih2, ih3, ih4, ih5⟩ := z0f.z1t k
 unfold z0f.f
 repeat' first
   | (with_reducible exact ih0 _ _ _)
   | (with_reducible exact ih1 _ _ _)
   | (with_reducible exact ih2 _ _ _ _ _)
   | (with_reducible exact ih3 _ _ _)
   | (with_reducible exact ih4 _ _ _ _ _ _ _)
   | (with_reducible exact ih5 _ _ _ _ _ _ _ _)
   | (with_reducible exact z0v.mono _ _)
   | (with_reducible exact LeO.refl _)
   | (with_reducible exact LeO.none _)
   | (with_reducible refine LeO.ite ?_ ?_)
   | (with_reducible refine LeO.bind ?_ (fun _ => ?_))
set_option maxHeartbeats 8000000 in
set_option maxRecDepth 100000 in
theorem z0f.calls (k : Nat) (z0U : Option Addr) (c0_0 : Nat) (l0_0 : List ByteArray) (z0X : Option Addr) (c0_1 : Nat) (l0_1 : List (z1J)) (r : Int) (w : World) (hr0_0 : Kd.C Kd.string w z0U l0_0.length l0_0) (hc0_0 : l0_0.length ≤ c0_0) (hr0_1 : Kd.C z5a w z0X l0_1.length l0_1) (hc0_1 : l0_1.length ≤ c0_1) (h : z0f.f k l0_0 l0_1 = some r) :
  Calls Tryz.prog 81 #[.agg #[.slice z0U l0_0.length c0_0, .slice z0X l0_1.length c0_1]] w fun e w' => e = .returned (.int .i64 r) ∧ Below w.heap.size w w' := by
 have hu25 := Tryz.underlying25
 have hu145 := Tryz.underlying145
 have z2g := z0a.mk hr0_0
 have z1g := z0a.mk hc0_0
 clear hr0_0 hc0_0
 have z2x := z0a.mk hr0_1
 have z1j := z0a.mk hc0_1
 clear hr0_1 hc0_1
 have HB := z0a.mk (Below.refl w.heap.size w)
 have H : (if (l0_0.length : Int) > 24 then (z0f.j0 k true l0_0 l0_1) else (if (l0_1.length : Int) < 1 then (z0f.j0 k true l0_0 l0_1) else (z0f.j0 k (decide ((l0_1.length : Int) > 128)) l0_0 l0_1))) = some r := h
 clear h
 have HC2 := z0a.mk H
 clear H
 go_enter Tryz.func81, Tryz.ntmps81
 go_upto_region 1 with (first | ((with_reducible refine z0o (N := 1) rfl ?_); refine zo (cs := #[.slice z0U l0_0.length c0_0, .slice z0X l0_1.length c0_1]) (t := 25) ?_; intro y3f hg w3 hbox hb; have z3w := z0a.mk hbox; have w2V := zG HB hg; have w2W := zG HB hg; replace HB := zB HB hb; clear hb hbox hg))
 repeat (go_quiet (first | ((with_reducible refine z0o (N := 1) rfl ?_); refine zo (cs := #[.slice z0U l0_0.length c0_0, .slice z0X l0_1.length c0_1]) (t := 25) ?_; intro y3f hg w3 hbox hb; have z3w := z0a.mk hbox; have w2V := zG HB hg; have w2W := zG HB hg; replace HB := zB HB hb; clear hb hbox hg)); go_upto_region 1 with (first | ((with_reducible refine z0o (N := 1) rfl ?_); refine zo (cs := #[.slice z0U l0_0.length c0_0, .slice z0X l0_1.length c0_1]) (t := 25) ?_; intro y3f hg w3 hbox hb; have z3w := z0a.mk hbox; have w2V := zG HB hg; have w2W := zG HB hg; replace HB := zB HB hb; clear hb hbox hg)))
 (try simp only [Act.put, List.setIfInBounds_toArray, List.set_cons_zero, List.set_cons_succ])
 go_cut [25] (fun v25 wc => ∃ (kq : Nat) (x25_1 : Bool), v25 = .bool x25_1 ∧ z0a (z0f.j0 kq x25_1 l0_0 l0_1 = some r) ∧ z0a (kq ≤ k) ∧ z0a (wc.heap[y3f]? = some (.cells #[(.slice z0U l0_0.length c0_0), (.slice z0X l0_1.length c0_1)] 25 (0, 0))) ∧ z0a (Below w.heap.size w wc))
 case first =>
  have H := HC2.out
  clear HC2
  by_cases c4 : (l0_0.length : Int) > 24
  ·rw [if_pos c4] at H
   have c4b0 : decide (24 < (l0_0.length : Int)) = true := decide_eq_true c4
   have c4b1 : decide (24 < l0_0.length) = true := decide_eq_true (by omega)
   clear c4
   (first | rw [c4b0] | (simp only [z0V, z0W]; rw [c4b0]) | skip)
   have H' := z0a.mk H
   clear H
   obtain ⟨y6Z, y7a, y7b, y7c⟩ := zc2 w3 z3w.out
   go_wp2
   repeat (go_quiet (fail); try go_wp2)
   go_meet
   case rel => exact ⟨_, (true), ze, H', ⟨zl⟩, ⟨zk⟩, ⟨zb⟩⟩
  rw [if_neg c4] at H
  have c4b0 : decide (24 < (l0_0.length : Int)) = false := decide_eq_false c4
  have c4b1 : decide (24 < l0_0.length) = false := decide_eq_false (by omega)
  clear c4
  (first | rw [c4b0] | (simp only [z0V, z0W]; rw [c4b0]) | skip)
  by_cases c6 : (l0_1.length : Int) < 1
  ·rw [if_pos c6] at H
   have c6b0 : decide ((l0_1.length : Int) < 1) = true := decide_eq_true c6
   have c6b1 : decide (l0_1.length < 1) = true := decide_eq_true (by omega)
   clear c6
   have H' := z0a.mk H
   clear H
   obtain ⟨z4b, z4c, z4d, z4e⟩ := zc2 w3 z3w.out
   go_wp2
   repeat (go_quiet (fail); try go_wp2)
   go_meet
   case rel => exact ⟨_, (true), ze, H', ⟨zl⟩, ⟨zk⟩, ⟨zb⟩⟩
  rw [if_neg c6] at H
  have c6b0 : decide ((l0_1.length : Int) < 1) = false := decide_eq_false c6
  have c6b1 : decide (l0_1.length < 1) = false := decide_eq_false (by omega)
  clear c6
  have H' := z0a.mk H
  clear H
  obtain ⟨y1c, y4A, y1d, y4B⟩ := zc2 w3 z3w.out
  go_wp2
  repeat (go_quiet (fail); try go_wp2)
  go_meet
  case rel => exact ⟨_, (decide ((l0_1.length : Int) > 128)), ze, H', ⟨zl⟩, ⟨zk⟩, ⟨zb⟩⟩
 case rest =>
  clear HC2
  obtain ⟨kq, x25_1, rfl, HA, HJ1, z3w, HB⟩ := hcut
  cases kq with
  | zero => exact absurd HA.out (by simp [z0f.j0])
  | succ kj1 =>
   have H := HA.out
   clear HA
   simp only [z0f.j0] at H
   by_cases c9 : x25_1 = true
   ·subst c9
    have H1 : (some 7) = some r := by rw [if_pos rfl] at H; exact H
    clear H
    have H := H1
    clear H1
    obtain rfl := Option.some.inj H
    go_wp2
    repeat (go_quiet (fail); try go_wp2)
    go_ret
    exact ⟨zr, zb⟩
   replace c9 := Bool.eq_false_iff.mpr c9
   subst c9
   have H1 : (z0f.l0 kj1 0 l0_0 l0_1) = some r := by rw [if_neg (show ¬ (false = true) by decide)] at H; exact H
   clear H
   have H := H1
   clear H1
   have H' := z0a.mk H
   clear H
   go_wp2
   repeat (go_quiet (fail); try go_wp2)
   go_loopg [3] kj1 (fun kq v3 w' => ∃ (x3_2 : Int), v3 = .int .i64 x3_2 ∧ z0a (z0f.l0 kq x3_2 l0_0 l0_1 = some r) ∧ z0a (kq ≤ kj1) ∧ z0a (w'.heap[y3f]? = some (.cells #[(.slice z0U l0_0.length c0_0), (.slice z0X l0_1.length c0_1)] 25 (0, 0))) ∧ z0a (Below w.heap.size w w'))
   case atStart => exact ⟨(0), ze, H', ⟨Nat.le_refl _⟩, ⟨zk⟩, ⟨zb⟩⟩
   case round =>
    clear H'
    try clear c9
    obtain ⟨x3_2, rfl, HA, HK2, z3w, HB⟩ := hrel
    cases gk with
    | zero => exact absurd HA.out (by simp [z0f.l0])
    | succ k2 =>
     have H := HA.out
     clear HA
     simp only [z0f.l0] at H
     by_cases c10 : x3_2 < (l0_0.length : Int)
     ·rw [if_pos c10] at H
      have c10b0 : decide (x3_2 < (l0_0.length : Int)) = true := decide_eq_true c10
      clear c10
      by_cases c11 : 0 ≤ x3_2
      rotate_left
      ·rw [if_neg c11] at H
       exact absurd H (by simp)
      rw [if_pos c11] at H
      have c11b0 : decide (0 ≤ x3_2) = true := decide_eq_true c11
      clear c11
      replace H := Option.bind_eq_some_iff.mp H
      obtain ⟨t221, A120, H⟩ := H
      replace H : (z0f.l1 k2 x3_2 t221 0 l0_0 l0_1) = some r := H
      have A12 := z0a.mk A120
      clear A120
      have H' := z0a.mk H
      clear H
      obtain ⟨z9l, z9m, z9n, z9o⟩ := zc2 wr z3w.out
      have p220 : 0 ≤ (x3_2 : Int) := za
      have q220 : x3_2 < (l0_0.length : Int) := za
      obtain ⟨ad220, e220, y9l⟩ := Kd.z7V z2g.out x3_2 p220 q220
      cases e220
      replace y9l := zx HB y9l
      replace p220 := eq_true p220
      replace q220 := eq_true q220
      go_wp2_with (first | (go_at_call 115; (with_reducible refine (z0v.calls k2 (z7Q ByteArray.empty l0_0 x3_2) t221 _ A12.out).mono ?_); rintro e w' ⟨rfl, ⟨nd, rfl⟩⟩; (try first | exact ⟨rfl, _, World.drewN_drewN _ _ _⟩ | exact ⟨rfl, _, Eq.trans (World.drewN_drewN _ _ _) (congrArg (World.drewN _) (Nat.add_assoc _ _ _))⟩)))
      repeat (go_quiet (first | (go_at_call 115; (with_reducible refine (z0v.calls k2 (z7Q ByteArray.empty l0_0 x3_2) t221 _ A12.out).mono ?_); rintro e w' ⟨rfl, ⟨nd, rfl⟩⟩; (try first | exact ⟨rfl, _, World.drewN_drewN _ _ _⟩ | exact ⟨rfl, _, Eq.trans (World.drewN_drewN _ _ _) (congrArg (World.drewN _) (Nat.add_assoc _ _ _))⟩))); try go_wp2_with (first | (go_at_call 115; (with_reducible refine (z0v.calls k2 (z7Q ByteArray.empty l0_0 x3_2) t221 _ A12.out).mono ?_); rintro e w' ⟨rfl, ⟨nd, rfl⟩⟩; (try first | exact ⟨rfl, _, World.drewN_drewN _ _ _⟩ | exact ⟨rfl, _, Eq.trans (World.drewN_drewN _ _ _) (congrArg (World.drewN _) (Nat.add_assoc _ _ _))⟩))))
      go_loopg [4, 5] k2 (fun kq v4 v5 w' => ∃ (x4_3 : Bool) (x5_3 : Int), v4 = .bool x4_3 ∧ v5 = .int .i64 x5_3 ∧ z0a (z0f.l1 kq x3_2 x4_3 x5_3 l0_0 l0_1 = some r) ∧ z0a (kq ≤ k2) ∧ z0a (w'.heap[y3f]? = some (.cells #[(.slice (some ad220) l0_0.length c0_0), (.slice z0X l0_1.length c0_1)] 25 (0, 0))) ∧ z0a (Below w.heap.size w w'))
      case atStart => exact ⟨(t221), (0), ze, ze, H', ⟨Nat.le_refl _⟩, ⟨zk⟩, ⟨zb⟩⟩
      case round =>
       clear H'
       try clear c9
       try clear c10
       try clear c10b0
       try clear c11
       try clear c11b0
       try clear z9l
       try clear z9m
       try clear z9n
       try clear z9o
       try clear y9l
       try clear p220
       try clear q220
       obtain ⟨x4_3, x5_3, rfl, rfl, HA, HK3, z3w, HB⟩ := hrel
       cases gk with
       | zero => exact absurd HA.out (by simp [z0f.l1])
       | succ k3 =>
        have H := HA.out
        clear HA
        simp only [z0f.l1] at H
        by_cases c14 : x5_3 < x3_2
        rotate_left
        ·rw [if_neg c14] at H
         have c14b0 : decide (x5_3 < x3_2) = false := decide_eq_false c14
         clear c14
         by_cases c21 : x4_3 = true
         rotate_left
         ·replace c21 := Bool.eq_false_iff.mpr c21
          subst c21
          have H1 : (some 7) = some r := by rw [if_neg (show ¬ (false = true) by decide)] at H; exact H
          clear H
          have H := H1
          clear H1
          obtain rfl := Option.some.inj H
          go_wp2
          repeat (go_quiet (fail); try go_wp2)
          go_ret
          exact ⟨zr, zb⟩
         subst c21
         have H1 : (z0f.l0 k3 (wrap64 (x3_2 + 1)) l0_0 l0_1) = some r := by rw [if_pos rfl] at H; exact H
         clear H
         have H := H1
         clear H1
         have H' := z0a.mk H
         clear H
         go_wp2
         repeat (go_quiet (fail); try go_wp2)
         go_roundg k3
         case measure => have := HJ1.out; have := HK2.out; have := HK3.out; omega
         case rel => exact ⟨(wrap64 (x3_2 + 1)), ze, H', ⟨by have := HJ1.out; have := HK2.out; have := HK3.out; omega⟩, ⟨zk⟩, ⟨zb⟩⟩
        rw [if_pos c14] at H
        have c14b0 : decide (x5_3 < x3_2) = true := decide_eq_true c14
        clear c14
        by_cases c15 : x4_3 = true
        rotate_left
        ·replace c15 := Bool.eq_false_iff.mpr c15
         subst c15
         have H1 : (z0f.l1 k3 x3_2 false (wrap64 (x5_3 + 1)) l0_0 l0_1) = some r := by rw [if_neg (show ¬ (false = true) by decide)] at H; exact H
         clear H
         have H := H1
         clear H1
         have H' := z0a.mk H
         clear H
         go_wp2
         repeat (go_quiet (fail); try go_wp2)
         go_roundg k3
         case measure => have := HJ1.out; have := HK2.out; have := HK3.out; omega
         case rel => exact ⟨(false), (wrap64 (x5_3 + 1)), ze, ze, H', ⟨by have := HJ1.out; have := HK2.out; have := HK3.out; omega⟩, ⟨zk⟩, ⟨zb⟩⟩
        subst c15
        have H1 : (if 0 ≤ x5_3 then (if x5_3 < (l0_0.length : Int) then (if 0 ≤ x3_2 then (if x3_2 < (l0_0.length : Int) then (z0f.l1 k3 x3_2 ((z7Q ByteArray.empty l0_0 x5_3).toList != (z7Q ByteArray.empty l0_0 x3_2).toList) (wrap64 (x5_3 + 1)) l0_0 l0_1) else (none)) else (none)) else (none)) else (none)) = some r := by rw [if_pos rfl] at H; exact H
        clear H
        have H := H1
        clear H1
        by_cases c16 : 0 ≤ x5_3
        rotate_left
        ·rw [if_neg c16] at H
         exact absurd H (by simp)
        rw [if_pos c16] at H
        have c16b0 : decide (0 ≤ x5_3) = true := decide_eq_true c16
        clear c16
        by_cases c17 : x5_3 < (l0_0.length : Int)
        rotate_left
        ·rw [if_neg c17] at H
         exact absurd H (by simp)
        rw [if_pos c17] at H
        have c17b0 : decide (x5_3 < (l0_0.length : Int)) = true := decide_eq_true c17
        clear c17
        by_cases c18 : 0 ≤ x3_2
        rotate_left
        ·rw [if_neg c18] at H
         exact absurd H (by simp)
        rw [if_pos c18] at H
        have c18b0 : decide (0 ≤ x3_2) = true := decide_eq_true c18
        clear c18
        by_cases c19 : x3_2 < (l0_0.length : Int)
        rotate_left
        ·rw [if_neg c19] at H
         exact absurd H (by simp)
        rw [if_pos c19] at H
        have c19b0 : decide (x3_2 < (l0_0.length : Int)) = true := decide_eq_true c19
        clear c19
        have H' := z0a.mk H
        clear H
        obtain ⟨z5x, z6a, z5y, z6b⟩ := zc2 wr z3w.out
        have p222 : 0 ≤ (x5_3 : Int) := za
        have q222 : x5_3 < (l0_0.length : Int) := za
        obtain ⟨ad222, e222, x4D⟩ := Kd.z7V z2g.out x5_3 p222 q222
        obtain rfl : ad220 = ad222 := (by injection e222)
        replace x4D := zx HB x4D
        replace p222 := eq_true p222
        replace q222 := eq_true q222
        have p223 : 0 ≤ (x3_2 : Int) := za
        have q223 : x3_2 < (l0_0.length : Int) := za
        obtain ⟨ad223, e223, x4E⟩ := Kd.z7V z2g.out x3_2 p223 q223
        obtain rfl : ad220 = ad223 := (by injection e223)
        replace x4E := zx HB x4E
        replace p223 := eq_true p223
        replace q223 := eq_true q223
        go_wp2
        repeat (go_quiet (fail); try go_wp2)
        go_roundg k3
        case measure => have := HJ1.out; have := HK2.out; have := HK3.out; omega
        case rel => exact ⟨(((z7Q ByteArray.empty l0_0 x5_3).toList != (z7Q ByteArray.empty l0_0 x3_2).toList)), (wrap64 (x5_3 + 1)), ze, ze, H', ⟨by have := HJ1.out; have := HK2.out; have := HK3.out; omega⟩, ⟨zk⟩, ⟨zb⟩⟩
     rw [if_neg c10] at H
     have c10b0 : decide (x3_2 < (l0_0.length : Int)) = false := decide_eq_false c10
     clear c10
     have H' := z0a.mk H
     clear H
     obtain ⟨y5L, y5M, y5N, y5O⟩ := zc2 wr z3w.out
     go_wp2
     repeat (go_quiet (fail); try go_wp2)
     go_loopg [6] k2 (fun kq v6 w' => ∃ (x6_3 : Int), v6 = .int .i64 x6_3 ∧ z0a (z0f.l2 kq x6_3 l0_0 l0_1 = some r) ∧ z0a (kq ≤ k2) ∧ z0a (w'.heap[y3f]? = some (.cells #[(.slice z0U l0_0.length c0_0), (.slice z0X l0_1.length c0_1)] 25 (0, 0))) ∧ z0a (Below w.heap.size w w'))
     case atStart => exact ⟨(0), ze, H', ⟨Nat.le_refl _⟩, ⟨zk⟩, ⟨zb⟩⟩
     case round =>
      clear H'
      try clear c9
      try clear c10
      try clear c10b0
      try clear y5L
      try clear y5M
      try clear y5N
      try clear y5O
      obtain ⟨x6_3, rfl, HA, HK3, z3w, HB⟩ := hrel
      cases gk with
      | zero => exact absurd HA.out (by simp [z0f.l2])
      | succ k3 =>
       have H := HA.out
       clear HA
       simp only [z0f.l2] at H
       by_cases c23 : x6_3 < (l0_1.length : Int)
       rotate_left
       ·rw [if_neg c23] at H
        have c23b0 : decide (x6_3 < (l0_1.length : Int)) = false := decide_eq_false c23
        clear c23
        obtain rfl := Option.some.inj H
        obtain ⟨x2C, x2D, x2E, x2F⟩ := zc2 wr z3w.out
        go_wp2
        repeat (go_quiet (fail); try go_wp2)
        go_ret
        exact ⟨zr, zb⟩
       rw [if_pos c23] at H
       have c23b0 : decide (x6_3 < (l0_1.length : Int)) = true := decide_eq_true c23
       clear c23
       by_cases c24 : 0 ≤ x6_3
       rotate_left
       ·rw [if_neg c24] at H
        exact absurd H (by simp)
       rw [if_pos c24] at H
       have c24b0 : decide (0 ≤ x6_3) = true := decide_eq_true c24
       clear c24
       have HC25 := z0a.mk H
       clear H
       obtain ⟨y5E, y5F, y5G, y5H⟩ := zc2 wr z3w.out
       have p224 : 0 ≤ (x6_3 : Int) := za
       have q224 : x6_3 < (l0_1.length : Int) := za
       obtain ⟨ad224, e224, y6d, y6e, y6f⟩ := z9k z2x.out x6_3 p224 q224
       cases e224
       replace y6d := zx HB y6d
       replace y6e := zx HB y6e
       replace y6f := zx HB y6f
       replace p224 := eq_true p224
       replace q224 := eq_true q224
       go_upto_region 17 with (first | ((with_reducible refine z0o (N := 7) rfl ?_); refine zo (cs := #[.int .i32 0, .int .u32 0, .int .u32 0]) (t := 145) ?_; intro y9m hg w27 hbox hb; have z8y := z0a.mk hbox; have w2X := zG HB hg; have w2Y := zG HB hg; have z2p := zN z3w hg; have z5e := zM z3w hg; replace z3w := zK z3w hb; replace HB := zB HB hb; clear hb hbox hg; have hnb28 := z5e.out; have hnc28 := z2p.out; obtain ⟨z9t, z9u, z9v, z9w, z9x, z9y⟩ := zc3 w27 z8y.out))
       repeat (go_quiet (first | ((with_reducible refine z0o (N := 7) rfl ?_); refine zo (cs := #[.int .i32 0, .int .u32 0, .int .u32 0]) (t := 145) ?_; intro y9m hg w27 hbox hb; have z8y := z0a.mk hbox; have w2X := zG HB hg; have w2Y := zG HB hg; have z2p := zN z3w hg; have z5e := zM z3w hg; replace z3w := zK z3w hb; replace HB := zB HB hb; clear hb hbox hg; have hnb28 := z5e.out; have hnc28 := z2p.out; obtain ⟨z9t, z9u, z9v, z9w, z9x, z9y⟩ := zc3 w27 z8y.out)); go_upto_region 17 with (first | ((with_reducible refine z0o (N := 7) rfl ?_); refine zo (cs := #[.int .i32 0, .int .u32 0, .int .u32 0]) (t := 145) ?_; intro y9m hg w27 hbox hb; have z8y := z0a.mk hbox; have w2X := zG HB hg; have w2Y := zG HB hg; have z2p := zN z3w hg; have z5e := zM z3w hg; replace z3w := zK z3w hb; replace HB := zB HB hb; clear hb hbox hg; have hnb28 := z5e.out; have hnc28 := z2p.out; obtain ⟨z9t, z9u, z9v, z9w, z9x, z9y⟩ := zc3 w27 z8y.out)))
       (try simp only [Act.put, List.setIfInBounds_toArray, List.set_cons_zero, List.set_cons_succ])
       go_cut [8] (fun v8 wc => ∃ (kq : Nat) (x8_24 : Bool), v8 = .bool x8_24 ∧ z0a (z0f.j4 kq x6_3 x8_24 l0_0 l0_1 ((z0R l0_1 x6_3).f0) ((z0R l0_1 x6_3).f1) ((z0R l0_1 x6_3).f2) = some r) ∧ z0a (kq ≤ k3) ∧ z0a (wc.heap[y3f]? = some (.cells #[(.slice z0U l0_0.length c0_0), (.slice (some ad224) l0_1.length c0_1)] 25 (0, 0))) ∧ z0a (wc.heap[y9m]? = some (.cells #[.int .i32 ((z0R l0_1 x6_3).f0), .int .u32 ((z0R l0_1 x6_3).f1), .int .u32 ((z0R l0_1 x6_3).f2)] 145 (0, 0))) ∧ z0a (Below w.heap.size w wc))
       case first =>
        have H := HC25.out
        clear HC25
        replace H := Option.bind_eq_some_iff.mp H
        obtain ⟨t226, A300, H⟩ := H
        replace H : (if t226 = true then ((z1e.f l0_0 l0_1 ((z0R l0_1 x6_3).f1) ((z0R l0_1 x6_3).f2)).bind fun t227 => (z0f.j4 k3 x6_3 t227 l0_0 l0_1 ((z0R l0_1 x6_3).f0) ((z0R l0_1 x6_3).f1) ((z0R l0_1 x6_3).f2))) else (z0f.j4 k3 x6_3 false l0_0 l0_1 ((z0R l0_1 x6_3).f0) ((z0R l0_1 x6_3).f1) ((z0R l0_1 x6_3).f2))) = some r := H
        have A30 := z0a.mk A300
        clear A300
        by_cases c31 : t226 = true
        rotate_left
        ·replace c31 := Bool.eq_false_iff.mpr c31
         subst c31
         have H1 : (z0f.j4 k3 x6_3 false l0_0 l0_1 ((z0R l0_1 x6_3).f0) ((z0R l0_1 x6_3).f1) ((z0R l0_1 x6_3).f2)) = some r := by rw [if_neg (show ¬ (false = true) by decide)] at H; exact H
         clear H
         have H := H1
         clear H1
         have H' := z0a.mk H
         clear H
         have hnb37 := z5e.out
         have hnc37 := z2p.out
         obtain ⟨z9z, y1V, y5r, z9A, y1W, y5s⟩ := zc3 w27 z8y.out
         go_wp2_with (first | (go_at_call 116; (with_reducible refine (z1P.calls ((z0R l0_1 x6_3).f0) false _ A30.out).mono ?_); rintro e w' ⟨rfl, ⟨nd, rfl⟩⟩; (try first | exact ⟨rfl, _, World.drewN_drewN _ _ _⟩ | exact ⟨rfl, _, Eq.trans (World.drewN_drewN _ _ _) (congrArg (World.drewN _) (Nat.add_assoc _ _ _))⟩)))
         repeat (go_quiet (first | (go_at_call 116; (with_reducible refine (z1P.calls ((z0R l0_1 x6_3).f0) false _ A30.out).mono ?_); rintro e w' ⟨rfl, ⟨nd, rfl⟩⟩; (try first | exact ⟨rfl, _, World.drewN_drewN _ _ _⟩ | exact ⟨rfl, _, Eq.trans (World.drewN_drewN _ _ _) (congrArg (World.drewN _) (Nat.add_assoc _ _ _))⟩))); try go_wp2_with (first | (go_at_call 116; (with_reducible refine (z1P.calls ((z0R l0_1 x6_3).f0) false _ A30.out).mono ?_); rintro e w' ⟨rfl, ⟨nd, rfl⟩⟩; (try first | exact ⟨rfl, _, World.drewN_drewN _ _ _⟩ | exact ⟨rfl, _, Eq.trans (World.drewN_drewN _ _ _) (congrArg (World.drewN _) (Nat.add_assoc _ _ _))⟩))))
         go_meet
         case rel => exact ⟨_, (false), ze, H', ⟨by have := HJ1.out; have := HK2.out; have := HK3.out; first | omega | exact Nat.le_refl _⟩, ⟨by (with_reducible repeat (first | refine z0c ?_ _ | refine z0e ?_ | refine z0b ?_ _)); refine z0n ?_ z2p.out _; (with_reducible repeat (first | refine z0c ?_ _ | refine z0e ?_ | refine z0b ?_ _)); refine z0n ?_ z2p.out _; (with_reducible repeat (first | refine z0c ?_ _ | refine z0e ?_ | refine z0b ?_ _)); refine z0n ?_ z2p.out _; (with_reducible repeat (first | refine z0c ?_ _ | refine z0e ?_ | refine z0b ?_ _)); exact z3w.out⟩, ⟨by (with_reducible repeat (first | refine z0c ?_ _ | refine z0e ?_ | refine z0b ?_ _)); refine z0N (cs := #[.int .i32 ((z0R l0_1 x6_3).f0), .int .u32 ((z0R l0_1 x6_3).f1), .int .u32 0]) ?_ 2 _ rfl; (with_reducible repeat (first | refine z0c ?_ _ | refine z0e ?_ | refine z0b ?_ _)); refine z0N (cs := #[.int .i32 ((z0R l0_1 x6_3).f0), .int .u32 0, .int .u32 0]) ?_ 1 _ rfl; (with_reducible repeat (first | refine z0c ?_ _ | refine z0e ?_ | refine z0b ?_ _)); refine z0N (cs := #[.int .i32 0, .int .u32 0, .int .u32 0]) ?_ 0 _ rfl; (with_reducible repeat (first | refine z0c ?_ _ | refine z0e ?_ | refine z0b ?_ _)); exact z8y.out⟩, ⟨zb⟩⟩
        subst c31
        have H1 : ((z1e.f l0_0 l0_1 ((z0R l0_1 x6_3).f1) ((z0R l0_1 x6_3).f2)).bind fun t227 => (z0f.j4 k3 x6_3 t227 l0_0 l0_1 ((z0R l0_1 x6_3).f0) ((z0R l0_1 x6_3).f1) ((z0R l0_1 x6_3).f2))) = some r := by rw [if_pos rfl] at H; exact H
        clear H
        have H := H1
        clear H1
        replace H := Option.bind_eq_some_iff.mp H
        obtain ⟨t227, A320, H⟩ := H
        replace H : (z0f.j4 k3 x6_3 t227 l0_0 l0_1 ((z0R l0_1 x6_3).f0) ((z0R l0_1 x6_3).f1) ((z0R l0_1 x6_3).f2)) = some r := H
        have A32 := z0a.mk A320
        clear A320
        have H' := z0a.mk H
        clear H
        have hnb33 := z5e.out
        have hnc33 := z2p.out
        obtain ⟨y0z, y2h, y2i, y0A, y2j, y2k⟩ := zc3 w27 z8y.out
        go_wp2_with (first | (go_at_call 116; (with_reducible refine (z1P.calls ((z0R l0_1 x6_3).f0) true _ A30.out).mono ?_); rintro e w' ⟨rfl, ⟨nd, rfl⟩⟩; (try first | exact ⟨rfl, _, World.drewN_drewN _ _ _⟩ | exact ⟨rfl, _, Eq.trans (World.drewN_drewN _ _ _) (congrArg (World.drewN _) (Nat.add_assoc _ _ _))⟩); obtain ⟨y0G, y0H, y0I, y0J⟩ := zc2 w27 z3w.out) | (go_at_call 117; (with_reducible refine (z1e.calls _ _ l0_0 _ _ l0_1 ((z0R l0_1 x6_3).f1) ((z0R l0_1 x6_3).f2) t227 _ ?z0M z1g.out ?z0Q z1j.out A32.out).mono ?_); (case z0M => exact Kd.z0t z2g.out zb); (case z0Q => exact Kd.z0t z2x.out zb); rintro e w36 ⟨rfl, hb⟩; replace z3w := z0a.mk (z0O (g := y3f) (o := .cells #[.slice z0U l0_0.length c0_0, .slice (some ad224) l0_1.length c0_1] 25 (0, 0)) (by (with_reducible repeat (first | refine z0c ?_ _ | refine z0e ?_ | refine z0b ?_ _)); refine z0n ?_ z2p.out _; (with_reducible repeat (first | refine z0c ?_ _ | refine z0e ?_ | refine z0b ?_ _)); refine z0n ?_ z2p.out _; (with_reducible repeat (first | refine z0c ?_ _ | refine z0e ?_ | refine z0b ?_ _)); refine z0n ?_ z2p.out _; (with_reducible repeat (first | refine z0c ?_ _ | refine z0e ?_ | refine z0b ?_ _)); exact z3w.out) hb); replace z8y := z0a.mk (z0O (g := y9m) (o := .cells #[.int .i32 ((z0R l0_1 x6_3).f0), .int .u32 ((z0R l0_1 x6_3).f1), .int .u32 ((z0R l0_1 x6_3).f2)] 145 (0, 0)) (by (with_reducible repeat (first | refine z0c ?_ _ | refine z0e ?_ | refine z0b ?_ _)); refine z0N (cs := #[.int .i32 ((z0R l0_1 x6_3).f0), .int .u32 ((z0R l0_1 x6_3).f1), .int .u32 0]) ?_ 2 _ rfl; (with_reducible repeat (first | refine z0c ?_ _ | refine z0e ?_ | refine z0b ?_ _)); refine z0N (cs := #[.int .i32 ((z0R l0_1 x6_3).f0), .int .u32 0, .int .u32 0]) ?_ 1 _ rfl; (with_reducible repeat (first | refine z0c ?_ _ | refine z0e ?_ | refine z0b ?_ _)); refine z0N (cs := #[.int .i32 0, .int .u32 0, .int .u32 0]) ?_ 0 _ rfl; (with_reducible repeat (first | refine z0c ?_ _ | refine z0e ?_ | refine z0b ?_ _)); exact z8y.out) hb); replace HB := zB HB hb; (try clear hb)))
        repeat (go_quiet (first | (go_at_call 116; (with_reducible refine (z1P.calls ((z0R l0_1 x6_3).f0) true _ A30.out).mono ?_); rintro e w' ⟨rfl, ⟨nd, rfl⟩⟩; (try first | exact ⟨rfl, _, World.drewN_drewN _ _ _⟩ | exact ⟨rfl, _, Eq.trans (World.drewN_drewN _ _ _) (congrArg (World.drewN _) (Nat.add_assoc _ _ _))⟩); obtain ⟨y0G, y0H, y0I, y0J⟩ := zc2 w27 z3w.out) | (go_at_call 117; (with_reducible refine (z1e.calls _ _ l0_0 _ _ l0_1 ((z0R l0_1 x6_3).f1) ((z0R l0_1 x6_3).f2) t227 _ ?z0M z1g.out ?z0Q z1j.out A32.out).mono ?_); (case z0M => exact Kd.z0t z2g.out zb); (case z0Q => exact Kd.z0t z2x.out zb); rintro e w36 ⟨rfl, hb⟩; replace z3w := z0a.mk (z0O (g := y3f) (o := .cells #[.slice z0U l0_0.length c0_0, .slice (some ad224) l0_1.length c0_1] 25 (0, 0)) (by (with_reducible repeat (first | refine z0c ?_ _ | refine z0e ?_ | refine z0b ?_ _)); refine z0n ?_ z2p.out _; (with_reducible repeat (first | refine z0c ?_ _ | refine z0e ?_ | refine z0b ?_ _)); refine z0n ?_ z2p.out _; (with_reducible repeat (first | refine z0c ?_ _ | refine z0e ?_ | refine z0b ?_ _)); refine z0n ?_ z2p.out _; (with_reducible repeat (first | refine z0c ?_ _ | refine z0e ?_ | refine z0b ?_ _)); exact z3w.out) hb); replace z8y := z0a.mk (z0O (g := y9m) (o := .cells #[.int .i32 ((z0R l0_1 x6_3).f0), .int .u32 ((z0R l0_1 x6_3).f1), .int .u32 ((z0R l0_1 x6_3).f2)] 145 (0, 0)) (by (with_reducible repeat (first | refine z0c ?_ _ | refine z0e ?_ | refine z0b ?_ _)); refine z0N (cs := #[.int .i32 ((z0R l0_1 x6_3).f0), .int .u32 ((z0R l0_1 x6_3).f1), .int .u32 0]) ?_ 2 _ rfl; (with_reducible repeat (first | refine z0c ?_ _ | refine z0e ?_ | refine z0b ?_ _)); refine z0N (cs := #[.int .i32 ((z0R l0_1 x6_3).f0), .int .u32 0, .int .u32 0]) ?_ 1 _ rfl; (with_reducible repeat (first | refine z0c ?_ _ | refine z0e ?_ | refine z0b ?_ _)); refine z0N (cs := #[.int .i32 0, .int .u32 0, .int .u32 0]) ?_ 0 _ rfl; (with_reducible repeat (first | refine z0c ?_ _ | refine z0e ?_ | refine z0b ?_ _)); exact z8y.out) hb); replace HB := zB HB hb; (try clear hb))); try go_wp2_with (first | (go_at_call 116; (with_reducible refine (z1P.calls ((z0R l0_1 x6_3).f0) true _ A30.out).mono ?_); rintro e w' ⟨rfl, ⟨nd, rfl⟩⟩; (try first | exact ⟨rfl, _, World.drewN_drewN _ _ _⟩ | exact ⟨rfl, _, Eq.trans (World.drewN_drewN _ _ _) (congrArg (World.drewN _) (Nat.add_assoc _ _ _))⟩); obtain ⟨y0G, y0H, y0I, y0J⟩ := zc2 w27 z3w.out) | (go_at_call 117; (with_reducible refine (z1e.calls _ _ l0_0 _ _ l0_1 ((z0R l0_1 x6_3).f1) ((z0R l0_1 x6_3).f2) t227 _ ?z0M z1g.out ?z0Q z1j.out A32.out).mono ?_); (case z0M => exact Kd.z0t z2g.out zb); (case z0Q => exact Kd.z0t z2x.out zb); rintro e w36 ⟨rfl, hb⟩; replace z3w := z0a.mk (z0O (g := y3f) (o := .cells #[.slice z0U l0_0.length c0_0, .slice (some ad224) l0_1.length c0_1] 25 (0, 0)) (by (with_reducible repeat (first | refine z0c ?_ _ | refine z0e ?_ | refine z0b ?_ _)); refine z0n ?_ z2p.out _; (with_reducible repeat (first | refine z0c ?_ _ | refine z0e ?_ | refine z0b ?_ _)); refine z0n ?_ z2p.out _; (with_reducible repeat (first | refine z0c ?_ _ | refine z0e ?_ | refine z0b ?_ _)); refine z0n ?_ z2p.out _; (with_reducible repeat (first | refine z0c ?_ _ | refine z0e ?_ | refine z0b ?_ _)); exact z3w.out) hb); replace z8y := z0a.mk (z0O (g := y9m) (o := .cells #[.int .i32 ((z0R l0_1 x6_3).f0), .int .u32 ((z0R l0_1 x6_3).f1), .int .u32 ((z0R l0_1 x6_3).f2)] 145 (0, 0)) (by (with_reducible repeat (first | refine z0c ?_ _ | refine z0e ?_ | refine z0b ?_ _)); refine z0N (cs := #[.int .i32 ((z0R l0_1 x6_3).f0), .int .u32 ((z0R l0_1 x6_3).f1), .int .u32 0]) ?_ 2 _ rfl; (with_reducible repeat (first | refine z0c ?_ _ | refine z0e ?_ | refine z0b ?_ _)); refine z0N (cs := #[.int .i32 ((z0R l0_1 x6_3).f0), .int .u32 0, .int .u32 0]) ?_ 1 _ rfl; (with_reducible repeat (first | refine z0c ?_ _ | refine z0e ?_ | refine z0b ?_ _)); refine z0N (cs := #[.int .i32 0, .int .u32 0, .int .u32 0]) ?_ 0 _ rfl; (with_reducible repeat (first | refine z0c ?_ _ | refine z0e ?_ | refine z0b ?_ _)); exact z8y.out) hb); replace HB := zB HB hb; (try clear hb))))
        go_meet
        case rel => exact ⟨_, (t227), ze, H', ⟨by have := HJ1.out; have := HK2.out; have := HK3.out; first | omega | exact Nat.le_refl _⟩, ⟨zk⟩, ⟨zk⟩, ⟨zb⟩⟩
       case rest =>
        clear HC25
        try clear c9
        try clear c10
        try clear c10b0
        try clear c23
        try clear c23b0
        try clear c24
        try clear c24b0
        try clear y5L
        try clear y5M
        try clear y5E
        try clear y5F
        try clear z9t
        try clear z9u
        try clear z9v
        try clear y5N
        try clear y5O
        try clear y5G
        try clear y5H
        try clear z9w
        try clear z9x
        try clear z9y
        try clear y6d
        try clear y6e
        try clear y6f
        try clear p224
        try clear q224
        obtain ⟨kq, x8_24, rfl, HA, HJ24, z3w, z8y, HB⟩ := hcut
        cases kq with
        | zero => exact absurd HA.out (by simp [z0f.j4])
        | succ kj24 =>
         have H := HA.out
         clear HA
         simp only [z0f.j4] at H
         have H' := z0a.mk H
         clear H
         go_wp2
         repeat (go_quiet (fail); try go_wp2)
         go_loopg [8, 9] kj24 (fun kq v8 v9 w' => ∃ (x8_5 : Bool) (x9_5 : Int), v8 = .bool x8_5 ∧ v9 = .int .i64 x9_5 ∧ z0a (z0f.l3 kq x6_3 x8_5 x9_5 l0_0 l0_1 ((z0R l0_1 x6_3).f0) ((z0R l0_1 x6_3).f1) ((z0R l0_1 x6_3).f2) = some r) ∧ z0a (kq ≤ kj24) ∧ z0a (w'.heap[y3f]? = some (.cells #[(.slice z0U l0_0.length c0_0), (.slice (some ad224) l0_1.length c0_1)] 25 (0, 0))) ∧ z0a (w'.heap[y9m]? = some (.cells #[.int .i32 ((z0R l0_1 x6_3).f0), .int .u32 ((z0R l0_1 x6_3).f1), .int .u32 ((z0R l0_1 x6_3).f2)] 145 (0, 0))) ∧ z0a (Below w.heap.size w w'))
         case atStart => exact ⟨(x8_24), (0), ze, ze, H', ⟨Nat.le_refl _⟩, ⟨zk⟩, ⟨zk⟩, ⟨zb⟩⟩
         case round =>
          clear H'
          try clear c9
          try clear c10
          try clear c10b0
          try clear c23
          try clear c23b0
          try clear c24
          try clear c24b0
          try clear y5L
          try clear y5M
          try clear y5E
          try clear y5F
          try clear z9t
          try clear z9u
          try clear z9v
          try clear y5N
          try clear y5O
          try clear y5G
          try clear y5H
          try clear z9w
          try clear z9x
          try clear z9y
          try clear y6d
          try clear y6e
          try clear y6f
          try clear p224
          try clear q224
          obtain ⟨x8_5, x9_5, rfl, rfl, HA, HK5, z3w, z8y, HB⟩ := hrel
          cases gk with
          | zero => exact absurd HA.out (by simp [z0f.l3])
          | succ k5 =>
           have H := HA.out
           clear HA
           simp only [z0f.l3] at H
           by_cases c39 : x9_5 < x6_3
           rotate_left
           ·rw [if_neg c39] at H
            have c39b0 : decide (x9_5 < x6_3) = false := decide_eq_false c39
            clear c39
            by_cases c46 : x8_5 = true
            rotate_left
            ·replace c46 := Bool.eq_false_iff.mpr c46
             subst c46
             have H1 : (some 7) = some r := by rw [if_neg (show ¬ (false = true) by decide)] at H; exact H
             clear H
             have H := H1
             clear H1
             obtain rfl := Option.some.inj H
             go_wp2
             repeat (go_quiet (fail); try go_wp2)
             go_ret
             exact ⟨zr, zb⟩
            subst c46
            have H1 : (z0f.l2 k5 (wrap64 (x6_3 + 1)) l0_0 l0_1) = some r := by rw [if_pos rfl] at H; exact H
            clear H
            have H := H1
            clear H1
            have H' := z0a.mk H
            clear H
            go_wp2
            repeat (go_quiet (fail); try go_wp2)
            go_roundg k5
            case measure => have := HJ1.out; have := HK2.out; have := HK3.out; have := HJ24.out; have := HK5.out; omega
            case rel => exact ⟨(wrap64 (x6_3 + 1)), ze, H', ⟨by have := HJ1.out; have := HK2.out; have := HK3.out; have := HJ24.out; have := HK5.out; omega⟩, ⟨zk⟩, ⟨zb⟩⟩
           rw [if_pos c39] at H
           have c39b0 : decide (x9_5 < x6_3) = true := decide_eq_true c39
           clear c39
           by_cases c40 : x8_5 = true
           rotate_left
           ·replace c40 := Bool.eq_false_iff.mpr c40
            subst c40
            have H1 : (z0f.l3 k5 x6_3 false (wrap64 (x9_5 + 1)) l0_0 l0_1 ((z0R l0_1 x6_3).f0) ((z0R l0_1 x6_3).f1) ((z0R l0_1 x6_3).f2)) = some r := by rw [if_neg (show ¬ (false = true) by decide)] at H; exact H
            clear H
            have H := H1
            clear H1
            have H' := z0a.mk H
            clear H
            go_wp2
            repeat (go_quiet (fail); try go_wp2)
            go_roundg k5
            case measure => have := HJ1.out; have := HK2.out; have := HK3.out; have := HJ24.out; have := HK5.out; omega
            case rel => exact ⟨(false), (wrap64 (x9_5 + 1)), ze, ze, H', ⟨by have := HJ1.out; have := HK2.out; have := HK3.out; have := HJ24.out; have := HK5.out; omega⟩, ⟨zk⟩, ⟨zk⟩, ⟨zb⟩⟩
           subst c40
           have H1 : (if 0 ≤ x9_5 then (if x9_5 < (l0_1.length : Int) then (z0f.l3 k5 x6_3 (((z0R l0_1 x9_5).f0) != ((z0R l0_1 x6_3).f0)) (wrap64 (x9_5 + 1)) l0_0 l0_1 ((z0R l0_1 x6_3).f0) ((z0R l0_1 x6_3).f1) ((z0R l0_1 x6_3).f2)) else (none)) else (none)) = some r := by rw [if_pos rfl] at H; exact H
           clear H
           have H := H1
           clear H1
           by_cases c41 : 0 ≤ x9_5
           rotate_left
           ·rw [if_neg c41] at H
            exact absurd H (by simp)
           rw [if_pos c41] at H
           have c41b0 : decide (0 ≤ x9_5) = true := decide_eq_true c41
           clear c41
           by_cases c42 : x9_5 < (l0_1.length : Int)
           rotate_left
           ·rw [if_neg c42] at H
            exact absurd H (by simp)
           rw [if_pos c42] at H
           have c42b0 : decide (x9_5 < (l0_1.length : Int)) = true := decide_eq_true c42
           clear c42
           have H' := z0a.mk H
           clear H
           have hnb43 := z2p.out
           have hnc43 := z5e.out
           obtain ⟨x3r, x3s, x3t, x3u⟩ := zc2 wr z3w.out
           have p228 : 0 ≤ (x9_5 : Int) := za
           have q228 : x9_5 < (l0_1.length : Int) := za
           obtain ⟨ad228, e228, x4F, x4G, x4H⟩ := z9k z2x.out x9_5 p228 q228
           obtain rfl : ad224 = ad228 := (by injection e228)
           replace x4F := zx HB x4F
           replace x4G := zx HB x4G
           replace x4H := zx HB x4H
           replace p228 := eq_true p228
           replace q228 := eq_true q228
           obtain ⟨x2G, x2H, x2I, x2J, x2K, x2L⟩ := zc3 wr z8y.out
           go_wp2
           repeat (go_quiet (fail); try go_wp2)
           go_roundg k5
           case measure => have := HJ1.out; have := HK2.out; have := HK3.out; have := HJ24.out; have := HK5.out; omega
           case rel => exact ⟨((((z0R l0_1 x9_5).f0) != ((z0R l0_1 x6_3).f0))), (wrap64 (x9_5 + 1)), ze, ze, H', ⟨by have := HJ1.out; have := HK2.out; have := HK3.out; have := HJ24.out; have := HK5.out; omega⟩, ⟨zk⟩, ⟨zk⟩, ⟨zb⟩⟩
def z0x.l0 : Nat → ByteArray → Int → Option (Bool)
 | 0, _, _ => none
 | k + 1, x0, x3 => if x3 < (x0.size : Int) then (if 0 ≤ x3 then (if (bt x0 x3) < 97 then (if (bt x0 x3) < 48 then (if (bt x0 x3) = 45 then (z0x.l0 k x0 (wrap64 (x3 + 1))) else (some false)) else (if (bt x0 x3) > 57 then (if (bt x0 x3) = 45 then (z0x.l0 k x0 (wrap64 (x3 + 1))) else (some false)) else (z0x.l0 k x0 (wrap64 (x3 + 1))))) else (if (bt x0 x3) > 122 then (if (bt x0 x3) < 48 then (if (bt x0 x3) = 45 then (z0x.l0 k x0 (wrap64 (x3 + 1))) else (some false)) else (if (bt x0 x3) > 57 then (if (bt x0 x3) = 45 then (z0x.l0 k x0 (wrap64 (x3 + 1))) else (some false)) else (z0x.l0 k x0 (wrap64 (x3 + 1))))) else (z0x.l0 k x0 (wrap64 (x3 + 1))))) else (none)) else (if (x0.size : Int) ≥ 1 then (some (decide ((x0.size : Int) ≤ 32))) else (some false))
def z0x.f (k : Nat) (a0 : ByteArray) : Option (Bool) := z0x.l0 k a0 0
theorem z0x.z1t : ∀ k, (∀ y0 y1, LeO (z0x.l0 k y0 y1) (z0x.l0 (k + 1) y0 y1))
 | 0 => fun _ _ r h => by simp [z0x.l0] at h
 | k + 1 => by
  have ih0 := z0x.z1t k
  ·intro y0 y1
   unfold z0x.l0
   repeat' first
   | (with_reducible exact ih0 _ _)
   | (with_reducible exact LeO.refl _)
   | (with_reducible exact LeO.none _)
   | (with_reducible refine LeO.ite ?_ ?_)
   | (with_reducible refine LeO.bind ?_ (fun _ => ?_))
theorem z0x.mono : ∀ a0 k, LeO (z0x.f k a0) (z0x.f (k + 1) a0) := by
 intro a0 k
 have ih0 := z0x.z1t k
 unfold z0x.f
 repeat' first
   | (with_reducible exact ih0 _ _)
   | (with_reducible exact LeO.refl _)
   | (with_reducible exact LeO.none _)
   | (with_reducible refine LeO.ite ?_ ?_)
   | (with_reducible refine LeO.bind ?_ (fun _ => ?_))
set_option maxHeartbeats 8000000 in
set_option maxRecDepth 100000 in
theorem z0x.calls (k : Nat) (a0 : ByteArray) (r : Bool) (w : World) (h : z0x.f k a0 = some r) :
  Calls Tryz.prog 82 #[.string a0] w fun e w' => e = .returned (.bool r) ∧ z1v w w' := by
 have H : (z0x.l0 k a0 0) = some r := h
 clear h
 have H' := z0a.mk H
 clear H
 go_enter Tryz.func82, Tryz.ntmps82
 go_wp2
 go_loopg [3] k (fun kq v3 w' => ∃ (x3_1 : Int), v3 = .int .i64 x3_1 ∧ z0a (z0x.l0 kq a0 x3_1 = some r) ∧ z0a (kq ≤ k) ∧ z1v w w')
 case atStart => exact ⟨(0), ze, H', ⟨Nat.le_refl _⟩, by repeat (first | exact z1v.refl _ | apply z1v.step)⟩
 case round =>
  clear H'
  obtain ⟨x3_1, rfl, HA, HK1, ⟨m1, rfl⟩⟩ := hrel
  cases gk with
  | zero => exact absurd HA.out (by simp [z0x.l0])
  | succ k1 =>
   have H := HA.out
   clear HA
   simp only [z0x.l0] at H
   by_cases c2 : x3_1 < (a0.size : Int)
   rotate_left
   ·rw [if_neg c2] at H
    have c2b0 : decide (x3_1 < (a0.size : Int)) = false := decide_eq_false c2
    clear c2
    by_cases c15 : (a0.size : Int) ≥ 1
    ·rw [if_pos c15] at H
     have c15b0 : decide (1 ≤ (a0.size : Int)) = true := decide_eq_true c15
     have c15b1 : decide (1 ≤ a0.size) = true := decide_eq_true (by omega)
     clear c15
     obtain rfl := Option.some.inj H
     go_wp2
     go_ret
     exact ⟨ze, zd⟩
    rw [if_neg c15] at H
    have c15b0 : decide (1 ≤ (a0.size : Int)) = false := decide_eq_false c15
    have c15b1 : decide (1 ≤ a0.size) = false := decide_eq_false (by omega)
    clear c15
    obtain rfl := Option.some.inj H
    go_wp2
    go_ret
    exact ⟨ze, zd⟩
   rw [if_pos c2] at H
   have c2b0 : decide (x3_1 < (a0.size : Int)) = true := decide_eq_true c2
   clear c2
   by_cases c3 : 0 ≤ x3_1
   rotate_left
   ·rw [if_neg c3] at H
    exact absurd H (by simp)
   rw [if_pos c3] at H
   have c3b0 : decide (0 ≤ x3_1) = true := decide_eq_true c3
   clear c3
   by_cases c5 : (bt a0 x3_1) < 97
   ·rw [if_pos c5] at H
    have c5b0 : decide ((bt a0 x3_1) < 97) = true := decide_eq_true c5
    clear c5
    by_cases c6 : (bt a0 x3_1) < 48
    ·rw [if_pos c6] at H
     have c6b0 : decide ((bt a0 x3_1) < 48) = true := decide_eq_true c6
     clear c6
     by_cases c7 : (bt a0 x3_1) = 45
     rotate_left
     ·rw [if_neg c7] at H
      have c7b0 : ((bt a0 x3_1) == 45) = false := beq_eq_false_iff_ne.mpr c7
      have c7b1 : ((bt a0 x3_1) != 45) = true := bne_iff_ne.mpr c7
      obtain rfl := Option.some.inj H
      have p4 : 0 ≤ (x3_1 : Int) := za
      have q4 : x3_1 < (a0.size : Int) := za
      have hx4 := z7T a0 x3_1
      replace p4 := eq_true p4
      replace q4 := eq_true q4
      go_wp2
      go_ret
      exact ⟨ze, zd⟩
     rw [if_pos c7] at H
     have c7b0 : ((bt a0 x3_1) == 45) = true := beq_iff_eq.mpr c7
     have c7b1 : ((bt a0 x3_1) != 45) = false := bne_eq_false_iff_eq.mpr c7
     clear c7
     have H' := z0a.mk H
     clear H
     have p4 : 0 ≤ (x3_1 : Int) := za
     have q4 : x3_1 < (a0.size : Int) := za
     have hx4 := z7T a0 x3_1
     replace p4 := eq_true p4
     replace q4 := eq_true q4
     go_wp2
     go_roundg k1
     case measure => have := HK1.out; omega
     case rel => exact ⟨(wrap64 (x3_1 + 1)), ze, H', ⟨by have := HK1.out; omega⟩, by repeat (first | exact z1v.refl _ | apply z1v.step)⟩
    rw [if_neg c6] at H
    have c6b0 : decide ((bt a0 x3_1) < 48) = false := decide_eq_false c6
    clear c6
    by_cases c8 : (bt a0 x3_1) > 57
    rotate_left
    ·rw [if_neg c8] at H
     have c8b0 : decide (57 < (bt a0 x3_1)) = false := decide_eq_false c8
     clear c8
     have H' := z0a.mk H
     clear H
     have p4 : 0 ≤ (x3_1 : Int) := za
     have q4 : x3_1 < (a0.size : Int) := za
     have hx4 := z7T a0 x3_1
     replace p4 := eq_true p4
     replace q4 := eq_true q4
     go_wp2
     go_roundg k1
     case measure => have := HK1.out; omega
     case rel => exact ⟨(wrap64 (x3_1 + 1)), ze, H', ⟨by have := HK1.out; omega⟩, by repeat (first | exact z1v.refl _ | apply z1v.step)⟩
    rw [if_pos c8] at H
    have c8b0 : decide (57 < (bt a0 x3_1)) = true := decide_eq_true c8
    clear c8
    by_cases c9 : (bt a0 x3_1) = 45
    rotate_left
    ·rw [if_neg c9] at H
     have c9b0 : ((bt a0 x3_1) == 45) = false := beq_eq_false_iff_ne.mpr c9
     have c9b1 : ((bt a0 x3_1) != 45) = true := bne_iff_ne.mpr c9
     obtain rfl := Option.some.inj H
     have p4 : 0 ≤ (x3_1 : Int) := za
     have q4 : x3_1 < (a0.size : Int) := za
     have hx4 := z7T a0 x3_1
     replace p4 := eq_true p4
     replace q4 := eq_true q4
     go_wp2
     go_ret
     exact ⟨ze, zd⟩
    rw [if_pos c9] at H
    have c9b0 : ((bt a0 x3_1) == 45) = true := beq_iff_eq.mpr c9
    have c9b1 : ((bt a0 x3_1) != 45) = false := bne_eq_false_iff_eq.mpr c9
    clear c9
    have H' := z0a.mk H
    clear H
    have p4 : 0 ≤ (x3_1 : Int) := za
    have q4 : x3_1 < (a0.size : Int) := za
    have hx4 := z7T a0 x3_1
    replace p4 := eq_true p4
    replace q4 := eq_true q4
    go_wp2
    go_roundg k1
    case measure => have := HK1.out; omega
    case rel => exact ⟨(wrap64 (x3_1 + 1)), ze, H', ⟨by have := HK1.out; omega⟩, by repeat (first | exact z1v.refl _ | apply z1v.step)⟩
   rw [if_neg c5] at H
   have c5b0 : decide ((bt a0 x3_1) < 97) = false := decide_eq_false c5
   clear c5
   by_cases c10 : (bt a0 x3_1) > 122
   rotate_left
   ·rw [if_neg c10] at H
    have c10b0 : decide (122 < (bt a0 x3_1)) = false := decide_eq_false c10
    clear c10
    have H' := z0a.mk H
    clear H
    have p4 : 0 ≤ (x3_1 : Int) := za
    have q4 : x3_1 < (a0.size : Int) := za
    have hx4 := z7T a0 x3_1
    replace p4 := eq_true p4
    replace q4 := eq_true q4
    go_wp2
    go_roundg k1
    case measure => have := HK1.out; omega
    case rel => exact ⟨(wrap64 (x3_1 + 1)), ze, H', ⟨by have := HK1.out; omega⟩, by repeat (first | exact z1v.refl _ | apply z1v.step)⟩
   rw [if_pos c10] at H
   have c10b0 : decide (122 < (bt a0 x3_1)) = true := decide_eq_true c10
   clear c10
   by_cases c11 : (bt a0 x3_1) < 48
   ·rw [if_pos c11] at H
    have c11b0 : decide ((bt a0 x3_1) < 48) = true := decide_eq_true c11
    clear c11
    by_cases c12 : (bt a0 x3_1) = 45
    rotate_left
    ·rw [if_neg c12] at H
     have c12b0 : ((bt a0 x3_1) == 45) = false := beq_eq_false_iff_ne.mpr c12
     have c12b1 : ((bt a0 x3_1) != 45) = true := bne_iff_ne.mpr c12
     obtain rfl := Option.some.inj H
     have p4 : 0 ≤ (x3_1 : Int) := za
     have q4 : x3_1 < (a0.size : Int) := za
     have hx4 := z7T a0 x3_1
     replace p4 := eq_true p4
     replace q4 := eq_true q4
     go_wp2
     go_ret
     exact ⟨ze, zd⟩
    rw [if_pos c12] at H
    have c12b0 : ((bt a0 x3_1) == 45) = true := beq_iff_eq.mpr c12
    have c12b1 : ((bt a0 x3_1) != 45) = false := bne_eq_false_iff_eq.mpr c12
    clear c12
    have H' := z0a.mk H
    clear H
    have p4 : 0 ≤ (x3_1 : Int) := za
    have q4 : x3_1 < (a0.size : Int) := za
    have hx4 := z7T a0 x3_1
    replace p4 := eq_true p4
    replace q4 := eq_true q4
    go_wp2
    go_roundg k1
    case measure => have := HK1.out; omega
    case rel => exact ⟨(wrap64 (x3_1 + 1)), ze, H', ⟨by have := HK1.out; omega⟩, by repeat (first | exact z1v.refl _ | apply z1v.step)⟩
   rw [if_neg c11] at H
   have c11b0 : decide ((bt a0 x3_1) < 48) = false := decide_eq_false c11
   clear c11
   by_cases c13 : (bt a0 x3_1) > 57
   rotate_left
   ·rw [if_neg c13] at H
    have c13b0 : decide (57 < (bt a0 x3_1)) = false := decide_eq_false c13
    clear c13
    have H' := z0a.mk H
    clear H
    have p4 : 0 ≤ (x3_1 : Int) := za
    have q4 : x3_1 < (a0.size : Int) := za
    have hx4 := z7T a0 x3_1
    replace p4 := eq_true p4
    replace q4 := eq_true q4
    go_wp2
    go_roundg k1
    case measure => have := HK1.out; omega
    case rel => exact ⟨(wrap64 (x3_1 + 1)), ze, H', ⟨by have := HK1.out; omega⟩, by repeat (first | exact z1v.refl _ | apply z1v.step)⟩
   rw [if_pos c13] at H
   have c13b0 : decide (57 < (bt a0 x3_1)) = true := decide_eq_true c13
   clear c13
   by_cases c14 : (bt a0 x3_1) = 45
   rotate_left
   ·rw [if_neg c14] at H
    have c14b0 : ((bt a0 x3_1) == 45) = false := beq_eq_false_iff_ne.mpr c14
    have c14b1 : ((bt a0 x3_1) != 45) = true := bne_iff_ne.mpr c14
    obtain rfl := Option.some.inj H
    have p4 : 0 ≤ (x3_1 : Int) := za
    have q4 : x3_1 < (a0.size : Int) := za
    have hx4 := z7T a0 x3_1
    replace p4 := eq_true p4
    replace q4 := eq_true q4
    go_wp2
    go_ret
    exact ⟨ze, zd⟩
   rw [if_pos c14] at H
   have c14b0 : ((bt a0 x3_1) == 45) = true := beq_iff_eq.mpr c14
   have c14b1 : ((bt a0 x3_1) != 45) = false := bne_eq_false_iff_eq.mpr c14
   clear c14
   have H' := z0a.mk H
   clear H
   have p4 : 0 ≤ (x3_1 : Int) := za
   have q4 : x3_1 < (a0.size : Int) := za
   have hx4 := z7T a0 x3_1
   replace p4 := eq_true p4
   replace q4 := eq_true q4
   go_wp2
   go_roundg k1
   case measure => have := HK1.out; omega
   case rel => exact ⟨(wrap64 (x3_1 + 1)), ze, H', ⟨by have := HK1.out; omega⟩, by repeat (first | exact z1v.refl _ | apply z1v.step)⟩
def z2E.f (a0 : Int) : Option (Bool) := if a0 ≥ 97 then (if a0 ≤ 122 then (some true) else (if a0 ≥ 48 then (if a0 ≤ 57 then (some true) else (some (a0 == 45))) else (some (a0 == 45)))) else (if a0 ≥ 48 then (if a0 ≤ 57 then (some true) else (some (a0 == 45))) else (some (a0 == 45)))
set_option maxHeartbeats 8000000 in
set_option maxRecDepth 100000 in
theorem z2E.calls (a0 : Int) (r : Bool) (w : World) (h : z2E.f a0 = some r) :
  Calls Tryz.prog 212 #[.int .u8 a0] w fun e w' => e = .returned (.bool r) ∧ z1v w w' := by
 have H : (if a0 ≥ 97 then (if a0 ≤ 122 then (some true) else (if a0 ≥ 48 then (if a0 ≤ 57 then (some true) else (some (a0 == 45))) else (some (a0 == 45)))) else (if a0 ≥ 48 then (if a0 ≤ 57 then (some true) else (some (a0 == 45))) else (some (a0 == 45)))) = some r := h
 clear h
 by_cases c2 : a0 ≥ 97
 rotate_left
 ·rw [if_neg c2] at H
  have c2b0 : decide (97 ≤ a0) = false := decide_eq_false c2
  clear c2
  by_cases c6 : a0 ≥ 48
  rotate_left
  ·rw [if_neg c6] at H
   have c6b0 : decide (48 ≤ a0) = false := decide_eq_false c6
   clear c6
   obtain rfl := Option.some.inj H
   go_enter Tryz.func212, Tryz.ntmps212
   go_wp2
   go_ret
   exact ⟨ze, zd⟩
  rw [if_pos c6] at H
  have c6b0 : decide (48 ≤ a0) = true := decide_eq_true c6
  clear c6
  by_cases c7 : a0 ≤ 57
  ·rw [if_pos c7] at H
   have c7b0 : decide (a0 ≤ 57) = true := decide_eq_true c7
   clear c7
   obtain rfl := Option.some.inj H
   go_enter Tryz.func212, Tryz.ntmps212
   go_wp2
   go_ret
   exact ⟨ze, zd⟩
  rw [if_neg c7] at H
  have c7b0 : decide (a0 ≤ 57) = false := decide_eq_false c7
  clear c7
  obtain rfl := Option.some.inj H
  go_enter Tryz.func212, Tryz.ntmps212
  go_wp2
  go_ret
  exact ⟨ze, zd⟩
 rw [if_pos c2] at H
 have c2b0 : decide (97 ≤ a0) = true := decide_eq_true c2
 clear c2
 by_cases c3 : a0 ≤ 122
 ·rw [if_pos c3] at H
  have c3b0 : decide (a0 ≤ 122) = true := decide_eq_true c3
  clear c3
  obtain rfl := Option.some.inj H
  go_enter Tryz.func212, Tryz.ntmps212
  go_wp2
  go_ret
  exact ⟨ze, zd⟩
 rw [if_neg c3] at H
 have c3b0 : decide (a0 ≤ 122) = false := decide_eq_false c3
 clear c3
 by_cases c4 : a0 ≥ 48
 rotate_left
 ·rw [if_neg c4] at H
  have c4b0 : decide (48 ≤ a0) = false := decide_eq_false c4
  clear c4
  obtain rfl := Option.some.inj H
  go_enter Tryz.func212, Tryz.ntmps212
  go_wp2
  go_ret
  exact ⟨ze, zd⟩
 rw [if_pos c4] at H
 have c4b0 : decide (48 ≤ a0) = true := decide_eq_true c4
 clear c4
 by_cases c5 : a0 ≤ 57
 ·rw [if_pos c5] at H
  have c5b0 : decide (a0 ≤ 57) = true := decide_eq_true c5
  clear c5
  obtain rfl := Option.some.inj H
  go_enter Tryz.func212, Tryz.ntmps212
  go_wp2
  go_ret
  exact ⟨ze, zd⟩
 rw [if_neg c5] at H
 have c5b0 : decide (a0 ≤ 57) = false := decide_eq_false c5
 clear c5
 obtain rfl := Option.some.inj H
 go_enter Tryz.func212, Tryz.ntmps212
 go_wp2
 go_ret
 exact ⟨ze, zd⟩
def z0F.l0 : Nat → ByteArray → Int → Option (Bool)
 | 0, _, _ => none
 | k + 1, x0, x3 => if x3 < (x0.size : Int) then (if 0 ≤ x3 then ((z2E.f (bt x0 x3)).bind fun t229 => (if t229 = true then (z0F.l0 k x0 (wrap64 (x3 + 1))) else (some false))) else (none)) else (some (decide ((x0.size : Int) ≤ 32)))
def z0F.f (k : Nat) (a0 : ByteArray) : Option (Bool) := z0F.l0 k a0 0
theorem z0F.z1t : ∀ k, (∀ y0 y1, LeO (z0F.l0 k y0 y1) (z0F.l0 (k + 1) y0 y1))
 | 0 => fun _ _ r h => by simp [z0F.l0] at h
 | k + 1 => by
  have ih0 := z0F.z1t k
  ·intro y0 y1
   unfold z0F.l0
   repeat' first
   | (with_reducible exact ih0 _ _)
   | (with_reducible exact LeO.refl _)
   | (with_reducible exact LeO.none _)
   | (with_reducible refine LeO.ite ?_ ?_)
   | (with_reducible refine LeO.bind ?_ (fun _ => ?_))
theorem z0F.mono : ∀ a0 k, LeO (z0F.f k a0) (z0F.f (k + 1) a0) := by
 intro a0 k
 have ih0 := z0F.z1t k
 unfold z0F.f
 repeat' first
   | (with_reducible exact ih0 _ _)
   | (with_reducible exact LeO.refl _)
   | (with_reducible exact LeO.none _)
   | (with_reducible refine LeO.ite ?_ ?_)
   | (with_reducible refine LeO.bind ?_ (fun _ => ?_))
set_option maxHeartbeats 8000000 in
set_option maxRecDepth 100000 in
theorem z0F.calls (k : Nat) (a0 : ByteArray) (r : Bool) (w : World) (h : z0F.f k a0 = some r) :
  Calls Tryz.prog 176 #[.string a0] w fun e w' => e = .returned (.bool r) ∧ z1v w w' := by
 have H : (z0F.l0 k a0 0) = some r := h
 clear h
 have H' := z0a.mk H
 clear H
 go_enter Tryz.func176, Tryz.ntmps176
 go_wp2
 go_loopg [3] k (fun kq v3 w' => ∃ (x3_1 : Int), v3 = .int .i64 x3_1 ∧ z0a (z0F.l0 kq a0 x3_1 = some r) ∧ z0a (kq ≤ k) ∧ z1v w w')
 case atStart => exact ⟨(0), ze, H', ⟨Nat.le_refl _⟩, by repeat (first | exact z1v.refl _ | apply z1v.step)⟩
 case round =>
  clear H'
  obtain ⟨x3_1, rfl, HA, HK1, ⟨m1, rfl⟩⟩ := hrel
  cases gk with
  | zero => exact absurd HA.out (by simp [z0F.l0])
  | succ k1 =>
   have H := HA.out
   clear HA
   simp only [z0F.l0] at H
   by_cases c2 : x3_1 < (a0.size : Int)
   rotate_left
   ·rw [if_neg c2] at H
    have c2b0 : decide (x3_1 < (a0.size : Int)) = false := decide_eq_false c2
    clear c2
    obtain rfl := Option.some.inj H
    go_wp2
    go_ret
    exact ⟨ze, zd⟩
   rw [if_pos c2] at H
   have c2b0 : decide (x3_1 < (a0.size : Int)) = true := decide_eq_true c2
   clear c2
   by_cases c3 : 0 ≤ x3_1
   rotate_left
   ·rw [if_neg c3] at H
    exact absurd H (by simp)
   rw [if_pos c3] at H
   have c3b0 : decide (0 ≤ x3_1) = true := decide_eq_true c3
   clear c3
   replace H := Option.bind_eq_some_iff.mp H
   obtain ⟨t229, A50, H⟩ := H
   replace H : (if t229 = true then (z0F.l0 k1 a0 (wrap64 (x3_1 + 1))) else (some false)) = some r := H
   have A5 := z0a.mk A50
   clear A50
   by_cases c6 : t229 = true
   rotate_left
   ·replace c6 := Bool.eq_false_iff.mpr c6
    subst c6
    have H1 : (some false) = some r := by rw [if_neg (show ¬ (false = true) by decide)] at H; exact H
    clear H
    have H := H1
    clear H1
    obtain rfl := Option.some.inj H
    have p4 : 0 ≤ (x3_1 : Int) := za
    have q4 : x3_1 < (a0.size : Int) := za
    have hx4 := z7T a0 x3_1
    replace p4 := eq_true p4
    replace q4 := eq_true q4
    go_wp2_with (first | ((with_reducible refine z0m (f := 212) rfl ?_); refine z1a (some 13) rfl rfl Tryz.func212 (by kernel_rfl) rfl #[.int .u8 (bt a0 x3_1)] rfl zq ?_; (with_reducible refine (z2E.calls (bt a0 x3_1) false _ A5.out).mono ?_); rintro e w' ⟨rfl, ⟨nd, rfl⟩⟩; refine ⟨_, rfl, ?_⟩))
    go_ret
    exact ⟨ze, zd⟩
   subst c6
   have H1 : (z0F.l0 k1 a0 (wrap64 (x3_1 + 1))) = some r := by rw [if_pos rfl] at H; exact H
   clear H
   have H := H1
   clear H1
   have H' := z0a.mk H
   clear H
   have p4 : 0 ≤ (x3_1 : Int) := za
   have q4 : x3_1 < (a0.size : Int) := za
   have hx4 := z7T a0 x3_1
   replace p4 := eq_true p4
   replace q4 := eq_true q4
   go_wp2_with (first | ((with_reducible refine z0m (f := 212) rfl ?_); refine z1a (some 13) rfl rfl Tryz.func212 (by kernel_rfl) rfl #[.int .u8 (bt a0 x3_1)] rfl zq ?_; (with_reducible refine (z2E.calls (bt a0 x3_1) true _ A5.out).mono ?_); rintro e w' ⟨rfl, ⟨nd, rfl⟩⟩; refine ⟨_, rfl, ?_⟩))
   go_roundg k1
   case measure => have := HK1.out; omega
   case rel => exact ⟨(wrap64 (x3_1 + 1)), ze, H', ⟨by have := HK1.out; omega⟩, by repeat (first | exact z1v.refl _ | apply z1v.step)⟩
def z0G.l0 : Nat → Int → Int → List ByteArray → List (z1J) → Option (Int)
 | 0, _, _, _, _ => none
 | k + 1, x1, x5, w0D, y9n => if x5 < (y9n.length : Int) then (if 0 ≤ x5 then (if ((z0R y9n x5).f0) = x1 then (some x5) else (z0G.l0 k x1 (wrap64 (x5 + 1)) w0D y9n)) else (none)) else (some (-1))
def z0G.f (k : Nat) (l0_0 : List ByteArray) (l0_1 : List (z1J)) (a1 : Int) : Option (Int) := z0G.l0 k a1 0 l0_0 l0_1
theorem z0G.z1t : ∀ k, (∀ y0 y1 y2 y3, LeO (z0G.l0 k y0 y1 y2 y3) (z0G.l0 (k + 1) y0 y1 y2 y3))
 | 0 => fun _ _ _ _ r h => by simp [z0G.l0] at h
 | k + 1 => by
  have ih0 := z0G.z1t k
  ·intro y0 y1 y2 y3
   unfold z0G.l0
   repeat' first
   | (with_reducible exact ih0 _ _ _ _)
   | (with_reducible exact LeO.refl _)
   | (with_reducible exact LeO.none _)
   | (with_reducible refine LeO.ite ?_ ?_)
   | (with_reducible refine LeO.bind ?_ (fun _ => ?_))
theorem z0G.mono : ∀ a0 a1 a2 k, LeO (z0G.f k a0 a1 a2) (z0G.f (k + 1) a0 a1 a2) := by
 intro a0 a1 a2 k
 have ih0 := z0G.z1t k
 unfold z0G.f
 repeat' first
   | (with_reducible exact ih0 _ _ _ _)
   | (with_reducible exact LeO.refl _)
   | (with_reducible exact LeO.none _)
   | (with_reducible refine LeO.ite ?_ ?_)
   | (with_reducible refine LeO.bind ?_ (fun _ => ?_))
set_option maxHeartbeats 8000000 in
set_option maxRecDepth 100000 in
theorem z0G.calls (k : Nat) (z0U : Option Addr) (c0_0 : Nat) (l0_0 : List ByteArray) (z0X : Option Addr) (c0_1 : Nat) (l0_1 : List (z1J)) (a1 : Int) (r : Int) (w : World) (hr0_0 : Kd.C Kd.string w z0U l0_0.length l0_0) (hc0_0 : l0_0.length ≤ c0_0) (hr0_1 : Kd.C z5a w z0X l0_1.length l0_1) (hc0_1 : l0_1.length ≤ c0_1) (h : z0G.f k l0_0 l0_1 a1 = some r) :
  Calls Tryz.prog 107 #[.agg #[.slice z0U l0_0.length c0_0, .slice z0X l0_1.length c0_1], .int .i32 a1] w fun e w' => e = .returned (.int .i64 r) ∧ Below w.heap.size w w' := by
 have hu25 := Tryz.underlying25
 have z2g := z0a.mk hr0_0
 have z1g := z0a.mk hc0_0
 clear hr0_0 hc0_0
 have z2x := z0a.mk hr0_1
 have z1j := z0a.mk hc0_1
 clear hr0_1 hc0_1
 have HB := z0a.mk (Below.refl w.heap.size w)
 have H : (z0G.l0 k a1 0 l0_0 l0_1) = some r := h
 clear h
 have H' := z0a.mk H
 clear H
 go_enter Tryz.func107, Tryz.ntmps107
 go_wp2_with (first | ((with_reducible refine z0o (N := 2) rfl ?_); refine zo (cs := #[.slice z0U l0_0.length c0_0, .slice z0X l0_1.length c0_1]) (t := 25) ?_; intro gb230 hg w3 hbox hb; have x7c := z0a.mk hbox; have GW230 := zG HB hg; have GE230 := zG HB hg; replace HB := zB HB hb; clear hb hbox hg))
 go_loopg [5] k (fun kq v5 w' => ∃ (x5_1 : Int), v5 = .int .i64 x5_1 ∧ z0a (z0G.l0 kq a1 x5_1 l0_0 l0_1 = some r) ∧ z0a (kq ≤ k) ∧ z0a (w'.heap[gb230]? = some (.cells #[(.slice z0U l0_0.length c0_0), (.slice z0X l0_1.length c0_1)] 25 (0, 0))) ∧ z0a (Below w.heap.size w w'))
 case atStart => exact ⟨(0), ze, H', ⟨Nat.le_refl _⟩, ⟨zk⟩, ⟨zb⟩⟩
 case round =>
  clear H'
  obtain ⟨x5_1, rfl, HA, HK1, x7c, HB⟩ := hrel
  cases gk with
  | zero => exact absurd HA.out (by simp [z0G.l0])
  | succ k1 =>
   have H := HA.out
   clear HA
   simp only [z0G.l0] at H
   by_cases c4 : x5_1 < (l0_1.length : Int)
   rotate_left
   ·rw [if_neg c4] at H
    have c4b0 : decide (x5_1 < (l0_1.length : Int)) = false := decide_eq_false c4
    clear c4
    obtain rfl := Option.some.inj H
    obtain ⟨z5l, z5m, z5n, z5o⟩ := zc2 wr x7c.out
    go_wp2
    go_ret
    exact ⟨zr, zb⟩
   rw [if_pos c4] at H
   have c4b0 : decide (x5_1 < (l0_1.length : Int)) = true := decide_eq_true c4
   clear c4
   by_cases c5 : 0 ≤ x5_1
   rotate_left
   ·rw [if_neg c5] at H
    exact absurd H (by simp)
   rw [if_pos c5] at H
   have c5b0 : decide (0 ≤ x5_1) = true := decide_eq_true c5
   clear c5
   by_cases c6 : ((z0R l0_1 x5_1).f0) = a1
   ·rw [if_pos c6] at H
    have c6b0 : (((z0R l0_1 x5_1).f0) == a1) = true := beq_iff_eq.mpr c6
    have c6b1 : (((z0R l0_1 x5_1).f0) != a1) = false := bne_eq_false_iff_eq.mpr c6
    clear c6
    obtain rfl := Option.some.inj H
    obtain ⟨z4b, z4c, z4d, z4e⟩ := zc2 wr x7c.out
    have p231 : 0 ≤ (x5_1 : Int) := za
    have q231 : x5_1 < (l0_1.length : Int) := za
    obtain ⟨ad231, e231, y3g, y3h, y3i⟩ := z9k z2x.out x5_1 p231 q231
    cases e231
    replace y3g := zx HB y3g
    replace y3h := zx HB y3h
    replace y3i := zx HB y3i
    replace p231 := eq_true p231
    replace q231 := eq_true q231
    go_wp2
    go_ret
    exact ⟨zr, zb⟩
   rw [if_neg c6] at H
   have c6b0 : (((z0R l0_1 x5_1).f0) == a1) = false := beq_eq_false_iff_ne.mpr c6
   have c6b1 : (((z0R l0_1 x5_1).f0) != a1) = true := bne_iff_ne.mpr c6
   have H' := z0a.mk H
   clear H
   obtain ⟨y1c, y4A, y1d, y4B⟩ := zc2 wr x7c.out
   have p231 : 0 ≤ (x5_1 : Int) := za
   have q231 : x5_1 < (l0_1.length : Int) := za
   obtain ⟨ad231, e231, y3g, y3h, y3i⟩ := z9k z2x.out x5_1 p231 q231
   cases e231
   replace y3g := zx HB y3g
   replace y3h := zx HB y3h
   replace y3i := zx HB y3i
   replace p231 := eq_true p231
   replace q231 := eq_true q231
   go_wp2
   go_roundg k1
   case measure => have := HK1.out; omega
   case rel => exact ⟨(wrap64 (x5_1 + 1)), ze, H', ⟨by have := HK1.out; omega⟩, ⟨zk⟩, ⟨zb⟩⟩
def z1m.f (k : Nat) (l0_0 : List ByteArray) (l0_1 : List (z1J)) (a1 : Int) (a2 : Int) (a3 : Int) : Option (Bool) := if a1 = 0 then ((z1e.f l0_0 l0_1 a2 a3).bind fun t233 => (some t233)) else ((z0G.f k l0_0 l0_1 a1).bind fun t234 => (if t234 ≥ 0 then (if a2 = 0 then (some (a3 == 0)) else (some false)) else (some false)))
theorem z1m.mono : ∀ a0 a1 a2 a3 a4 k, LeO (z1m.f k a0 a1 a2 a3 a4) (z1m.f (k + 1) a0 a1 a2 a3 a4) := by
 intro a0 a1 a2 a3 a4 k
 unfold z1m.f
 repeat' first
   | (with_reducible exact z0G.mono _ _ _ _)
   | (with_reducible exact LeO.refl _)
   | (with_reducible exact LeO.none _)
   | (with_reducible refine LeO.ite ?_ ?_)
   | (with_reducible refine LeO.bind ?_ (fun _ => ?_))
set_option maxHeartbeats 8000000 in
set_option maxRecDepth 100000 in
theorem z1m.calls (k : Nat) (z0U : Option Addr) (c0_0 : Nat) (l0_0 : List ByteArray) (z0X : Option Addr) (c0_1 : Nat) (l0_1 : List (z1J)) (a1 : Int) (a2 : Int) (a3 : Int) (r : Bool) (w : World) (hr0_0 : Kd.C Kd.string w z0U l0_0.length l0_0) (hc0_0 : l0_0.length ≤ c0_0) (hr0_1 : Kd.C z5a w z0X l0_1.length l0_1) (hc0_1 : l0_1.length ≤ c0_1) (h : z1m.f k l0_0 l0_1 a1 a2 a3 = some r) :
  Calls Tryz.prog 177 #[.agg #[.slice z0U l0_0.length c0_0, .slice z0X l0_1.length c0_1], .int .i32 a1, .int .u32 a2, .int .u32 a3] w fun e w' => e = .returned (.bool r) ∧ Below w.heap.size w w' := by
 have hu25 := Tryz.underlying25
 have z2g := z0a.mk hr0_0
 have z1g := z0a.mk hc0_0
 clear hr0_0 hc0_0
 have z2x := z0a.mk hr0_1
 have z1j := z0a.mk hc0_1
 clear hr0_1 hc0_1
 have HB := z0a.mk (Below.refl w.heap.size w)
 have H : (if a1 = 0 then ((z1e.f l0_0 l0_1 a2 a3).bind fun t233 => (some t233)) else ((z0G.f k l0_0 l0_1 a1).bind fun t234 => (if t234 ≥ 0 then (if a2 = 0 then (some (a3 == 0)) else (some false)) else (some false)))) = some r := h
 clear h
 by_cases c5 : a1 = 0
 ·rw [if_pos c5] at H
  have c5b0 : (a1 == 0) = true := beq_iff_eq.mpr c5
  have c5b1 : (a1 != 0) = false := bne_eq_false_iff_eq.mpr c5
  clear c5
  replace H := Option.bind_eq_some_iff.mp H
  obtain ⟨t233, A60, H⟩ := H
  replace H : (some t233) = some r := H
  have A6 := z0a.mk A60
  clear A60
  obtain rfl := Option.some.inj H
  go_enter Tryz.func177, Tryz.ntmps177
  go_wp2_with (first | ((with_reducible refine z0o (N := 4) rfl ?_); refine zo (cs := #[.slice z0U l0_0.length c0_0, .slice z0X l0_1.length c0_1]) (t := 25) ?_; intro w0E hg w7 hbox hb; have z9D := z0a.mk hbox; have w0F := zG HB hg; have w0G := zG HB hg; replace HB := zB HB hb; clear hb hbox hg; obtain ⟨y1c, y4A, y1d, y4B⟩ := zc2 w7 z9D.out) | ((with_reducible refine z0m (f := 117) rfl ?_); refine z1a (some 14) rfl rfl Tryz.func117 (by kernel_rfl) rfl #[.agg #[.slice z0U l0_0.length c0_0, .slice z0X l0_1.length c0_1], .int .u32 a2, .int .u32 a3] rfl zq ?_; (with_reducible refine (z1e.calls _ _ l0_0 _ _ l0_1 a2 a3 t233 _ ?z0M z1g.out ?z0Q z1j.out A6.out).mono ?_); (case z0M => exact zs); (case z0Q => exact zs); rintro e w9 ⟨rfl, hb⟩; refine ⟨_, rfl, ?_⟩; replace z9D := zK z9D hb; replace HB := zB HB hb; (try clear hb)))
  go_ret
  exact ⟨zr, zb⟩
 rw [if_neg c5] at H
 have c5b0 : (a1 == 0) = false := beq_eq_false_iff_ne.mpr c5
 have c5b1 : (a1 != 0) = true := bne_iff_ne.mpr c5
 replace H := Option.bind_eq_some_iff.mp H
 obtain ⟨t234, A100, H⟩ := H
 replace H : (if t234 ≥ 0 then (if a2 = 0 then (some (a3 == 0)) else (some false)) else (some false)) = some r := H
 have A10 := z0a.mk A100
 clear A100
 by_cases c11 : t234 ≥ 0
 rotate_left
 ·rw [if_neg c11] at H
  have c11b0 : decide (0 ≤ t234) = false := decide_eq_false c11
  clear c11
  obtain rfl := Option.some.inj H
  go_enter Tryz.func177, Tryz.ntmps177
  go_wp2_with (first | ((with_reducible refine z0o (N := 4) rfl ?_); refine zo (cs := #[.slice z0U l0_0.length c0_0, .slice z0X l0_1.length c0_1]) (t := 25) ?_; intro w0E hg w19 hbox hb; have z9D := z0a.mk hbox; have w0F := zG HB hg; have w0G := zG HB hg; replace HB := zB HB hb; clear hb hbox hg; obtain ⟨z5x, z6a, z5y, z6b⟩ := zc2 w19 z9D.out) | ((with_reducible refine z0m (f := 107) rfl ?_); refine z1a (some 17) rfl rfl Tryz.func107 (by kernel_rfl) rfl #[.agg #[.slice z0U l0_0.length c0_0, .slice z0X l0_1.length c0_1], .int .i32 a1] rfl zq ?_; (with_reducible refine (z0G.calls k _ _ l0_0 _ _ l0_1 a1 t234 _ ?z0M z1g.out ?z0Q z1j.out A10.out).mono ?_); (case z0M => exact zs); (case z0Q => exact zs); rintro e w21 ⟨rfl, hb⟩; refine ⟨_, rfl, ?_⟩; replace z9D := zK z9D hb; replace HB := zB HB hb; (try clear hb)))
  go_ret
  exact ⟨zr, zb⟩
 rw [if_pos c11] at H
 have c11b0 : decide (0 ≤ t234) = true := decide_eq_true c11
 clear c11
 by_cases c12 : a2 = 0
 rotate_left
 ·rw [if_neg c12] at H
  have c12b0 : (a2 == 0) = false := beq_eq_false_iff_ne.mpr c12
  have c12b1 : (a2 != 0) = true := bne_iff_ne.mpr c12
  obtain rfl := Option.some.inj H
  go_enter Tryz.func177, Tryz.ntmps177
  go_wp2_with (first | ((with_reducible refine z0o (N := 4) rfl ?_); refine zo (cs := #[.slice z0U l0_0.length c0_0, .slice z0X l0_1.length c0_1]) (t := 25) ?_; intro w0E hg w16 hbox hb; have z9D := z0a.mk hbox; have w0F := zG HB hg; have w0G := zG HB hg; replace HB := zB HB hb; clear hb hbox hg; obtain ⟨y2d, y5J, y2e, y5K⟩ := zc2 w16 z9D.out) | ((with_reducible refine z0m (f := 107) rfl ?_); refine z1a (some 17) rfl rfl Tryz.func107 (by kernel_rfl) rfl #[.agg #[.slice z0U l0_0.length c0_0, .slice z0X l0_1.length c0_1], .int .i32 a1] rfl zq ?_; (with_reducible refine (z0G.calls k _ _ l0_0 _ _ l0_1 a1 t234 _ ?z0M z1g.out ?z0Q z1j.out A10.out).mono ?_); (case z0M => exact zs); (case z0Q => exact zs); rintro e w18 ⟨rfl, hb⟩; refine ⟨_, rfl, ?_⟩; replace z9D := zK z9D hb; replace HB := zB HB hb; (try clear hb)))
  go_ret
  exact ⟨zr, zb⟩
 rw [if_pos c12] at H
 have c12b0 : (a2 == 0) = true := beq_iff_eq.mpr c12
 have c12b1 : (a2 != 0) = false := bne_eq_false_iff_eq.mpr c12
 clear c12
 obtain rfl := Option.some.inj H
 go_enter Tryz.func177, Tryz.ntmps177
 go_wp2_with (first | ((with_reducible refine z0o (N := 4) rfl ?_); refine zo (cs := #[.slice z0U l0_0.length c0_0, .slice z0X l0_1.length c0_1]) (t := 25) ?_; intro w0E hg w13 hbox hb; have z9D := z0a.mk hbox; have w0F := zG HB hg; have w0G := zG HB hg; replace HB := zB HB hb; clear hb hbox hg; obtain ⟨y1T, y7Z, y1U, y8a⟩ := zc2 w13 z9D.out) | ((with_reducible refine z0m (f := 107) rfl ?_); refine z1a (some 17) rfl rfl Tryz.func107 (by kernel_rfl) rfl #[.agg #[.slice z0U l0_0.length c0_0, .slice z0X l0_1.length c0_1], .int .i32 a1] rfl zq ?_; (with_reducible refine (z0G.calls k _ _ l0_0 _ _ l0_1 a1 t234 _ ?z0M z1g.out ?z0Q z1j.out A10.out).mono ?_); (case z0M => exact zs); (case z0Q => exact zs); rintro e w15 ⟨rfl, hb⟩; refine ⟨_, rfl, ?_⟩; replace z9D := zK z9D hb; replace HB := zB HB hb; (try clear hb)))
 go_ret
 exact ⟨zr, zb⟩
def z1A.f (k : Nat) (l0_0 : List ByteArray) (l0_1 : List (z1J)) (a1_0 : Int) (a1_1 : Int) (a1_2 : Int) (a1_3 : Int) (a2 : Int) : Option (Bool) := if a1_0 = 0 then (if a1_1 ≥ 0 then (if a1_1 < a2 then ((z1e.f l0_0 l0_1 a1_2 a1_3).bind fun t237 => (some t237)) else (some false)) else (some false)) else ((z1m.f k l0_0 l0_1 a1_0 a1_2 a1_3).bind fun t238 => (if t238 = true then (some (a1_1 == 0)) else (some false)))
theorem z1A.mono : ∀ a0 a1 a2 a3 a4 a5 a6 k, LeO (z1A.f k a0 a1 a2 a3 a4 a5 a6) (z1A.f (k + 1) a0 a1 a2 a3 a4 a5 a6) := by
 intro a0 a1 a2 a3 a4 a5 a6 k
 unfold z1A.f
 repeat' first
   | (with_reducible exact z1m.mono _ _ _ _ _ _)
   | (with_reducible exact LeO.refl _)
   | (with_reducible exact LeO.none _)
   | (with_reducible refine LeO.ite ?_ ?_)
   | (with_reducible refine LeO.bind ?_ (fun _ => ?_))
set_option maxHeartbeats 8000000 in
set_option maxRecDepth 100000 in
theorem z1A.calls (k : Nat) (z0U : Option Addr) (c0_0 : Nat) (l0_0 : List ByteArray) (z0X : Option Addr) (c0_1 : Nat) (l0_1 : List (z1J)) (a1_0 : Int) (a1_1 : Int) (a1_2 : Int) (a1_3 : Int) (a2 : Int) (r : Bool) (w : World) (hr0_0 : Kd.C Kd.string w z0U l0_0.length l0_0) (hc0_0 : l0_0.length ≤ c0_0) (hr0_1 : Kd.C z5a w z0X l0_1.length l0_1) (hc0_1 : l0_1.length ≤ c0_1) (h : z1A.f k l0_0 l0_1 a1_0 a1_1 a1_2 a1_3 a2 = some r) :
  Calls Tryz.prog 178 #[.agg #[.slice z0U l0_0.length c0_0, .slice z0X l0_1.length c0_1], .agg #[.int .i32 a1_0, .int .i64 a1_1, .int .u32 a1_2, .int .u32 a1_3], .int .i64 a2] w fun e w' => e = .returned (.bool r) ∧ Below w.heap.size w w' := by
 have hu25 := Tryz.underlying25
 have hu56 := Tryz.underlying56
 have z2g := z0a.mk hr0_0
 have z1g := z0a.mk hc0_0
 clear hr0_0 hc0_0
 have z2x := z0a.mk hr0_1
 have z1j := z0a.mk hc0_1
 clear hr0_1 hc0_1
 have HB := z0a.mk (Below.refl w.heap.size w)
 have H : (if a1_0 = 0 then (if a1_1 ≥ 0 then (if a1_1 < a2 then ((z1e.f l0_0 l0_1 a1_2 a1_3).bind fun t237 => (some t237)) else (some false)) else (some false)) else ((z1m.f k l0_0 l0_1 a1_0 a1_2 a1_3).bind fun t238 => (if t238 = true then (some (a1_1 == 0)) else (some false)))) = some r := h
 clear h
 by_cases c4 : a1_0 = 0
 rotate_left
 ·rw [if_neg c4] at H
  have c4b0 : (a1_0 == 0) = false := beq_eq_false_iff_ne.mpr c4
  have c4b1 : (a1_0 != 0) = true := bne_iff_ne.mpr c4
  replace H := Option.bind_eq_some_iff.mp H
  obtain ⟨t238, A220, H⟩ := H
  replace H : (if t238 = true then (some (a1_1 == 0)) else (some false)) = some r := H
  have A22 := z0a.mk A220
  clear A220
  by_cases c23 : t238 = true
  rotate_left
  ·replace c23 := Bool.eq_false_iff.mpr c23
   subst c23
   have H1 : (some false) = some r := by rw [if_neg (show ¬ (false = true) by decide)] at H; exact H
   clear H
   have H := H1
   clear H1
   obtain rfl := Option.some.inj H
   go_enter Tryz.func178, Tryz.ntmps178
   go_wp2_with (first | ((with_reducible refine z0o (N := 3) rfl ?_); refine zo (cs := #[.slice z0U l0_0.length c0_0, .slice z0X l0_1.length c0_1]) (t := 25) ?_; intro x7d hg w31 hbox hb; have z4a := z0a.mk hbox; have x7e := zG HB hg; have x7g := zG HB hg; replace HB := zB HB hb; clear hb hbox hg) | ((with_reducible refine z0o (N := 4) rfl ?_); refine zo (cs := #[.int .i32 a1_0, .int .i64 a1_1, .int .u32 a1_2, .int .u32 a1_3]) (t := 56) ?_; intro x7h hg w32 hbox hb; have z8W := z0a.mk hbox; have x7i := zG HB hg; have x7j := zG HB hg; have z4P := zN z4a hg; have z4Q := zM z4a hg; replace z4a := zK z4a hb; replace HB := zB HB hb; clear hb hbox hg; have hnb33 := z4Q.out; have hnc33 := z4P.out; obtain ⟨y0z, y2h, y2i, y5R, y0A, y2j, y2k, y5S⟩ := zc4 w32 z8W.out; obtain ⟨y0G, y0H, y0I, y0J⟩ := zc2 w32 z4a.out) | ((with_reducible refine z0m (f := 177) rfl ?_); refine z1a (some 17) rfl rfl Tryz.func177 (by kernel_rfl) rfl #[.agg #[.slice z0U l0_0.length c0_0, .slice z0X l0_1.length c0_1], .int .i32 a1_0, .int .u32 a1_2, .int .u32 a1_3] rfl zq ?_; (with_reducible refine (z1m.calls k _ _ l0_0 _ _ l0_1 a1_0 a1_2 a1_3 false _ ?z0M z1g.out ?z0Q z1j.out A22.out).mono ?_); (case z0M => exact zs); (case z0Q => exact zs); rintro e w36 ⟨rfl, hb⟩; refine ⟨_, rfl, ?_⟩; replace z4a := zK z4a hb; replace z8W := zK z8W hb; replace HB := zB HB hb; (try clear hb)))
   go_ret
   exact ⟨zr, zb⟩
  subst c23
  have H1 : (some (a1_1 == 0)) = some r := by rw [if_pos rfl] at H; exact H
  clear H
  have H := H1
  clear H1
  obtain rfl := Option.some.inj H
  go_enter Tryz.func178, Tryz.ntmps178
  go_wp2_with (first | ((with_reducible refine z0o (N := 3) rfl ?_); refine zo (cs := #[.slice z0U l0_0.length c0_0, .slice z0X l0_1.length c0_1]) (t := 25) ?_; intro x7d hg w24 hbox hb; have z4a := z0a.mk hbox; have x7e := zG HB hg; have x7g := zG HB hg; replace HB := zB HB hb; clear hb hbox hg) | ((with_reducible refine z0o (N := 4) rfl ?_); refine zo (cs := #[.int .i32 a1_0, .int .i64 a1_1, .int .u32 a1_2, .int .u32 a1_3]) (t := 56) ?_; intro x7h hg w25 hbox hb; have z8W := z0a.mk hbox; have x7i := zG HB hg; have x7j := zG HB hg; have z4P := zN z4a hg; have z4Q := zM z4a hg; replace z4a := zK z4a hb; replace HB := zB HB hb; clear hb hbox hg; have hnb26 := z4Q.out; have hnc26 := z4P.out; obtain ⟨y1P, y5h, y5i, y5j, y1Q, y5k, y5l, y5m⟩ := zc4 w25 z8W.out; obtain ⟨y1R, y5n, y1S, y5o⟩ := zc2 w25 z4a.out) | ((with_reducible refine z0m (f := 177) rfl ?_); refine z1a (some 17) rfl rfl Tryz.func177 (by kernel_rfl) rfl #[.agg #[.slice z0U l0_0.length c0_0, .slice z0X l0_1.length c0_1], .int .i32 a1_0, .int .u32 a1_2, .int .u32 a1_3] rfl zq ?_; (with_reducible refine (z1m.calls k _ _ l0_0 _ _ l0_1 a1_0 a1_2 a1_3 true _ ?z0M z1g.out ?z0Q z1j.out A22.out).mono ?_); (case z0M => exact zs); (case z0Q => exact zs); rintro e w29 ⟨rfl, hb⟩; refine ⟨_, rfl, ?_⟩; replace z4a := zK z4a hb; replace z8W := zK z8W hb; replace HB := zB HB hb; (try clear hb); obtain ⟨y5P, y8A, y8B, x3P, y5Q, y8C, y8D, x3Q⟩ := zc4 w29 z8W.out))
  go_ret
  exact ⟨zr, zb⟩
 rw [if_pos c4] at H
 have c4b0 : (a1_0 == 0) = true := beq_iff_eq.mpr c4
 have c4b1 : (a1_0 != 0) = false := bne_eq_false_iff_eq.mpr c4
 clear c4
 by_cases c5 : a1_1 ≥ 0
 rotate_left
 ·rw [if_neg c5] at H
  have c5b0 : decide (0 ≤ a1_1) = false := decide_eq_false c5
  clear c5
  obtain rfl := Option.some.inj H
  go_enter Tryz.func178, Tryz.ntmps178
  go_wp2_with (first | ((with_reducible refine z0o (N := 3) rfl ?_); refine zo (cs := #[.slice z0U l0_0.length c0_0, .slice z0X l0_1.length c0_1]) (t := 25) ?_; intro x7d hg w18 hbox hb; have z4a := z0a.mk hbox; have x7e := zG HB hg; have x7g := zG HB hg; replace HB := zB HB hb; clear hb hbox hg) | ((with_reducible refine z0o (N := 4) rfl ?_); refine zo (cs := #[.int .i32 a1_0, .int .i64 a1_1, .int .u32 a1_2, .int .u32 a1_3]) (t := 56) ?_; intro x7h hg w19 hbox hb; have z8W := z0a.mk hbox; have x7i := zG HB hg; have x7j := zG HB hg; have z4P := zN z4a hg; have z4Q := zM z4a hg; replace z4a := zK z4a hb; replace HB := zB HB hb; clear hb hbox hg; have hnb20 := z4Q.out; have hnc20 := z4P.out; obtain ⟨z9E, z9F, y3j, x4I, z9G, z9H, y3k, x4J⟩ := zc4 w19 z8W.out))
  go_ret
  exact ⟨zr, zb⟩
 rw [if_pos c5] at H
 have c5b0 : decide (0 ≤ a1_1) = true := decide_eq_true c5
 clear c5
 by_cases c6 : a1_1 < a2
 rotate_left
 ·rw [if_neg c6] at H
  have c6b0 : decide (a1_1 < a2) = false := decide_eq_false c6
  clear c6
  obtain rfl := Option.some.inj H
  go_enter Tryz.func178, Tryz.ntmps178
  go_wp2_with (first | ((with_reducible refine z0o (N := 3) rfl ?_); refine zo (cs := #[.slice z0U l0_0.length c0_0, .slice z0X l0_1.length c0_1]) (t := 25) ?_; intro x7d hg w14 hbox hb; have z4a := z0a.mk hbox; have x7e := zG HB hg; have x7g := zG HB hg; replace HB := zB HB hb; clear hb hbox hg) | ((with_reducible refine z0o (N := 4) rfl ?_); refine zo (cs := #[.int .i32 a1_0, .int .i64 a1_1, .int .u32 a1_2, .int .u32 a1_3]) (t := 56) ?_; intro x7h hg w15 hbox hb; have z8W := z0a.mk hbox; have x7i := zG HB hg; have x7j := zG HB hg; have z4P := zN z4a hg; have z4Q := zM z4a hg; replace z4a := zK z4a hb; replace HB := zB HB hb; clear hb hbox hg; have hnb16 := z4Q.out; have hnc16 := z4P.out; obtain ⟨y2d, y5J, y8y, x3J, y2e, y5K, y8z, x3K⟩ := zc4 w15 z8W.out))
  go_ret
  exact ⟨zr, zb⟩
 rw [if_pos c6] at H
 have c6b0 : decide (a1_1 < a2) = true := decide_eq_true c6
 clear c6
 replace H := Option.bind_eq_some_iff.mp H
 obtain ⟨t237, A70, H⟩ := H
 replace H : (some t237) = some r := H
 have A7 := z0a.mk A70
 clear A70
 obtain rfl := Option.some.inj H
 go_enter Tryz.func178, Tryz.ntmps178
 go_wp2_with (first | ((with_reducible refine z0o (N := 3) rfl ?_); refine zo (cs := #[.slice z0U l0_0.length c0_0, .slice z0X l0_1.length c0_1]) (t := 25) ?_; intro x7d hg w8 hbox hb; have z4a := z0a.mk hbox; have x7e := zG HB hg; have x7g := zG HB hg; replace HB := zB HB hb; clear hb hbox hg) | ((with_reducible refine z0o (N := 4) rfl ?_); refine zo (cs := #[.int .i32 a1_0, .int .i64 a1_1, .int .u32 a1_2, .int .u32 a1_3]) (t := 56) ?_; intro x7h hg w9 hbox hb; have z8W := z0a.mk hbox; have x7i := zG HB hg; have x7j := zG HB hg; have z4P := zN z4a hg; have z4Q := zM z4a hg; replace z4a := zK z4a hb; replace HB := zB HB hb; clear hb hbox hg; have hnb10 := z4Q.out; have hnc10 := z4P.out; obtain ⟨z3M, z6J, z6K, w0H, z3N, z6L, z6M, w0I⟩ := zc4 w9 z8W.out; obtain ⟨z8o, y0D, z8p, y0E⟩ := zc2 w9 z4a.out) | (go_at_call 117; (with_reducible refine (z1e.calls _ _ l0_0 _ _ l0_1 a1_2 a1_3 t237 _ ?z0M z1g.out ?z0Q z1j.out A7.out).mono ?_); (case z0M => exact zs); (case z0Q => exact zs); rintro e w13 ⟨rfl, hb⟩; replace z4a := zK z4a hb; replace z8W := zK z8W hb; replace HB := zB HB hb; (try clear hb)))
 go_ret
 exact ⟨zr, zb⟩
mutual
def z0k.j0 : Nat → Int → Int → Bool → Int → Int → Int → Int → List Int → Option (Bool)
 | 0, _, _, _, _, _, _, _, _ => none
 | k + 1, x3, x8, x9, z2P, z5h, z4n, z4o, z6Q => if x9 = true then (if z5h = 0 then (if z4n = 0 then (if z4o = 0 then (some true) else (some (z2P == 3))) else (some (z2P == 3))) else (if z2P = 2 then (if z4n = 0 then (if z4o = 0 then (some true) else (some (z2P == 3))) else (some (z2P == 3))) else (some false))) else (if x8 = 8 then (z0k.j1 k x3 x8 (x8 == 8) z2P z5h z4n z4o z6Q) else (z0k.j1 k x3 x8 (x8 == 9) z2P z5h z4n z4o z6Q))
def z0k.j1 : Nat → Int → Int → Bool → Int → Int → Int → Int → List Int → Option (Bool)
 | 0, _, _, _, _, _, _, _, _ => none
 | k + 1, x3, x8, x12, z2P, z5h, z4n, z4o, z6Q => if x12 = true then (if x3 = 1 then (if z5h = 0 then (if z4n = 0 then (if z4o = 0 then (some true) else (some (z2P == 3))) else (some (z2P == 3))) else (if z2P = 2 then (if z4n = 0 then (if z4o = 0 then (some true) else (some (z2P == 3))) else (some (z2P == 3))) else (some false))) else (some false)) else (if x8 = 1 then (z0k.j2 k x3 (x8 == 1) z2P z5h z4n z4o z6Q) else (if x8 = 2 then (z0k.j2 k x3 (x8 == 2) z2P z5h z4n z4o z6Q) else (if x8 = 3 then (z0k.j2 k x3 (x8 == 3) z2P z5h z4n z4o z6Q) else (if x8 = 4 then (z0k.j2 k x3 (x8 == 4) z2P z5h z4n z4o z6Q) else (z0k.j2 k x3 (x8 == 5) z2P z5h z4n z4o z6Q)))))
def z0k.j2 : Nat → Int → Bool → Int → Int → Int → Int → List Int → Option (Bool)
 | 0, _, _, _, _, _, _, _ => none
 | k + 1, x3, x17, z2P, z5h, z4n, z4o, z6Q => if x17 = true then (if x3 = 0 then (if z5h = 0 then (if z4n = 0 then (if z4o = 0 then (some true) else (some (z2P == 3))) else (some (z2P == 3))) else (if z2P = 2 then (if z4n = 0 then (if z4o = 0 then (some true) else (some (z2P == 3))) else (some (z2P == 3))) else (some false))) else (some false)) else (some false)
end
def z0k.f (k : Nat) (a0_0 : Int) (a0_1 : Int) (a0_2 : Int) (a0_3 : Int) (l0_4 : List Int) : Option (Bool) := if a0_0 = 6 then (z0k.j0 k (l0_4.length : Int) a0_0 (a0_0 == 6) a0_0 a0_1 a0_2 a0_3 l0_4) else (z0k.j0 k (l0_4.length : Int) a0_0 (a0_0 == 7) a0_0 a0_1 a0_2 a0_3 l0_4)
theorem z0k.z1t : ∀ k, (∀ y0 y1 y2 y3 y4 y5 y6 y7, LeO (z0k.j0 k y0 y1 y2 y3 y4 y5 y6 y7) (z0k.j0 (k + 1) y0 y1 y2 y3 y4 y5 y6 y7)) ∧ (∀ y0 y1 y2 y3 y4 y5 y6 y7, LeO (z0k.j1 k y0 y1 y2 y3 y4 y5 y6 y7) (z0k.j1 (k + 1) y0 y1 y2 y3 y4 y5 y6 y7)) ∧ (∀ y0 y1 y2 y3 y4 y5 y6, LeO (z0k.j2 k y0 y1 y2 y3 y4 y5 y6) (z0k.j2 (k + 1) y0 y1 y2 y3 y4 y5 y6))
 | 0 => ⟨fun _ _ _ _ _ _ _ _ r h => by simp [z0k.j0] at h, fun _ _ _ _ _ _ _ _ r h => by simp [z0k.j1] at h, fun _ _ _ _ _ _ _ r h => by simp [z0k.j2] at h⟩
 | k + 1 => by
  obtain ⟨ih0, ih1, ih2⟩ := z0k.z1t k
  refine ⟨?_, ?_, ?_⟩
  ·intro y0 y1 y2 y3 y4 y5 y6 y7
   unfold z0k.j0
   repeat' first
   | (with_reducible exact ih0 _ _ _ _ _ _ _ _)
   | (with_reducible exact ih1 _ _ _ _ _ _ _ _)
   | (with_reducible exact ih2 _ _ _ _ _ _ _)
   | (with_reducible exact LeO.refl _)
   | (with_reducible exact LeO.none _)
   | (with_reducible refine LeO.ite ?_ ?_)
   | (with_reducible refine LeO.bind ?_ (fun _ => ?_))
  ·intro y0 y1 y2 y3 y4 y5 y6 y7
   unfold z0k.j1
   repeat' first
   | (with_reducible exact ih0 _ _ _ _ _ _ _ _)
   | (with_reducible exact ih1 _ _ _ _ _ _ _ _)
   | (with_reducible exact ih2 _ _ _ _ _ _ _)
   | (with_reducible exact LeO.refl _)
   | (with_reducible exact LeO.none _)
   | (with_reducible refine LeO.ite ?_ ?_)
   | (with_reducible refine LeO.bind ?_ (fun _ => ?_))
  ·intro y0 y1 y2 y3 y4 y5 y6
   unfold z0k.j2
   repeat' first
   | (with_reducible exact ih0 _ _ _ _ _ _ _ _)
   | (with_reducible exact ih1 _ _ _ _ _ _ _ _)
   | (with_reducible exact ih2 _ _ _ _ _ _ _)
   | (with_reducible exact LeO.refl _)
   | (with_reducible exact LeO.none _)
   | (with_reducible refine LeO.ite ?_ ?_)
   | (with_reducible refine LeO.bind ?_ (fun _ => ?_))
theorem z0k.mono : ∀ a0 a1 a2 a3 a4 k, LeO (z0k.f k a0 a1 a2 a3 a4) (z0k.f (k + 1) a0 a1 a2 a3 a4) := by
 intro a0 a1 a2 a3 a4 k
 obtain ⟨ih0, ih1, ih2⟩ := z0k.z1t k
 unfold z0k.f
 repeat' first
   | (with_reducible exact ih0 _ _ _ _ _ _ _ _)
   | (with_reducible exact ih1 _ _ _ _ _ _ _ _)
   | (with_reducible exact ih2 _ _ _ _ _ _ _)
   | (with_reducible exact LeO.refl _)
   | (with_reducible exact LeO.none _)
   | (with_reducible refine LeO.ite ?_ ?_)
   | (with_reducible refine LeO.bind ?_ (fun _ => ?_))
set_option maxHeartbeats 8000000 in
set_option maxRecDepth 100000 in
theorem z0k.calls (k : Nat) (a0_0 : Int) (a0_1 : Int) (a0_2 : Int) (a0_3 : Int) (w2l : Option Addr) (c0_4 : Nat) (l0_4 : List Int) (r : Bool) (w : World) (hr0_4 : Kd.C (Kd.int .i64) w w2l l0_4.length l0_4) (hc0_4 : l0_4.length ≤ c0_4) (h : z0k.f k a0_0 a0_1 a0_2 a0_3 l0_4 = some r) :
  Calls Tryz.prog 242 #[.agg #[.int .u8 a0_0, .int .i32 a0_1, .int .u32 a0_2, .int .u32 a0_3, .slice w2l l0_4.length c0_4]] w fun e w' => e = .returned (.bool r) ∧ Below w.heap.size w w' := by
 have hu58 := Tryz.underlying58
 have HR0_4 := z0a.mk hr0_4
 have HC0_4 := z0a.mk hc0_4
 clear hr0_4 hc0_4
 have HB := z0a.mk (Below.refl w.heap.size w)
 have H : (if a0_0 = 6 then (z0k.j0 k (l0_4.length : Int) a0_0 (a0_0 == 6) a0_0 a0_1 a0_2 a0_3 l0_4) else (z0k.j0 k (l0_4.length : Int) a0_0 (a0_0 == 7) a0_0 a0_1 a0_2 a0_3 l0_4)) = some r := h
 clear h
 have HC2 := z0a.mk H
 clear H
 go_enter Tryz.func242, Tryz.ntmps242
 go_upto_if 9 with (first | ((with_reducible refine z0o (N := 1) rfl ?_); refine zo (cs := #[.int .u8 a0_0, .int .i32 a0_1, .int .u32 a0_2, .int .u32 a0_3, .slice w2l l0_4.length c0_4]) (t := 58) ?_; intro w0J hg w3 hbox hb; have z5i := z0a.mk hbox; have GW239 := zG HB hg; have GE239 := zG HB hg; replace HB := zB HB hb; clear hb hbox hg; obtain ⟨z4U, x4K, x4L, x4M, x4N, z4V, x4O, x4P, x4Q, x4R⟩ := zc5 w3 z5i.out))
 (try simp only [Act.put, List.setIfInBounds_toArray, List.set_cons_zero, List.set_cons_succ])
 go_cut [9] (fun v9 wc => ∃ (kq : Nat) (x9_1 : Bool), v9 = .bool x9_1 ∧ z0a (z0k.j0 kq (l0_4.length : Int) a0_0 x9_1 a0_0 a0_1 a0_2 a0_3 l0_4 = some r) ∧ z0a (kq ≤ k) ∧ z0a (wc.heap[w0J]? = some (.cells #[.int .u8 a0_0, .int .i32 a0_1, .int .u32 a0_2, .int .u32 a0_3, (.slice w2l l0_4.length c0_4)] 58 (0, 0))) ∧ z0a (Below w.heap.size w wc))
 case first =>
  have H := HC2.out
  clear HC2
  by_cases c5 : a0_0 = 6
  rotate_left
  ·rw [if_neg c5] at H
   have c5b0 : (a0_0 == 6) = false := beq_eq_false_iff_ne.mpr c5
   have c5b1 : (a0_0 != 6) = true := bne_iff_ne.mpr c5
   (first | rw [c5b0] | (simp only [z0V, z0W]; rw [c5b0]) | skip)
   have H' := z0a.mk H
   clear H
   go_wp2
   go_meet
   case rel => exact ⟨_, ((a0_0 == 7)), ze, H', ⟨zl⟩, ⟨zk⟩, ⟨zb⟩⟩
  rw [if_pos c5] at H
  have c5b0 : (a0_0 == 6) = true := beq_iff_eq.mpr c5
  have c5b1 : (a0_0 != 6) = false := bne_eq_false_iff_eq.mpr c5
  clear c5
  (first | rw [c5b0] | (simp only [z0V, z0W]; rw [c5b0]) | skip)
  have H' := z0a.mk H
  clear H
  go_wp2
  go_meet
  case rel => exact ⟨_, ((a0_0 == 6)), ze, H', ⟨zl⟩, ⟨zk⟩, ⟨zb⟩⟩
 case rest =>
  clear HC2
  try clear z4U
  try clear x4K
  try clear x4L
  try clear x4M
  try clear x4N
  try clear z4V
  try clear x4O
  try clear x4P
  try clear x4Q
  try clear x4R
  obtain ⟨kq, x9_1, rfl, HA, HJ1, z5i, HB⟩ := hcut
  cases kq with
  | zero => exact absurd HA.out (by simp [z0k.j0])
  | succ kj1 =>
   have H := HA.out
   clear HA
   simp only [z0k.j0] at H
   by_cases c6 : x9_1 = true
   ·subst c6
    have H1 : (if a0_1 = 0 then (if a0_2 = 0 then (if a0_3 = 0 then (some true) else (some (a0_0 == 3))) else (some (a0_0 == 3))) else (if a0_0 = 2 then (if a0_2 = 0 then (if a0_3 = 0 then (some true) else (some (a0_0 == 3))) else (some (a0_0 == 3))) else (some false))) = some r := by rw [if_pos rfl] at H; exact H
    clear H
    have H := H1
    clear H1
    by_cases c7 : a0_1 = 0
    ·rw [if_pos c7] at H
     have c7b0 : (a0_1 == 0) = true := beq_iff_eq.mpr c7
     have c7b1 : (a0_1 != 0) = false := bne_eq_false_iff_eq.mpr c7
     clear c7
     by_cases c8 : a0_2 = 0
     rotate_left
     ·rw [if_neg c8] at H
      have c8b0 : (a0_2 == 0) = false := beq_eq_false_iff_ne.mpr c8
      have c8b1 : (a0_2 != 0) = true := bne_iff_ne.mpr c8
      obtain rfl := Option.some.inj H
      obtain ⟨z8o, y0D, y5Z, hcz12_3, hcz12_4, z8p, y0E, y6a, hfz12_3, hfz12_4⟩ := zc5 wc z5i.out
      go_wp2
      go_ret
      exact ⟨zr, zb⟩
     rw [if_pos c8] at H
     have c8b0 : (a0_2 == 0) = true := beq_iff_eq.mpr c8
     have c8b1 : (a0_2 != 0) = false := bne_eq_false_iff_eq.mpr c8
     clear c8
     by_cases c9 : a0_3 = 0
     rotate_left
     ·rw [if_neg c9] at H
      have c9b0 : (a0_3 == 0) = false := beq_eq_false_iff_ne.mpr c9
      have c9b1 : (a0_3 != 0) = true := bne_iff_ne.mpr c9
      obtain rfl := Option.some.inj H
      obtain ⟨z3M, z6J, z6K, w0H, hcz11_4, z3N, z6L, z6M, w0I, hfz11_4⟩ := zc5 wc z5i.out
      go_wp2
      go_ret
      exact ⟨zr, zb⟩
     rw [if_pos c9] at H
     have c9b0 : (a0_3 == 0) = true := beq_iff_eq.mpr c9
     have c9b1 : (a0_3 != 0) = false := bne_eq_false_iff_eq.mpr c9
     clear c9
     obtain rfl := Option.some.inj H
     obtain ⟨z6C, z6D, w0K, w0L, w0M, z6E, z6F, w0N, w0O, w0P⟩ := zc5 wc z5i.out
     go_wp2
     go_ret
     exact ⟨zr, zb⟩
    rw [if_neg c7] at H
    have c7b0 : (a0_1 == 0) = false := beq_eq_false_iff_ne.mpr c7
    have c7b1 : (a0_1 != 0) = true := bne_iff_ne.mpr c7
    by_cases c13 : a0_0 = 2
    rotate_left
    ·rw [if_neg c13] at H
     have c13b0 : (a0_0 == 2) = false := beq_eq_false_iff_ne.mpr c13
     have c13b1 : (a0_0 != 2) = true := bne_iff_ne.mpr c13
     obtain rfl := Option.some.inj H
     obtain ⟨z6A, z8e, z8f, y8b, x4c, z6B, z8g, z8h, y8c, x4d⟩ := zc5 wc z5i.out
     go_wp2
     go_ret
     exact ⟨zr, zb⟩
    rw [if_pos c13] at H
    have c13b0 : (a0_0 == 2) = true := beq_iff_eq.mpr c13
    have c13b1 : (a0_0 != 2) = false := bne_eq_false_iff_eq.mpr c13
    clear c13
    by_cases c14 : a0_2 = 0
    rotate_left
    ·rw [if_neg c14] at H
     have c14b0 : (a0_2 == 0) = false := beq_eq_false_iff_ne.mpr c14
     have c14b1 : (a0_2 != 0) = true := bne_iff_ne.mpr c14
     obtain rfl := Option.some.inj H
     obtain ⟨z4j, z4k, z4y, z9p, z9q, z4l, z4m, z4z, z9r, z9s⟩ := zc5 wc z5i.out
     go_wp2
     go_ret
     exact ⟨zr, zb⟩
    rw [if_pos c14] at H
    have c14b0 : (a0_2 == 0) = true := beq_iff_eq.mpr c14
    have c14b1 : (a0_2 != 0) = false := bne_eq_false_iff_eq.mpr c14
    clear c14
    by_cases c15 : a0_3 = 0
    rotate_left
    ·rw [if_neg c15] at H
     have c15b0 : (a0_3 == 0) = false := beq_eq_false_iff_ne.mpr c15
     have c15b1 : (a0_3 != 0) = true := bne_iff_ne.mpr c15
     obtain rfl := Option.some.inj H
     obtain ⟨y2d, y5J, y8y, x3J, x9w, y2e, y5K, y8z, x3K, x9x⟩ := zc5 wc z5i.out
     go_wp2
     go_ret
     exact ⟨zr, zb⟩
    rw [if_pos c15] at H
    have c15b0 : (a0_3 == 0) = true := beq_iff_eq.mpr c15
    have c15b1 : (a0_3 != 0) = false := bne_eq_false_iff_eq.mpr c15
    clear c15
    obtain rfl := Option.some.inj H
    obtain ⟨z5Y, z6y, z8t, w0Q, w0R, z5Z, z6z, z8u, w0S, w0T⟩ := zc5 wc z5i.out
    go_wp2
    go_ret
    exact ⟨zr, zb⟩
   replace c6 := Bool.eq_false_iff.mpr c6
   subst c6
   have H1 : (if a0_0 = 8 then (z0k.j1 kj1 (l0_4.length : Int) a0_0 (a0_0 == 8) a0_0 a0_1 a0_2 a0_3 l0_4) else (z0k.j1 kj1 (l0_4.length : Int) a0_0 (a0_0 == 9) a0_0 a0_1 a0_2 a0_3 l0_4)) = some r := by rw [if_neg (show ¬ (false = true) by decide)] at H; exact H
   clear H
   have H := H1
   clear H1
   have HC20 := z0a.mk H
   clear H
   go_upto_if 12 with (fail)
   go_cut [12] (fun v12 wc => ∃ (kq : Nat) (x12_19 : Bool), v12 = .bool x12_19 ∧ z0a (z0k.j1 kq (l0_4.length : Int) a0_0 x12_19 a0_0 a0_1 a0_2 a0_3 l0_4 = some r) ∧ z0a (kq ≤ kj1) ∧ z0a (wc.heap[w0J]? = some (.cells #[.int .u8 a0_0, .int .i32 a0_1, .int .u32 a0_2, .int .u32 a0_3, (.slice w2l l0_4.length c0_4)] 58 (0, 0))) ∧ z0a (Below w.heap.size w wc))
   case first =>
    have H := HC20.out
    clear HC20
    by_cases c21 : a0_0 = 8
    rotate_left
    ·rw [if_neg c21] at H
     have c21b0 : (a0_0 == 8) = false := beq_eq_false_iff_ne.mpr c21
     have c21b1 : (a0_0 != 8) = true := bne_iff_ne.mpr c21
     (first | rw [c21b0] | (simp only [z0V, z0W]; rw [c21b0]) | skip)
     have H' := z0a.mk H
     clear H
     go_wp2
     go_meet
     case rel => exact ⟨_, ((a0_0 == 9)), ze, H', ⟨by have := HJ1.out; first | omega | exact Nat.le_refl _⟩, ⟨zk⟩, ⟨zb⟩⟩
    rw [if_pos c21] at H
    have c21b0 : (a0_0 == 8) = true := beq_iff_eq.mpr c21
    have c21b1 : (a0_0 != 8) = false := bne_eq_false_iff_eq.mpr c21
    clear c21
    (first | rw [c21b0] | (simp only [z0V, z0W]; rw [c21b0]) | skip)
    have H' := z0a.mk H
    clear H
    go_wp2
    go_meet
    case rel => exact ⟨_, ((a0_0 == 8)), ze, H', ⟨by have := HJ1.out; first | omega | exact Nat.le_refl _⟩, ⟨zk⟩, ⟨zb⟩⟩
   case rest =>
    clear HC20
    try clear c6
    try clear z4U
    try clear x4K
    try clear x4L
    try clear x4M
    try clear x4N
    try clear z4V
    try clear x4O
    try clear x4P
    try clear x4Q
    try clear x4R
    obtain ⟨kq, x12_19, rfl, HA, HJ19, z5i, HB⟩ := hcut
    cases kq with
    | zero => exact absurd HA.out (by simp [z0k.j1])
    | succ kj19 =>
     have H := HA.out
     clear HA
     simp only [z0k.j1] at H
     by_cases c22 : x12_19 = true
     ·subst c22
      have H1 : (if (l0_4.length : Int) = 1 then (if a0_1 = 0 then (if a0_2 = 0 then (if a0_3 = 0 then (some true) else (some (a0_0 == 3))) else (some (a0_0 == 3))) else (if a0_0 = 2 then (if a0_2 = 0 then (if a0_3 = 0 then (some true) else (some (a0_0 == 3))) else (some (a0_0 == 3))) else (some false))) else (some false)) = some r := by rw [if_pos rfl] at H; exact H
      clear H
      have H := H1
      clear H1
      by_cases c23 : (l0_4.length : Int) = 1
      rotate_left
      ·rw [if_neg c23] at H
       have c23b0 : ((l0_4.length : Int) == 1) = false := beq_eq_false_iff_ne.mpr c23
       have c23b1 : ((l0_4.length : Int) != 1) = true := bne_iff_ne.mpr c23
       obtain rfl := Option.some.inj H
       go_wp2
       go_ret
       exact ⟨zr, zb⟩
      rw [if_pos c23] at H
      have c23b0 : ((l0_4.length : Int) == 1) = true := beq_iff_eq.mpr c23
      have c23b1 : ((l0_4.length : Int) != 1) = false := bne_eq_false_iff_eq.mpr c23
      clear c23
      by_cases c24 : a0_1 = 0
      ·rw [if_pos c24] at H
       have c24b0 : (a0_1 == 0) = true := beq_iff_eq.mpr c24
       have c24b1 : (a0_1 != 0) = false := bne_eq_false_iff_eq.mpr c24
       clear c24
       by_cases c25 : a0_2 = 0
       rotate_left
       ·rw [if_neg c25] at H
        have c25b0 : (a0_2 == 0) = false := beq_eq_false_iff_ne.mpr c25
        have c25b1 : (a0_2 != 0) = true := bne_iff_ne.mpr c25
        obtain rfl := Option.some.inj H
        obtain ⟨z9t, z9u, z9v, x8F, x8G, z9w, z9x, z9y, x8H, x8I⟩ := zc5 wc z5i.out
        go_wp2
        go_ret
        exact ⟨zr, zb⟩
       rw [if_pos c25] at H
       have c25b0 : (a0_2 == 0) = true := beq_iff_eq.mpr c25
       have c25b1 : (a0_2 != 0) = false := bne_eq_false_iff_eq.mpr c25
       clear c25
       by_cases c26 : a0_3 = 0
       rotate_left
       ·rw [if_neg c26] at H
        have c26b0 : (a0_3 == 0) = false := beq_eq_false_iff_ne.mpr c26
        have c26b1 : (a0_3 != 0) = true := bne_iff_ne.mpr c26
        obtain rfl := Option.some.inj H
        obtain ⟨y1R, y5n, w0o, hcz28_3, hcz28_4, y1S, y5o, w0p, hfz28_3, hfz28_4⟩ := zc5 wc z5i.out
        go_wp2
        go_ret
        exact ⟨zr, zb⟩
       rw [if_pos c26] at H
       have c26b0 : (a0_3 == 0) = true := beq_iff_eq.mpr c26
       have c26b1 : (a0_3 != 0) = false := bne_eq_false_iff_eq.mpr c26
       clear c26
       obtain rfl := Option.some.inj H
       obtain ⟨y1P, y5h, y5i, y5j, x2A, y1Q, y5k, y5l, y5m, x2B⟩ := zc5 wc z5i.out
       go_wp2
       go_ret
       exact ⟨zr, zb⟩
      rw [if_neg c24] at H
      have c24b0 : (a0_1 == 0) = false := beq_eq_false_iff_ne.mpr c24
      have c24b1 : (a0_1 != 0) = true := bne_iff_ne.mpr c24
      by_cases c30 : a0_0 = 2
      rotate_left
      ·rw [if_neg c30] at H
       have c30b0 : (a0_0 == 2) = false := beq_eq_false_iff_ne.mpr c30
       have c30b1 : (a0_0 != 2) = true := bne_iff_ne.mpr c30
       obtain rfl := Option.some.inj H
       obtain ⟨x3h, x3i, x3j, x3k, x3l, x3m, x3n, x3o, x3p, x3q⟩ := zc5 wc z5i.out
       go_wp2
       go_ret
       exact ⟨zr, zb⟩
      rw [if_pos c30] at H
      have c30b0 : (a0_0 == 2) = true := beq_iff_eq.mpr c30
      have c30b1 : (a0_0 != 2) = false := bne_eq_false_iff_eq.mpr c30
      clear c30
      by_cases c31 : a0_2 = 0
      rotate_left
      ·rw [if_neg c31] at H
       have c31b0 : (a0_2 == 0) = false := beq_eq_false_iff_ne.mpr c31
       have c31b1 : (a0_2 != 0) = true := bne_iff_ne.mpr c31
       obtain rfl := Option.some.inj H
       obtain ⟨y0G, y0H, w0U, hcz35_3, hcz35_4, y0I, y0J, w0V, hfz35_3, hfz35_4⟩ := zc5 wc z5i.out
       go_wp2
       go_ret
       exact ⟨zr, zb⟩
      rw [if_pos c31] at H
      have c31b0 : (a0_2 == 0) = true := beq_iff_eq.mpr c31
      have c31b1 : (a0_2 != 0) = false := bne_eq_false_iff_eq.mpr c31
      clear c31
      by_cases c32 : a0_3 = 0
      rotate_left
      ·rw [if_neg c32] at H
       have c32b0 : (a0_3 == 0) = false := beq_eq_false_iff_ne.mpr c32
       have c32b1 : (a0_3 != 0) = true := bne_iff_ne.mpr c32
       obtain rfl := Option.some.inj H
       obtain ⟨y0z, y2h, y2i, y5R, y8E, y0A, y2j, y2k, y5S, y8F⟩ := zc5 wc z5i.out
       go_wp2
       go_ret
       exact ⟨zr, zb⟩
      rw [if_pos c32] at H
      have c32b0 : (a0_3 == 0) = true := beq_iff_eq.mpr c32
      have c32b1 : (a0_3 != 0) = false := bne_eq_false_iff_eq.mpr c32
      clear c32
      obtain rfl := Option.some.inj H
      obtain ⟨y7T, y7U, y7V, x8C, hcz33_4, y7W, y7X, y7Y, x8D, hfz33_4⟩ := zc5 wc z5i.out
      go_wp2
      go_ret
      exact ⟨zr, zb⟩
     replace c22 := Bool.eq_false_iff.mpr c22
     subst c22
     have H1 : (if a0_0 = 1 then (z0k.j2 kj19 (l0_4.length : Int) (a0_0 == 1) a0_0 a0_1 a0_2 a0_3 l0_4) else (if a0_0 = 2 then (z0k.j2 kj19 (l0_4.length : Int) (a0_0 == 2) a0_0 a0_1 a0_2 a0_3 l0_4) else (if a0_0 = 3 then (z0k.j2 kj19 (l0_4.length : Int) (a0_0 == 3) a0_0 a0_1 a0_2 a0_3 l0_4) else (if a0_0 = 4 then (z0k.j2 kj19 (l0_4.length : Int) (a0_0 == 4) a0_0 a0_1 a0_2 a0_3 l0_4) else (z0k.j2 kj19 (l0_4.length : Int) (a0_0 == 5) a0_0 a0_1 a0_2 a0_3 l0_4))))) = some r := by rw [if_neg (show ¬ (false = true) by decide)] at H; exact H
     clear H
     have H := H1
     clear H1
     have HC37 := z0a.mk H
     clear H
     go_upto_if 17 with (fail)
     go_cut [17] (fun v17 wc => ∃ (kq : Nat) (x17_36 : Bool), v17 = .bool x17_36 ∧ z0a (z0k.j2 kq (l0_4.length : Int) x17_36 a0_0 a0_1 a0_2 a0_3 l0_4 = some r) ∧ z0a (kq ≤ kj19) ∧ z0a (wc.heap[w0J]? = some (.cells #[.int .u8 a0_0, .int .i32 a0_1, .int .u32 a0_2, .int .u32 a0_3, (.slice w2l l0_4.length c0_4)] 58 (0, 0))) ∧ z0a (Below w.heap.size w wc))
     case first =>
      have H := HC37.out
      clear HC37
      by_cases c38 : a0_0 = 1
      ·rw [if_pos c38] at H
       have c38b0 : (a0_0 == 1) = true := beq_iff_eq.mpr c38
       have c38b1 : (a0_0 != 1) = false := bne_eq_false_iff_eq.mpr c38
       clear c38
       (first | rw [c38b0] | (simp only [z0V, z0W]; rw [c38b0]) | skip)
       have H' := z0a.mk H
       clear H
       go_wp2
       go_meet
       case rel => exact ⟨_, ((a0_0 == 1)), ze, H', ⟨by have := HJ1.out; have := HJ19.out; first | omega | exact Nat.le_refl _⟩, ⟨zk⟩, ⟨zb⟩⟩
      rw [if_neg c38] at H
      have c38b0 : (a0_0 == 1) = false := beq_eq_false_iff_ne.mpr c38
      have c38b1 : (a0_0 != 1) = true := bne_iff_ne.mpr c38
      (first | rw [c38b0] | (simp only [z0V, z0W]; rw [c38b0]) | skip)
      by_cases c39 : a0_0 = 2
      ·rw [if_pos c39] at H
       have c39b0 : (a0_0 == 2) = true := beq_iff_eq.mpr c39
       have c39b1 : (a0_0 != 2) = false := bne_eq_false_iff_eq.mpr c39
       clear c39
       have H' := z0a.mk H
       clear H
       go_wp2
       go_meet
       case rel => exact ⟨_, ((a0_0 == 2)), ze, H', ⟨by have := HJ1.out; have := HJ19.out; first | omega | exact Nat.le_refl _⟩, ⟨zk⟩, ⟨zb⟩⟩
      rw [if_neg c39] at H
      have c39b0 : (a0_0 == 2) = false := beq_eq_false_iff_ne.mpr c39
      have c39b1 : (a0_0 != 2) = true := bne_iff_ne.mpr c39
      by_cases c40 : a0_0 = 3
      ·rw [if_pos c40] at H
       have c40b0 : (a0_0 == 3) = true := beq_iff_eq.mpr c40
       have c40b1 : (a0_0 != 3) = false := bne_eq_false_iff_eq.mpr c40
       clear c40
       have H' := z0a.mk H
       clear H
       go_wp2
       go_meet
       case rel => exact ⟨_, ((a0_0 == 3)), ze, H', ⟨by have := HJ1.out; have := HJ19.out; first | omega | exact Nat.le_refl _⟩, ⟨zk⟩, ⟨zb⟩⟩
      rw [if_neg c40] at H
      have c40b0 : (a0_0 == 3) = false := beq_eq_false_iff_ne.mpr c40
      have c40b1 : (a0_0 != 3) = true := bne_iff_ne.mpr c40
      by_cases c41 : a0_0 = 4
      rotate_left
      ·rw [if_neg c41] at H
       have c41b0 : (a0_0 == 4) = false := beq_eq_false_iff_ne.mpr c41
       have c41b1 : (a0_0 != 4) = true := bne_iff_ne.mpr c41
       have H' := z0a.mk H
       clear H
       go_wp2
       go_meet
       case rel => exact ⟨_, ((a0_0 == 5)), ze, H', ⟨by have := HJ1.out; have := HJ19.out; first | omega | exact Nat.le_refl _⟩, ⟨zk⟩, ⟨zb⟩⟩
      rw [if_pos c41] at H
      have c41b0 : (a0_0 == 4) = true := beq_iff_eq.mpr c41
      have c41b1 : (a0_0 != 4) = false := bne_eq_false_iff_eq.mpr c41
      clear c41
      have H' := z0a.mk H
      clear H
      go_wp2
      go_meet
      case rel => exact ⟨_, ((a0_0 == 4)), ze, H', ⟨by have := HJ1.out; have := HJ19.out; first | omega | exact Nat.le_refl _⟩, ⟨zk⟩, ⟨zb⟩⟩
     case rest =>
      clear HC37
      try clear c6
      try clear c22
      try clear z4U
      try clear x4K
      try clear x4L
      try clear x4M
      try clear x4N
      try clear z4V
      try clear x4O
      try clear x4P
      try clear x4Q
      try clear x4R
      obtain ⟨kq, x17_36, rfl, HA, HJ36, z5i, HB⟩ := hcut
      cases kq with
      | zero => exact absurd HA.out (by simp [z0k.j2])
      | succ kj36 =>
       have H := HA.out
       clear HA
       simp only [z0k.j2] at H
       by_cases c42 : x17_36 = true
       rotate_left
       ·replace c42 := Bool.eq_false_iff.mpr c42
        subst c42
        have H1 : (some false) = some r := by rw [if_neg (show ¬ (false = true) by decide)] at H; exact H
        clear H
        have H := H1
        clear H1
        obtain rfl := Option.some.inj H
        go_wp2
        go_ret
        exact ⟨zr, zb⟩
       subst c42
       have H1 : (if (l0_4.length : Int) = 0 then (if a0_1 = 0 then (if a0_2 = 0 then (if a0_3 = 0 then (some true) else (some (a0_0 == 3))) else (some (a0_0 == 3))) else (if a0_0 = 2 then (if a0_2 = 0 then (if a0_3 = 0 then (some true) else (some (a0_0 == 3))) else (some (a0_0 == 3))) else (some false))) else (some false)) = some r := by rw [if_pos rfl] at H; exact H
       clear H
       have H := H1
       clear H1
       by_cases c43 : (l0_4.length : Int) = 0
       rotate_left
       ·rw [if_neg c43] at H
        have c43b0 : ((l0_4.length : Int) == 0) = false := beq_eq_false_iff_ne.mpr c43
        have c43b1 : ((l0_4.length : Int) != 0) = true := bne_iff_ne.mpr c43
        have c43b2 : ¬ (l0_4 = []) := fun h_ => c43 (by rw [h_]; rfl)
        obtain rfl := Option.some.inj H
        go_wp2
        go_ret
        exact ⟨zr, zb⟩
       rw [if_pos c43] at H
       have c43b0 : ((l0_4.length : Int) == 0) = true := beq_iff_eq.mpr c43
       have c43b1 : ((l0_4.length : Int) != 0) = false := bne_eq_false_iff_eq.mpr c43
       clear c43
       by_cases c44 : a0_1 = 0
       ·rw [if_pos c44] at H
        have c44b0 : (a0_1 == 0) = true := beq_iff_eq.mpr c44
        have c44b1 : (a0_1 != 0) = false := bne_eq_false_iff_eq.mpr c44
        clear c44
        by_cases c45 : a0_2 = 0
        rotate_left
        ·rw [if_neg c45] at H
         have c45b0 : (a0_2 == 0) = false := beq_eq_false_iff_ne.mpr c45
         have c45b1 : (a0_2 != 0) = true := bne_iff_ne.mpr c45
         obtain rfl := Option.some.inj H
         obtain ⟨w0W, hcz49_1, hcz49_2, hcz49_3, hcz49_4, w0X, hfz49_1, hfz49_2, hfz49_3, hfz49_4⟩ := zc5 wc z5i.out
         go_wp2
         go_ret
         exact ⟨zr, zb⟩
        rw [if_pos c45] at H
        have c45b0 : (a0_2 == 0) = true := beq_iff_eq.mpr c45
        have c45b1 : (a0_2 != 0) = false := bne_eq_false_iff_eq.mpr c45
        clear c45
        by_cases c46 : a0_3 = 0
        rotate_left
        ·rw [if_neg c46] at H
         have c46b0 : (a0_3 == 0) = false := beq_eq_false_iff_ne.mpr c46
         have c46b1 : (a0_3 != 0) = true := bne_iff_ne.mpr c46
         obtain rfl := Option.some.inj H
         obtain ⟨x4S, x4T, x4U, w0Y, w0Z, x4V, x4W, x4X, w1a, w1b⟩ := zc5 wc z5i.out
         go_wp2
         go_ret
         exact ⟨zr, zb⟩
        rw [if_pos c46] at H
        have c46b0 : (a0_3 == 0) = true := beq_iff_eq.mpr c46
        have c46b1 : (a0_3 != 0) = false := bne_eq_false_iff_eq.mpr c46
        clear c46
        obtain rfl := Option.some.inj H
        obtain ⟨x2C, x2D, x8J, x8K, x8L, x2E, x2F, x8M, x8N, x8O⟩ := zc5 wc z5i.out
        go_wp2
        go_ret
        exact ⟨zr, zb⟩
       rw [if_neg c44] at H
       have c44b0 : (a0_1 == 0) = false := beq_eq_false_iff_ne.mpr c44
       have c44b1 : (a0_1 != 0) = true := bne_iff_ne.mpr c44
       by_cases c50 : a0_0 = 2
       rotate_left
       ·rw [if_neg c50] at H
        have c50b0 : (a0_0 == 2) = false := beq_eq_false_iff_ne.mpr c50
        have c50b1 : (a0_0 != 2) = true := bne_iff_ne.mpr c50
        obtain rfl := Option.some.inj H
        obtain ⟨y9o, y9p, x4Y, w1c, w1d, y9q, y9r, x4Z, w1e, w1f⟩ := zc5 wc z5i.out
        go_wp2
        go_ret
        exact ⟨zr, zb⟩
       rw [if_pos c50] at H
       have c50b0 : (a0_0 == 2) = true := beq_iff_eq.mpr c50
       have c50b1 : (a0_0 != 2) = false := bne_eq_false_iff_eq.mpr c50
       clear c50
       by_cases c51 : a0_2 = 0
       rotate_left
       ·rw [if_neg c51] at H
        have c51b0 : (a0_2 == 0) = false := beq_eq_false_iff_ne.mpr c51
        have c51b1 : (a0_2 != 0) = true := bne_iff_ne.mpr c51
        obtain rfl := Option.some.inj H
        obtain ⟨x2M, x2N, x2O, x2P, x2Q, x2R, x2S, x2T, x2U, x2V⟩ := zc5 wc z5i.out
        go_wp2
        go_ret
        exact ⟨zr, zb⟩
       rw [if_pos c51] at H
       have c51b0 : (a0_2 == 0) = true := beq_iff_eq.mpr c51
       have c51b1 : (a0_2 != 0) = false := bne_eq_false_iff_eq.mpr c51
       clear c51
       by_cases c52 : a0_3 = 0
       rotate_left
       ·rw [if_neg c52] at H
        have c52b0 : (a0_3 == 0) = false := beq_eq_false_iff_ne.mpr c52
        have c52b1 : (a0_3 != 0) = true := bne_iff_ne.mpr c52
        obtain rfl := Option.some.inj H
        obtain ⟨x5b, x5c, w1g, hcz54_3, hcz54_4, x5d, x5e, w1h, hfz54_3, hfz54_4⟩ := zc5 wc z5i.out
        go_wp2
        go_ret
        exact ⟨zr, zb⟩
       rw [if_pos c52] at H
       have c52b0 : (a0_3 == 0) = true := beq_iff_eq.mpr c52
       have c52b1 : (a0_3 != 0) = false := bne_eq_false_iff_eq.mpr c52
       clear c52
       obtain rfl := Option.some.inj H
       obtain ⟨y5t, y5u, x2W, x2X, x2Y, y5v, y5w, x2Z, x3a, x3b⟩ := zc5 wc z5i.out
       go_wp2
       go_ret
       exact ⟨zr, zb⟩
end Go.Proofs.YtplkoabikliagaaGreatDoor.K
