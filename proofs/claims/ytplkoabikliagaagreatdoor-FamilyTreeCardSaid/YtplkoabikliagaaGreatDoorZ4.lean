/- Part 4 of a proof: walks and plain laws, merged by wip/tools/pack.py. -/
import Derived.Test.YtplkoabikliagaaGreatDoorZ1
import Derived.Test.YtplkoabikliagaaGreatDoorZ3
namespace Go.Proofs.YtplkoabikliagaaGreatDoor.K
open Go.RowKit Go.Proofs.YtplkoabikliagaaGreatDoorW.PrintWords Go.Proofs.YtplkoabikliagaaGreatDoorW.PrintLast Go.Proofs.YtplkoabikliagaaGreatDoorW.PrintMore
attribute [local go_sem] z1o z1p z1B z1C z1b z1c z1q z1r
set_option linter.unusedVariables false
set_option linter.unusedSimpArgs false
mutual
def z0j.j0 : Nat → Int → Bool → List (S58) → Option (Bool)
 | 0, _, _, _ => none
 | k + 1, x3, x17, z2Q => if x17 = true then (some false) else (if 0 ≤ x3 then (if (x3 : Int).toNat ≤ 35184372088832 then (z0j.l0 k x3 (List.replicate (x3 : Int).toNat 0) 0 z2Q) else (none)) else (none))
def z0j.l0 : Nat → Int → List Int → Int → List (S58) → Option (Bool)
 | 0, _, _, _, _ => none
 | k + 1, x3, x4, x5, z2Q => if x5 < x3 then (if 0 ≤ x5 then (if x5 < (z2Q.length : Int) then ((z0k.f k ((z0g z2Q x5).f0) ((z0g z2Q x5).f1) ((z0g z2Q x5).f2) ((z0g z2Q x5).f3) ((z0g z2Q x5).f4)).bind fun t245 => (if t245 = true then (z0j.j2 k x3 x4 x5 (decide ((((z0g z2Q x5).f4).length : Int) ≥ x3)) z2Q) else (z0j.j2 k x3 x4 x5 true z2Q))) else (none)) else (none)) else (z0j.l2 k x3 x4 1)
def z0j.j2 : Nat → Int → List Int → Int → Bool → List (S58) → Option (Bool)
 | 0, _, _, _, _, _ => none
 | k + 1, x3, x4, x5, x42, z2Q => if x42 = true then (some false) else (z0j.l1 k x3 x4 x5 0 z2Q)
def z0j.l1 : Nat → Int → List Int → Int → Int → List (S58) → Option (Bool)
 | 0, _, _, _, _, _ => none
 | k + 1, x3, x4, x5, x6, z2Q => if 0 ≤ x5 then (if x5 < (z2Q.length : Int) then (if x6 < (((z0g z2Q x5).f4).length : Int) then (if 0 ≤ x6 then (if (rd ((z0g z2Q x5).f4) x6) ≤ x5 then (some false) else (if (rd ((z0g z2Q x5).f4) x6) ≥ x3 then (some false) else (if 0 ≤ (rd ((z0g z2Q x5).f4) x6) then (if (rd ((z0g z2Q x5).f4) x6) < (x4.length : Int) then (z0j.l1 k x3 (x4.set ((rd ((z0g z2Q x5).f4) x6) : Int).toNat (wrap64 ((rd x4 (rd ((z0g z2Q x5).f4) x6)) + 1))) x5 (wrap64 (x6 + 1)) z2Q) else (none)) else (none)))) else (none)) else (z0j.l0 k x3 x4 (wrap64 (x5 + 1)) z2Q)) else (none)) else (none)
def z0j.l2 : Nat → Int → List Int → Int → Option (Bool)
 | 0, _, _, _ => none
 | k + 1, x3, x4, x8 => if x8 < x3 then (if 0 ≤ x8 then (if x8 < (x4.length : Int) then (if (rd x4 x8) = 1 then (z0j.l2 k x3 x4 (wrap64 (x8 + 1))) else (some false)) else (none)) else (none)) else (some true)
end
def z0j.f (k : Nat) (l0_0 : List (S58)) : Option (Bool) := if (l0_0.length : Int) < 1 then (z0j.j0 k (l0_0.length : Int) true l0_0) else (z0j.j0 k (l0_0.length : Int) (decide ((l0_0.length : Int) > 256)) l0_0)
theorem z0j.z1t : ∀ k, (∀ y0 y1 y2, LeO (z0j.j0 k y0 y1 y2) (z0j.j0 (k + 1) y0 y1 y2)) ∧ (∀ y0 y1 y2 y3, LeO (z0j.l0 k y0 y1 y2 y3) (z0j.l0 (k + 1) y0 y1 y2 y3)) ∧ (∀ y0 y1 y2 y3 y4, LeO (z0j.j2 k y0 y1 y2 y3 y4) (z0j.j2 (k + 1) y0 y1 y2 y3 y4)) ∧ (∀ y0 y1 y2 y3 y4, LeO (z0j.l1 k y0 y1 y2 y3 y4) (z0j.l1 (k + 1) y0 y1 y2 y3 y4)) ∧ (∀ y0 y1 y2, LeO (z0j.l2 k y0 y1 y2) (z0j.l2 (k + 1) y0 y1 y2))
 | 0 => ⟨fun _ _ _ r h => by simp [z0j.j0] at h, fun _ _ _ _ r h => by simp [z0j.l0] at h, fun _ _ _ _ _ r h => by simp [z0j.j2] at h, fun _ _ _ _ _ r h => by simp [z0j.l1] at h, fun _ _ _ r h => by simp [z0j.l2] at h⟩
 | k + 1 => by
  obtain ⟨ih0, ih1, ih2, ih3, ih4⟩ := z0j.z1t k
  refine ⟨?_, ?_, ?_, ?_, ?_⟩
  ·intro y0 y1 y2
   unfold z0j.j0
   repeat' first
   | (with_reducible exact ih0 _ _ _)
   | (with_reducible exact ih1 _ _ _ _)
   | (with_reducible exact ih2 _ _ _ _ _)
   | (with_reducible exact ih3 _ _ _ _ _)
   | (with_reducible exact ih4 _ _ _)
   | (with_reducible exact z0k.mono _ _ _ _ _ _)
   | (with_reducible exact LeO.refl _)
   | (with_reducible exact LeO.none _)
   | (with_reducible refine LeO.ite ?_ ?_)
   | (with_reducible refine LeO.bind ?_ (fun _ => ?_))
  ·intro y0 y1 y2 y3
   unfold z0j.l0
   repeat' first
   | (with_reducible exact ih0 _ _ _)
   | (with_reducible exact ih1 _ _ _ _)
   | (with_reducible exact ih2 _ _ _ _ _)
   | (with_reducible exact ih3 _ _ _ _ _)
   | (with_reducible exact ih4 _ _ _)
   | (with_reducible exact z0k.mono _ _ _ _ _ _)
   | (with_reducible exact LeO.refl _)
   | (with_reducible exact LeO.none _)
   | (with_reducible refine LeO.ite ?_ ?_)
   | (with_reducible refine LeO.bind ?_ (fun _ => ?_))
  ·intro y0 y1 y2 y3 y4
   unfold z0j.j2
   repeat' first
   | (with_reducible exact ih0 _ _ _)
   | (with_reducible exact ih1 _ _ _ _)
   | (with_reducible exact ih2 _ _ _ _ _)
   | (with_reducible exact ih3 _ _ _ _ _)
   | (with_reducible exact ih4 _ _ _)
   | (with_reducible exact z0k.mono _ _ _ _ _ _)
   | (with_reducible exact LeO.refl _)
   | (with_reducible exact LeO.none _)
   | (with_reducible refine LeO.ite ?_ ?_)
   | (with_reducible refine LeO.bind ?_ (fun _ => ?_))
  ·intro y0 y1 y2 y3 y4
   unfold z0j.l1
   repeat' first
   | (with_reducible exact ih0 _ _ _)
   | (with_reducible exact ih1 _ _ _ _)
   | (with_reducible exact ih2 _ _ _ _ _)
   | (with_reducible exact ih3 _ _ _ _ _)
   | (with_reducible exact ih4 _ _ _)
   | (with_reducible exact z0k.mono _ _ _ _ _ _)
   | (with_reducible exact LeO.refl _)
   | (with_reducible exact LeO.none _)
   | (with_reducible refine LeO.ite ?_ ?_)
   | (with_reducible refine LeO.bind ?_ (fun _ => ?_))
  ·intro y0 y1 y2
   unfold z0j.l2
   repeat' first
   | (with_reducible exact ih0 _ _ _)
   | (with_reducible exact ih1 _ _ _ _)
   | (with_reducible exact ih2 _ _ _ _ _)
   | (with_reducible exact ih3 _ _ _ _ _)
   | (with_reducible exact ih4 _ _ _)
   | (with_reducible exact z0k.mono _ _ _ _ _ _)
   | (with_reducible exact LeO.refl _)
   | (with_reducible exact LeO.none _)
   | (with_reducible refine LeO.ite ?_ ?_)
   | (with_reducible refine LeO.bind ?_ (fun _ => ?_))
theorem z0j.mono : ∀ a0 k, LeO (z0j.f k a0) (z0j.f (k + 1) a0) := by
 intro a0 k
 obtain ⟨ih0, ih1, ih2, ih3, ih4⟩ := z0j.z1t k
 unfold z0j.f
 repeat' first
   | (with_reducible exact ih0 _ _ _)
   | (with_reducible exact ih1 _ _ _ _)
   | (with_reducible exact ih2 _ _ _ _ _)
   | (with_reducible exact ih3 _ _ _ _ _)
   | (with_reducible exact ih4 _ _ _)
   | (with_reducible exact z0k.mono _ _ _ _ _ _)
   | (with_reducible exact LeO.refl _)
   | (with_reducible exact LeO.none _)
   | (with_reducible refine LeO.ite ?_ ?_)
   | (with_reducible refine LeO.bind ?_ (fun _ => ?_))
set_option maxHeartbeats 8000000 in
set_option maxRecDepth 100000 in
theorem z0j.calls (k : Nat) (z0U : Option Addr) (c0_0 : Nat) (l0_0 : List (S58)) (r : Bool) (w : World) (hr0_0 : Kd.C k58 w z0U l0_0.length l0_0) (hc0_0 : l0_0.length ≤ c0_0) (h : z0j.f k l0_0 = some r) :
  Calls Tryz.prog 213 #[.agg #[.slice z0U l0_0.length c0_0]] w fun e w' => e = .returned (.bool r) ∧ Below w.heap.size w w' := by
 have hu49 := Tryz.underlying49
 have hu58 := Tryz.underlying58
 have z2g := z0a.mk hr0_0
 have z1g := z0a.mk hc0_0
 clear hr0_0 hc0_0
 have HB := z0a.mk (Below.refl w.heap.size w)
 have H : (if (l0_0.length : Int) < 1 then (z0j.j0 k (l0_0.length : Int) true l0_0) else (z0j.j0 k (l0_0.length : Int) (decide ((l0_0.length : Int) > 256)) l0_0)) = some r := h
 clear h
 have HC2 := z0a.mk H
 clear H
 go_enter Tryz.func213, Tryz.ntmps213
 go_upto_region 2 with (first | ((with_reducible refine z0o (N := 1) rfl ?_); refine zo (cs := #[.slice z0U l0_0.length c0_0]) (t := 49) ?_; intro x1h hg w3 hbox hb; have z5Q := z0a.mk hbox; have GW240 := zG HB hg; have GE240 := zG HB hg; replace HB := zB HB hb; clear hb hbox hg; obtain ⟨z4U, z4V⟩ := zc1 w3 z5Q.out))
 (try simp only [Act.put, List.setIfInBounds_toArray, List.set_cons_zero, List.set_cons_succ])
 go_cut [17] (fun v17 wc => ∃ (kq : Nat) (x17_1 : Bool), v17 = .bool x17_1 ∧ z0a (z0j.j0 kq (l0_0.length : Int) x17_1 l0_0 = some r) ∧ z0a (kq ≤ k) ∧ z0a (wc.heap[x1h]? = some (.cells #[(.slice z0U l0_0.length c0_0)] 49 (0, 0))) ∧ z0a (Below w.heap.size w wc))
 case first =>
  have H := HC2.out
  clear HC2
  by_cases c5 : (l0_0.length : Int) < 1
  ·rw [if_pos c5] at H
   have c5b0 : decide ((l0_0.length : Int) < 1) = true := decide_eq_true c5
   have c5b1 : decide (l0_0.length < 1) = true := decide_eq_true (by omega)
   clear c5
   (first | rw [c5b0] | (simp only [z0V, z0W]; rw [c5b0]) | skip)
   have H' := z0a.mk H
   clear H
   go_wp2
   go_meet
   case rel => exact ⟨_, (true), ze, H', ⟨zl⟩, ⟨zk⟩, ⟨zb⟩⟩
  rw [if_neg c5] at H
  have c5b0 : decide ((l0_0.length : Int) < 1) = false := decide_eq_false c5
  have c5b1 : decide (l0_0.length < 1) = false := decide_eq_false (by omega)
  clear c5
  (first | rw [c5b0] | (simp only [z0V, z0W]; rw [c5b0]) | skip)
  have H' := z0a.mk H
  clear H
  go_wp2
  go_meet
  case rel => exact ⟨_, (decide ((l0_0.length : Int) > 256)), ze, H', ⟨zl⟩, ⟨zk⟩, ⟨zb⟩⟩
 case rest =>
  clear HC2
  try clear z4U
  try clear z4V
  obtain ⟨kq, x17_1, rfl, HA, HJ1, z5Q, HB⟩ := hcut
  cases kq with
  | zero => exact absurd HA.out (by simp [z0j.j0])
  | succ kj1 =>
   have H := HA.out
   clear HA
   simp only [z0j.j0] at H
   by_cases c6 : x17_1 = true
   ·subst c6
    have H1 : (some false) = some r := by rw [if_pos rfl] at H; exact H
    clear H
    have H := H1
    clear H1
    obtain rfl := Option.some.inj H
    go_wp2
    go_ret
    exact ⟨zr, zb⟩
   replace c6 := Bool.eq_false_iff.mpr c6
   subst c6
   have H1 : (if 0 ≤ (l0_0.length : Int) then (if ((l0_0.length : Int) : Int).toNat ≤ 35184372088832 then (z0j.l0 kj1 (l0_0.length : Int) (List.replicate ((l0_0.length : Int) : Int).toNat 0) 0 l0_0) else (none)) else (none)) = some r := by rw [if_neg (show ¬ (false = true) by decide)] at H; exact H
   clear H
   have H := H1
   clear H1
   by_cases c7 : 0 ≤ (l0_0.length : Int)
   rotate_left
   ·rw [if_neg c7] at H
    exact absurd H (by simp)
   rw [if_pos c7] at H
   have c7b0 := eq_true c7
   have c7b1 : decide (0 ≤ (l0_0.length : Int)) = true := decide_eq_true c7
   clear c7
   by_cases c8 : ((l0_0.length : Int) : Int).toNat ≤ 35184372088832
   rotate_left
   ·rw [if_neg c8] at H
    exact absurd H (by simp)
   rw [if_pos c8] at H
   have c8b0 := eq_true c8
   have c8b1 : decide (((l0_0.length : Int) : Int).toNat ≤ 35184372088832) = true := decide_eq_true c8
   clear c8
   obtain ⟨y241, hy241⟩ : ∃ y_ : List Int, y_ = (List.replicate ((l0_0.length : Int) : Int).toNat 0) := ⟨_, rfl⟩
   replace H : (z0j.l0 kj1 (l0_0.length : Int) y241 0 l0_0) = some r := by first | (rw [hy241]; with_reducible exact H) | (have H2_ := (Option.bind_some _ _).symm.trans H; rw [hy241]; with_reducible exact H2_) | (have H2_ := (Option.bind_some _ _).symm.trans H; with_reducible exact H2_) | with_reducible exact H | (rw [hy241]; exact H) | exact H
   have Ny241 := z0a.mk hy241
   clear hy241
   have H' := z0a.mk H
   clear H
   go_wp2_with (first | ((with_reducible refine z0o (N := 19) rfl ?_); (try (refine x0X (by rfl) ?_; dsimp only)); refine Kd.x7H (Kd.int .i64) _ 3 rfl (N := 19) rfl 31 _ _ rfl (l0_0.length : Int) rfl rfl Tryz.underlying31 (.int .i64 0) 8 info3 rfl (by decide) (by omega) 0 (ok := fun _ => True) (okp := fun _ => True) rfl (fun _ hk => hk) trivial (of_decide_eq_true (by first | (with_reducible assumption) | assumption)) (Nat.le_trans (Nat.mul_le_mul_right _ (of_decide_eq_true (by first | (with_reducible assumption) | assumption) : (l0_0.length : Int).toNat ≤ 35184372088832)) (by omega)) (Below.refl _ _) (Nat.le_refl _) ?_; intro v242 w9 ho10 hb hg_ hnew_; clear hg_ hnew_; (first | rw [← Ny241.out] at ho10 | (simp only [Int.reduceToNat] at ho10; rw [← Ny241.out] at ho10)); have HO243 := z0a.mk (Kd.z2n ho10 (z1x zb)); replace z5Q := zK z5Q hb; replace HB := zB HB hb; clear hb ho10))
   go_loopg [5] kj1 (fun kq v5 w' => ∃ (x4_2 : List Int) (x5_2 : Int), v5 = .int .i64 x5_2 ∧ z0a (z0j.l0 kq (l0_0.length : Int) x4_2 x5_2 l0_0 = some r) ∧ z0a (kq ≤ kj1) ∧ z0a (Kd.R (Kd.int .i64) 3 w' w.heap.size (fun _ => True) v242 x4_2) ∧ z0a (w'.heap[x1h]? = some (.cells #[(.slice z0U l0_0.length c0_0)] 49 (0, 0))) ∧ z0a (Below w.heap.size w w'))
   case atStart => exact ⟨(y241), (0), ze, H', ⟨Nat.le_refl _⟩, ⟨by (with_reducible repeat (first | apply Kd.z0Z | apply Kd.z0Y | apply Kd.z1n)); exact HO243.out⟩, ⟨zk⟩, ⟨zb⟩⟩
   case round =>
    clear H'
    try clear c6
    try clear c7
    try clear c7b0
    try clear c7b1
    try clear c8
    try clear c8b0
    try clear c8b1
    try clear z4U
    try clear z4V
    obtain ⟨x4_2, x5_2, rfl, HA, HK2, HO_4, z5Q, HB⟩ := hrel
    cases gk with
    | zero => exact absurd HA.out (by simp [z0j.l0])
    | succ k2 =>
     have H := HA.out
     clear HA
     simp only [z0j.l0] at H
     by_cases c11 : x5_2 < (l0_0.length : Int)
     rotate_left
     ·rw [if_neg c11] at H
      have c11b0 : decide (x5_2 < (l0_0.length : Int)) = false := decide_eq_false c11
      clear c11
      have H' := z0a.mk H
      clear H
      go_wp2
      go_loopg [8] k2 (fun kq v8 w' => ∃ (x8_3 : Int), v8 = .int .i64 x8_3 ∧ z0a (z0j.l2 kq (l0_0.length : Int) x4_2 x8_3 = some r) ∧ z0a (kq ≤ k2) ∧ z0a (Kd.R (Kd.int .i64) 3 w' w.heap.size (fun _ => True) v242 x4_2) ∧ z0a (w'.heap[x1h]? = some (.cells #[(.slice z0U l0_0.length c0_0)] 49 (0, 0))) ∧ z0a (Below w.heap.size w w'))
      case atStart => exact ⟨(1), ze, H', ⟨Nat.le_refl _⟩, ⟨by (with_reducible repeat (first | apply Kd.z0Z | apply Kd.z0Y | apply Kd.z1n)); exact HO_4.out⟩, ⟨zk⟩, ⟨zb⟩⟩
      case round =>
       clear H'
       try clear c6
       try clear c7
       try clear c7b0
       try clear c7b1
       try clear c8
       try clear c8b0
       try clear c8b1
       try clear c11
       try clear c11b0
       try clear z4U
       try clear z4V
       obtain ⟨x8_3, rfl, HA, HK3, HO_4, z5Q, HB⟩ := hrel
       cases gk with
       | zero => exact absurd HA.out (by simp [z0j.l2])
       | succ k3 =>
        have H := HA.out
        clear HA
        simp only [z0j.l2] at H
        by_cases c39 : x8_3 < (l0_0.length : Int)
        rotate_left
        ·rw [if_neg c39] at H
         have c39b0 : decide (x8_3 < (l0_0.length : Int)) = false := decide_eq_false c39
         clear c39
         obtain rfl := Option.some.inj H
         go_wp2
         go_ret
         exact ⟨zr, zb⟩
        rw [if_pos c39] at H
        have c39b0 : decide (x8_3 < (l0_0.length : Int)) = true := decide_eq_true c39
        clear c39
        by_cases c40 : 0 ≤ x8_3
        rotate_left
        ·rw [if_neg c40] at H
         exact absurd H (by simp)
        rw [if_pos c40] at H
        have c40b0 : decide (0 ≤ x8_3) = true := decide_eq_true c40
        clear c40
        by_cases c41 : x8_3 < (x4_2.length : Int)
        rotate_left
        ·rw [if_neg c41] at H
         exact absurd H (by simp)
        rw [if_pos c41] at H
        have c41b0 : decide (x8_3 < (x4_2.length : Int)) = true := decide_eq_true c41
        clear c41
        by_cases c42 : (rd x4_2 x8_3) = 1
        rotate_left
        ·rw [if_neg c42] at H
         have c42b0 : ((rd x4_2 x8_3) == 1) = false := beq_eq_false_iff_ne.mpr c42
         have c42b1 : ((rd x4_2 x8_3) != 1) = true := bne_iff_ne.mpr c42
         obtain rfl := Option.some.inj H
         obtain ⟨Ao44, co44, eo44⟩ := Kd.z2q HO_4.out
         subst eo44
         have p252 : 0 ≤ (x8_3 : Int) := za
         have q252 : x8_3 < (x4_2.length : Int) := za
         obtain ⟨ad252, e252, w1i⟩ := Kd.z3d (Kd.z1K HO_4.out).2.2 x8_3 p252 q252
         cases e252
         replace p252 := eq_true p252
         replace q252 := eq_true q252
         go_wp2
         go_ret
         exact ⟨zr, zb⟩
        rw [if_pos c42] at H
        have c42b0 : ((rd x4_2 x8_3) == 1) = true := beq_iff_eq.mpr c42
        have c42b1 : ((rd x4_2 x8_3) != 1) = false := bne_eq_false_iff_eq.mpr c42
        clear c42
        have H' := z0a.mk H
        clear H
        obtain ⟨Ao43, co43, eo43⟩ := Kd.z2q HO_4.out
        subst eo43
        have p252 : 0 ≤ (x8_3 : Int) := za
        have q252 : x8_3 < (x4_2.length : Int) := za
        obtain ⟨ad252, e252, w1i⟩ := Kd.z3d (Kd.z1K HO_4.out).2.2 x8_3 p252 q252
        cases e252
        replace p252 := eq_true p252
        replace q252 := eq_true q252
        go_wp2
        go_roundg k3
        case measure => have := HJ1.out; have := HK2.out; have := HK3.out; omega
        case rel => exact ⟨(wrap64 (x8_3 + 1)), ze, H', ⟨by have := HJ1.out; have := HK2.out; have := HK3.out; omega⟩, ⟨by (with_reducible repeat (first | apply Kd.z0Z | apply Kd.z0Y | apply Kd.z1n)); exact HO_4.out⟩, ⟨zk⟩, ⟨zb⟩⟩
     rw [if_pos c11] at H
     have c11b0 : decide (x5_2 < (l0_0.length : Int)) = true := decide_eq_true c11
     clear c11
     have HC12 := z0a.mk H
     clear H
     go_upto_region 8 with (fail)
     go_cut [42] (fun v42 wc => ∃ (kq : Nat) (x42_11 : Bool), v42 = .bool x42_11 ∧ z0a (z0j.j2 kq (l0_0.length : Int) x4_2 x5_2 x42_11 l0_0 = some r) ∧ z0a (kq ≤ k2) ∧ z0a (Kd.R (Kd.int .i64) 3 wc w.heap.size (fun _ => True) v242 x4_2) ∧ z0a (wc.heap[x1h]? = some (.cells #[(.slice z0U l0_0.length c0_0)] 49 (0, 0))) ∧ z0a (Below w.heap.size w wc))
     case first =>
      have H := HC12.out
      clear HC12
      by_cases c13 : 0 ≤ x5_2
      rotate_left
      ·rw [if_neg c13] at H
       exact absurd H (by simp)
      rw [if_pos c13] at H
      have c13b0 : decide (0 ≤ x5_2) = true := decide_eq_true c13
      clear c13
      (first | rw [c13b0] | (simp only [z0V, z0W]; rw [c13b0]) | skip)
      by_cases c14 : x5_2 < (l0_0.length : Int)
      rotate_left
      ·rw [if_neg c14] at H
       exact absurd H (by simp)
      rw [if_pos c14] at H
      have c14b0 : decide (x5_2 < (l0_0.length : Int)) = true := decide_eq_true c14
      clear c14
      replace H := Option.bind_eq_some_iff.mp H
      obtain ⟨t245, A150, H⟩ := H
      replace H : (if t245 = true then (z0j.j2 k2 (l0_0.length : Int) x4_2 x5_2 (decide ((((z0g l0_0 x5_2).f4).length : Int) ≥ (l0_0.length : Int))) l0_0) else (z0j.j2 k2 (l0_0.length : Int) x4_2 x5_2 true l0_0)) = some r := H
      have A15 := z0a.mk A150
      clear A150
      by_cases c16 : t245 = true
      rotate_left
      ·replace c16 := Bool.eq_false_iff.mpr c16
       subst c16
       have H1 : (z0j.j2 k2 (l0_0.length : Int) x4_2 x5_2 true l0_0) = some r := by rw [if_neg (show ¬ (false = true) by decide)] at H; exact H
       clear H
       have H := H1
       clear H1
       have H' := z0a.mk H
       clear H
       obtain ⟨z5x, z5y⟩ := zc1 wr z5Q.out
       have p244 : 0 ≤ (x5_2 : Int) := za
       have q244 : x5_2 < (l0_0.length : Int) := za
       obtain ⟨ad244, x5f, c244_4, e244, y3l, y3m, y3n, y3o, y3p, y3q, y3r⟩ := z3y z2g.out x5_2 p244 q244
       cases e244
       replace y3l := zx HB y3l
       replace y3m := zx HB y3m
       replace y3n := zx HB y3n
       replace y3o := zx HB y3o
       replace y3p := zx HB y3p
       have w1j := z0a.mk y3r
       have y9s := z0a.mk y3q
       clear y3r y3q
       replace p244 := eq_true p244
       replace q244 := eq_true q244
       go_wp2_with (first | ((with_reducible refine z0m (f := 242) rfl ?_); refine z1a (some 30) rfl rfl Tryz.func242 (by kernel_rfl) rfl #[.agg #[.int .u8 ((z0g l0_0 x5_2).f0), .int .i32 ((z0g l0_0 x5_2).f1), .int .u32 ((z0g l0_0 x5_2).f2), .int .u32 ((z0g l0_0 x5_2).f3), .slice x5f ((z0g l0_0 x5_2).f4).length c244_4]] rfl zq ?_; (with_reducible refine (z0k.calls k2 ((z0g l0_0 x5_2).f0) ((z0g l0_0 x5_2).f1) ((z0g l0_0 x5_2).f2) ((z0g l0_0 x5_2).f3) _ _ ((z0g l0_0 x5_2).f4) false _ ?z0M y9s.out A15.out).mono ?_); (case z0M => exact zs); rintro e w21 ⟨rfl, hb⟩; refine ⟨_, rfl, ?_⟩; replace HO_4 := z0a.mk (Kd.z2f (by (with_reducible repeat (first | apply Kd.z0Z | apply Kd.z0Y | apply Kd.z1n)); exact HO_4.out) hb); replace z5Q := zK z5Q hb; replace HB := zB HB hb; (try clear hb)))
       go_meet
       case rel => exact ⟨_, (true), ze, H', ⟨by have := HJ1.out; have := HK2.out; first | omega | exact Nat.le_refl _⟩, ⟨by (with_reducible repeat (first | apply Kd.z0Z | apply Kd.z0Y | apply Kd.z1n)); exact HO_4.out⟩, ⟨zk⟩, ⟨zb⟩⟩
      subst c16
      have H1 : (z0j.j2 k2 (l0_0.length : Int) x4_2 x5_2 (decide ((((z0g l0_0 x5_2).f4).length : Int) ≥ (l0_0.length : Int))) l0_0) = some r := by rw [if_pos rfl] at H; exact H
      clear H
      have H := H1
      clear H1
      have H' := z0a.mk H
      clear H
      obtain ⟨y2d, y2e⟩ := zc1 wr z5Q.out
      have p244 : 0 ≤ (x5_2 : Int) := za
      have q244 : x5_2 < (l0_0.length : Int) := za
      obtain ⟨ad244, x5f, c244_4, e244, y3l, y3m, y3n, y3o, y3p, y3q, y3r⟩ := z3y z2g.out x5_2 p244 q244
      cases e244
      replace y3l := zx HB y3l
      replace y3m := zx HB y3m
      replace y3n := zx HB y3n
      replace y3o := zx HB y3o
      replace y3p := zx HB y3p
      have w1j := z0a.mk y3r
      have y9s := z0a.mk y3q
      clear y3r y3q
      replace p244 := eq_true p244
      replace q244 := eq_true q244
      go_wp2_with (first | ((with_reducible refine z0m (f := 242) rfl ?_); refine z1a (some 30) rfl rfl Tryz.func242 (by kernel_rfl) rfl #[.agg #[.int .u8 ((z0g l0_0 x5_2).f0), .int .i32 ((z0g l0_0 x5_2).f1), .int .u32 ((z0g l0_0 x5_2).f2), .int .u32 ((z0g l0_0 x5_2).f3), .slice x5f ((z0g l0_0 x5_2).f4).length c244_4]] rfl zq ?_; (with_reducible refine (z0k.calls k2 ((z0g l0_0 x5_2).f0) ((z0g l0_0 x5_2).f1) ((z0g l0_0 x5_2).f2) ((z0g l0_0 x5_2).f3) _ _ ((z0g l0_0 x5_2).f4) true _ ?z0M y9s.out A15.out).mono ?_); (case z0M => exact zs); rintro e w18 ⟨rfl, hb⟩; refine ⟨_, rfl, ?_⟩; replace HO_4 := z0a.mk (Kd.z2f (by (with_reducible repeat (first | apply Kd.z0Z | apply Kd.z0Y | apply Kd.z1n)); exact HO_4.out) hb); replace z5Q := zK z5Q hb; replace HB := zB HB hb; (try clear hb); obtain ⟨z6A, z6B⟩ := zc1 w18 z5Q.out; have p246 : 0 ≤ (x5_2 : Int) := za; have q246 : x5_2 < (l0_0.length : Int) := za; obtain ⟨ad246, A246_4, c246_4, e246, x5g, x5h, x5i, x5j, x5k, x5l, x5m⟩ := z3y z2g.out x5_2 p246 q246; obtain rfl : ad244 = ad246 := (by injection e246); replace x5g := zx HB x5g; replace x5h := zx HB x5h; replace x5i := zx HB x5i; replace x5j := zx HB x5j; replace x5k := zx HB x5k; have HR246_4 := z0a.mk x5m; have HC246_4 := z0a.mk x5l; clear x5m x5l; replace p246 := eq_true p246; replace q246 := eq_true q246))
      go_meet
      case rel => exact ⟨_, (decide ((((z0g l0_0 x5_2).f4).length : Int) ≥ (l0_0.length : Int))), ze, H', ⟨by have := HJ1.out; have := HK2.out; first | omega | exact Nat.le_refl _⟩, ⟨by (with_reducible repeat (first | apply Kd.z0Z | apply Kd.z0Y | apply Kd.z1n)); exact HO_4.out⟩, ⟨zk⟩, ⟨zb⟩⟩
     case rest =>
      clear HC12
      try clear c6
      try clear c7
      try clear c7b0
      try clear c7b1
      try clear c8
      try clear c8b0
      try clear c8b1
      try clear c11
      try clear c11b0
      try clear z4U
      try clear z4V
      obtain ⟨kq, x42_11, rfl, HA, HJ11, HO_4, z5Q, HB⟩ := hcut
      cases kq with
      | zero => exact absurd HA.out (by simp [z0j.j2])
      | succ kj11 =>
       have H := HA.out
       clear HA
       simp only [z0j.j2] at H
       by_cases c22 : x42_11 = true
       ·subst c22
        have H1 : (some false) = some r := by rw [if_pos rfl] at H; exact H
        clear H
        have H := H1
        clear H1
        obtain rfl := Option.some.inj H
        go_wp2
        go_ret
        exact ⟨zr, zb⟩
       replace c22 := Bool.eq_false_iff.mpr c22
       subst c22
       have H1 : (z0j.l1 kj11 (l0_0.length : Int) x4_2 x5_2 0 l0_0) = some r := by rw [if_neg (show ¬ (false = true) by decide)] at H; exact H
       clear H
       have H := H1
       clear H1
       have H' := z0a.mk H
       clear H
       go_wp2
       go_loopg [6] kj11 (fun kq v6 w' => ∃ (x4_4 : List Int) (x6_4 : Int), v6 = .int .i64 x6_4 ∧ z0a (z0j.l1 kq (l0_0.length : Int) x4_4 x5_2 x6_4 l0_0 = some r) ∧ z0a (kq ≤ kj11) ∧ z0a (Kd.R (Kd.int .i64) 3 w' w.heap.size (fun _ => True) v242 x4_4) ∧ z0a (w'.heap[x1h]? = some (.cells #[(.slice z0U l0_0.length c0_0)] 49 (0, 0))) ∧ z0a (Below w.heap.size w w'))
       case atStart => exact ⟨(x4_2), (0), ze, H', ⟨Nat.le_refl _⟩, ⟨by (with_reducible repeat (first | apply Kd.z0Z | apply Kd.z0Y | apply Kd.z1n)); exact HO_4.out⟩, ⟨zk⟩, ⟨zb⟩⟩
       case round =>
        clear H'
        try clear c6
        try clear c7
        try clear c7b0
        try clear c7b1
        try clear c8
        try clear c8b0
        try clear c8b1
        try clear c11
        try clear c11b0
        try clear c22
        try clear z4U
        try clear z4V
        obtain ⟨x4_4, x6_4, rfl, HA, HK4, HO_4, z5Q, HB⟩ := hrel
        cases gk with
        | zero => exact absurd HA.out (by simp [z0j.l1])
        | succ k4 =>
         have H := HA.out
         clear HA
         simp only [z0j.l1] at H
         by_cases c23 : 0 ≤ x5_2
         rotate_left
         ·rw [if_neg c23] at H
          exact absurd H (by simp)
         rw [if_pos c23] at H
         have c23b0 : decide (0 ≤ x5_2) = true := decide_eq_true c23
         clear c23
         by_cases c24 : x5_2 < (l0_0.length : Int)
         rotate_left
         ·rw [if_neg c24] at H
          exact absurd H (by simp)
         rw [if_pos c24] at H
         have c24b0 : decide (x5_2 < (l0_0.length : Int)) = true := decide_eq_true c24
         clear c24
         by_cases c25 : x6_4 < (((z0g l0_0 x5_2).f4).length : Int)
         rotate_left
         ·rw [if_neg c25] at H
          have c25b0 : decide (x6_4 < (((z0g l0_0 x5_2).f4).length : Int)) = false := decide_eq_false c25
          clear c25
          have H' := z0a.mk H
          clear H
          obtain ⟨z9z, z9A⟩ := zc1 wr z5Q.out
          have p247 : 0 ≤ (x5_2 : Int) := za
          have q247 : x5_2 < (l0_0.length : Int) := za
          obtain ⟨ad247, x5n, c247_4, e247, z5B, z5C, z5D, z5E, z4R, z5F, z5G⟩ := z3y z2g.out x5_2 p247 q247
          cases e247
          replace z5B := zx HB z5B
          replace z5C := zx HB z5C
          replace z5D := zx HB z5D
          replace z5E := zx HB z5E
          replace z4R := zx HB z4R
          have y9t := z0a.mk z5G
          have y9u := z0a.mk z5F
          clear z5G z5F
          replace p247 := eq_true p247
          replace q247 := eq_true q247
          go_wp2
          go_roundg k4
          case measure => have := HJ1.out; have := HK2.out; have := HJ11.out; have := HK4.out; omega
          case rel => exact ⟨(x4_4), (wrap64 (x5_2 + 1)), ze, H', ⟨by have := HJ1.out; have := HK2.out; have := HJ11.out; have := HK4.out; omega⟩, ⟨by (with_reducible repeat (first | apply Kd.z0Z | apply Kd.z0Y | apply Kd.z1n)); exact HO_4.out⟩, ⟨zk⟩, ⟨zb⟩⟩
         rw [if_pos c25] at H
         have c25b0 : decide (x6_4 < (((z0g l0_0 x5_2).f4).length : Int)) = true := decide_eq_true c25
         clear c25
         by_cases c26 : 0 ≤ x6_4
         rotate_left
         ·rw [if_neg c26] at H
          exact absurd H (by simp)
         rw [if_pos c26] at H
         have c26b0 : decide (0 ≤ x6_4) = true := decide_eq_true c26
         clear c26
         by_cases c27 : (rd ((z0g l0_0 x5_2).f4) x6_4) ≤ x5_2
         ·rw [if_pos c27] at H
          have c27b0 : decide ((rd ((z0g l0_0 x5_2).f4) x6_4) ≤ x5_2) = true := decide_eq_true c27
          clear c27
          obtain rfl := Option.some.inj H
          obtain ⟨y1R, y1S⟩ := zc1 wr z5Q.out
          have p247 : 0 ≤ (x5_2 : Int) := za
          have q247 : x5_2 < (l0_0.length : Int) := za
          obtain ⟨ad247, x5n, c247_4, e247, z5B, z5C, z5D, z5E, z4R, z5F, z5G⟩ := z3y z2g.out x5_2 p247 q247
          cases e247
          replace z5B := zx HB z5B
          replace z5C := zx HB z5C
          replace z5D := zx HB z5D
          replace z5E := zx HB z5E
          replace z4R := zx HB z4R
          have y9t := z0a.mk z5G
          have y9u := z0a.mk z5F
          clear z5G z5F
          replace p247 := eq_true p247
          replace q247 := eq_true q247
          have p248 : 0 ≤ (x5_2 : Int) := za
          have q248 : x5_2 < (l0_0.length : Int) := za
          obtain ⟨ad248, x7Q, c248_4, e248, z8z, z8A, z8B, z8C, z5H, z8D, z8E⟩ := z3y z2g.out x5_2 p248 q248
          obtain rfl : ad247 = ad248 := (by injection e248)
          replace z8z := zx HB z8z
          replace z8A := zx HB z8A
          replace z8B := zx HB z8B
          replace z8C := zx HB z8C
          replace z5H := zx HB z5H
          have y3s := z0a.mk z8E
          have x5o := z0a.mk z8D
          clear z8E z8D
          replace p248 := eq_true p248
          replace q248 := eq_true q248
          have ea_ := Option.some.inj (z4R.symm.trans z5H)
          injection ea_ with ea_ en_ ec_
          subst ea_
          subst ec_
          clear en_
          have p249 : 0 ≤ (x6_4 : Int) := za
          have q249 : x6_4 < (((z0g l0_0 x5_2).f4).length : Int) := za
          obtain ⟨ad249, e249, z8F⟩ := Kd.z3d y3s.out x6_4 p249 q249
          cases e249
          replace z8F := zx HB z8F
          replace p249 := eq_true p249
          replace q249 := eq_true q249
          go_wp2
          go_ret
          exact ⟨zr, zb⟩
         rw [if_neg c27] at H
         have c27b0 : decide ((rd ((z0g l0_0 x5_2).f4) x6_4) ≤ x5_2) = false := decide_eq_false c27
         clear c27
         by_cases c29 : (rd ((z0g l0_0 x5_2).f4) x6_4) ≥ (l0_0.length : Int)
         ·rw [if_pos c29] at H
          have c29b0 : decide ((l0_0.length : Int) ≤ (rd ((z0g l0_0 x5_2).f4) x6_4)) = true := decide_eq_true c29
          clear c29
          obtain rfl := Option.some.inj H
          obtain ⟨y5P, y5Q⟩ := zc1 wr z5Q.out
          have p247 : 0 ≤ (x5_2 : Int) := za
          have q247 : x5_2 < (l0_0.length : Int) := za
          obtain ⟨ad247, x5n, c247_4, e247, z5B, z5C, z5D, z5E, z4R, z5F, z5G⟩ := z3y z2g.out x5_2 p247 q247
          cases e247
          replace z5B := zx HB z5B
          replace z5C := zx HB z5C
          replace z5D := zx HB z5D
          replace z5E := zx HB z5E
          replace z4R := zx HB z4R
          have y9t := z0a.mk z5G
          have y9u := z0a.mk z5F
          clear z5G z5F
          replace p247 := eq_true p247
          replace q247 := eq_true q247
          have p248 : 0 ≤ (x5_2 : Int) := za
          have q248 : x5_2 < (l0_0.length : Int) := za
          obtain ⟨ad248, x7Q, c248_4, e248, z8z, z8A, z8B, z8C, z5H, z8D, z8E⟩ := z3y z2g.out x5_2 p248 q248
          obtain rfl : ad247 = ad248 := (by injection e248)
          replace z8z := zx HB z8z
          replace z8A := zx HB z8A
          replace z8B := zx HB z8B
          replace z8C := zx HB z8C
          replace z5H := zx HB z5H
          have y3s := z0a.mk z8E
          have x5o := z0a.mk z8D
          clear z8E z8D
          replace p248 := eq_true p248
          replace q248 := eq_true q248
          have ea_ := Option.some.inj (z4R.symm.trans z5H)
          injection ea_ with ea_ en_ ec_
          subst ea_
          subst ec_
          clear en_
          have p249 : 0 ≤ (x6_4 : Int) := za
          have q249 : x6_4 < (((z0g l0_0 x5_2).f4).length : Int) := za
          obtain ⟨ad249, e249, z8F⟩ := Kd.z3d y3s.out x6_4 p249 q249
          cases e249
          replace z8F := zx HB z8F
          replace p249 := eq_true p249
          replace q249 := eq_true q249
          go_wp2
          go_ret
          exact ⟨zr, zb⟩
         rw [if_neg c29] at H
         have c29b0 : decide ((l0_0.length : Int) ≤ (rd ((z0g l0_0 x5_2).f4) x6_4)) = false := decide_eq_false c29
         clear c29
         by_cases c31 : 0 ≤ (rd ((z0g l0_0 x5_2).f4) x6_4)
         rotate_left
         ·rw [if_neg c31] at H
          exact absurd H (by simp)
         rw [if_pos c31] at H
         have c31b0 : decide (0 ≤ (rd ((z0g l0_0 x5_2).f4) x6_4)) = true := decide_eq_true c31
         clear c31
         by_cases c32 : (rd ((z0g l0_0 x5_2).f4) x6_4) < (x4_4.length : Int)
         rotate_left
         ·rw [if_neg c32] at H
          exact absurd H (by simp)
         rw [if_pos c32] at H
         have c32b0 : decide ((rd ((z0g l0_0 x5_2).f4) x6_4) < (x4_4.length : Int)) = true := decide_eq_true c32
         clear c32
         obtain ⟨y251, hy251⟩ : ∃ y_ : List Int, y_ = (x4_4.set ((rd ((z0g l0_0 x5_2).f4) x6_4) : Int).toNat (wrap64 ((rd x4_4 (rd ((z0g l0_0 x5_2).f4) x6_4)) + 1))) := ⟨_, rfl⟩
         replace H : (z0j.l1 k4 (l0_0.length : Int) y251 x5_2 (wrap64 (x6_4 + 1)) l0_0) = some r := by first | (rw [hy251]; with_reducible exact H) | (have H2_ := (Option.bind_some _ _).symm.trans H; rw [hy251]; with_reducible exact H2_) | (have H2_ := (Option.bind_some _ _).symm.trans H; with_reducible exact H2_) | with_reducible exact H | (rw [hy251]; exact H) | exact H
         have Ny251 := z0a.mk hy251
         clear hy251
         have H' := z0a.mk H
         clear H
         obtain ⟨y0z, y0A⟩ := zc1 wr z5Q.out
         have p247 : 0 ≤ (x5_2 : Int) := za
         have q247 : x5_2 < (l0_0.length : Int) := za
         obtain ⟨ad247, x5n, c247_4, e247, z5B, z5C, z5D, z5E, z4R, z5F, z5G⟩ := z3y z2g.out x5_2 p247 q247
         cases e247
         replace z5B := zx HB z5B
         replace z5C := zx HB z5C
         replace z5D := zx HB z5D
         replace z5E := zx HB z5E
         replace z4R := zx HB z4R
         have y9t := z0a.mk z5G
         have y9u := z0a.mk z5F
         clear z5G z5F
         replace p247 := eq_true p247
         replace q247 := eq_true q247
         have p248 : 0 ≤ (x5_2 : Int) := za
         have q248 : x5_2 < (l0_0.length : Int) := za
         obtain ⟨ad248, x7Q, c248_4, e248, z8z, z8A, z8B, z8C, z5H, z8D, z8E⟩ := z3y z2g.out x5_2 p248 q248
         obtain rfl : ad247 = ad248 := (by injection e248)
         replace z8z := zx HB z8z
         replace z8A := zx HB z8A
         replace z8B := zx HB z8B
         replace z8C := zx HB z8C
         replace z5H := zx HB z5H
         have y3s := z0a.mk z8E
         have x5o := z0a.mk z8D
         clear z8E z8D
         replace p248 := eq_true p248
         replace q248 := eq_true q248
         have ea_ := Option.some.inj (z4R.symm.trans z5H)
         injection ea_ with ea_ en_ ec_
         subst ea_
         subst ec_
         clear en_
         have p249 : 0 ≤ (x6_4 : Int) := za
         have q249 : x6_4 < (((z0g l0_0 x5_2).f4).length : Int) := za
         obtain ⟨ad249, e249, z8F⟩ := Kd.z3d y3s.out x6_4 p249 q249
         cases e249
         replace z8F := zx HB z8F
         replace p249 := eq_true p249
         replace q249 := eq_true q249
         obtain ⟨Ao35, co35, eo35⟩ := Kd.z2q HO_4.out
         subst eo35
         have p250 : 0 ≤ ((rd ((z0g l0_0 x5_2).f4) x6_4) : Int) := za
         have q250 : (rd ((z0g l0_0 x5_2).f4) x6_4) < (x4_4.length : Int) := za
         obtain ⟨ad250, e250, w1k⟩ := Kd.z3d (Kd.z1K HO_4.out).2.2 (rd ((z0g l0_0 x5_2).f4) x6_4) p250 q250
         cases e250
         replace p250 := eq_true p250
         replace q250 := eq_true q250
         have p33 : 0 ≤ ((rd ((z0g l0_0 x5_2).f4) x6_4) : Int) := za
         have q33 : ((rd ((z0g l0_0 x5_2).f4) x6_4) : Int) < ((x4_4.length : Int) : Int) := za
         obtain ⟨go33, co33, eo33, gb33, gl33, cl33, HG33⟩ := Kd.z9T HO_4.out (by omega)
         (first | cases eo33 | (injection eo33 with ea_ en_ ec_; (first | subst ea_ | (injection ea_ with ea_; subst ea_)); subst ec_; clear en_))
         have GB33 := z0a.mk gb33
         have GG33 := z0a.mk HG33
         clear gb33 gl33 HG33
         (first | simp only [add_plain] at w1k | skip)
         obtain ⟨hx33_0, hf33_0⟩ := Kd.y4T 0 HO_4.out ((rd ((z0g l0_0 x5_2).f4) x6_4) : Int) p33 q33
         replace p33 := eq_true p33
         replace q33 := eq_true q33
         have HP36 := Kd.x7K HO_4.out ((rd ((z0g l0_0 x5_2).f4) x6_4) : Int) (wrap64 ((rd x4_4 (rd ((z0g l0_0 x5_2).f4) x6_4)) + 1))
         go_wp2_with (first | ((with_reducible refine y4t (t := 3) (p := 76) rfl ?_); refine y1D (t := 3) (p := 76) (v := ?vo_w37) (w1 := (wr.setCell ⟨go33, ((rd ((z0g l0_0 x5_2).f4) x6_4) : Int).toNat, none⟩ (.int .i64 (wrap64 ((rd x4_4 (rd ((z0g l0_0 x5_2).f4) x6_4)) + 1))))) ?hg ?ho ?hn ?hr ?_; (case ho => rfl); (case hg => rfl); (case hn => rfl); (case hr => first | (go_simp; done) | (go_simp; rfl)); intro w37 hw; have hg : wr.grownBy w37 (some go33) := (by rw [hw]; exact HP36.2); have hp_ : Kd.R (Kd.int .i64) 3 w37 w.heap.size (fun _ => True) (.slice (some ⟨go33, 0, none⟩) x4_4.length co35) y251 := (by rw [hw, Ny251.out]; exact HP36.1); clear HP36; have n0_ := z0a.mk (hp_); have n1_ := z0a.mk (z5t (g := x1h) (o := .cells #[.slice (some ad247) l0_0.length c0_0] 49 (0, 0)) zk hg (Kd.x7G HO_4.out z5Q.out (by decide))); have n2_ := z0a.mk ((by rw [hw]; exact z1X (HB.out) GB33.out : Below w.heap.size w w37)); clear HO_4; clear z5Q; clear HB; have HO_4 := n0_; have z5Q := n1_; have HB := n2_; clear n0_ n1_ n2_; clear hg hw hp_))
         go_roundg k4
         case measure => have := HJ1.out; have := HK2.out; have := HJ11.out; have := HK4.out; omega
         case rel => exact ⟨(y251), (wrap64 (x6_4 + 1)), ze, H', ⟨by have := HJ1.out; have := HK2.out; have := HJ11.out; have := HK4.out; omega⟩, ⟨by (with_reducible repeat (first | apply Kd.z0Z | apply Kd.z0Y | apply Kd.z1n)); exact HO_4.out⟩, ⟨zk⟩, ⟨zb⟩⟩
def z0y.l0 : Nat → Int → List ByteArray → List (z1J) → List (S58) → Option (Bool)
 | 0, _, _, _, _ => none
 | k + 1, x5, z9I, z9J, z4Z => if x5 < (z4Z.length : Int) then (if 0 ≤ x5 then (if ((z0g z4Z x5).f0) = 2 then ((z0G.f k z9I z9J ((z0g z4Z x5).f1)).bind fun t258 => (if t258 < 0 then (some false) else (if ((z0g z4Z x5).f0) = 3 then ((z1e.f z9I z9J ((z0g z4Z x5).f2) ((z0g z4Z x5).f3)).bind fun t259 => (if t259 = true then (z0y.l0 k (wrap64 (x5 + 1)) z9I z9J z4Z) else (some false))) else (z0y.l0 k (wrap64 (x5 + 1)) z9I z9J z4Z)))) else (if ((z0g z4Z x5).f0) = 3 then ((z1e.f z9I z9J ((z0g z4Z x5).f2) ((z0g z4Z x5).f3)).bind fun t260 => (if t260 = true then (z0y.l0 k (wrap64 (x5 + 1)) z9I z9J z4Z) else (some false))) else (z0y.l0 k (wrap64 (x5 + 1)) z9I z9J z4Z))) else (none)) else (some true)
def z0y.f (k : Nat) (l0_0 : List ByteArray) (l0_1 : List (z1J)) (l1_0 : List (S58)) : Option (Bool) := (z0j.f k l1_0).bind fun t255 => (if t255 = true then (z0y.l0 k 0 l0_0 l0_1 l1_0) else (some false))
theorem z0y.z1t : ∀ k, (∀ y0 y1 y2 y3, LeO (z0y.l0 k y0 y1 y2 y3) (z0y.l0 (k + 1) y0 y1 y2 y3))
 | 0 => fun _ _ _ _ r h => by simp [z0y.l0] at h
 | k + 1 => by
  have ih0 := z0y.z1t k
  ·intro y0 y1 y2 y3
   unfold z0y.l0
   repeat' first
   | (with_reducible exact ih0 _ _ _ _)
   | (with_reducible exact z0G.mono _ _ _ _)
   | (with_reducible exact z0j.mono _ _)
   | (with_reducible exact LeO.refl _)
   | (with_reducible exact LeO.none _)
   | (with_reducible refine LeO.ite ?_ ?_)
   | (with_reducible refine LeO.bind ?_ (fun _ => ?_))
theorem z0y.mono : ∀ a0 a1 a2 k, LeO (z0y.f k a0 a1 a2) (z0y.f (k + 1) a0 a1 a2) := by
 intro a0 a1 a2 k
 have ih0 := z0y.z1t k
 unfold z0y.f
 repeat' first
   | (with_reducible exact ih0 _ _ _ _)
   | (with_reducible exact z0G.mono _ _ _ _)
   | (with_reducible exact z0j.mono _ _)
   | (with_reducible exact LeO.refl _)
   | (with_reducible exact LeO.none _)
   | (with_reducible refine LeO.ite ?_ ?_)
   | (with_reducible refine LeO.bind ?_ (fun _ => ?_))
set_option maxHeartbeats 8000000 in
set_option maxRecDepth 100000 in
theorem z0y.calls (k : Nat) (z0U : Option Addr) (c0_0 : Nat) (l0_0 : List ByteArray) (z0X : Option Addr) (c0_1 : Nat) (l0_1 : List (z1J)) (y7L : Option Addr) (c1_0 : Nat) (l1_0 : List (S58)) (r : Bool) (w : World) (hr0_0 : Kd.C Kd.string w z0U l0_0.length l0_0) (hc0_0 : l0_0.length ≤ c0_0) (hr0_1 : Kd.C z5a w z0X l0_1.length l0_1) (hc0_1 : l0_1.length ≤ c0_1) (hr1_0 : Kd.C k58 w y7L l1_0.length l1_0) (hc1_0 : l1_0.length ≤ c1_0) (h : z0y.f k l0_0 l0_1 l1_0 = some r) :
  Calls Tryz.prog 179 #[.agg #[.slice z0U l0_0.length c0_0, .slice z0X l0_1.length c0_1], .agg #[.slice y7L l1_0.length c1_0]] w fun e w' => e = .returned (.bool r) ∧ Below w.heap.size w w' := by
 have hu25 := Tryz.underlying25
 have hu49 := Tryz.underlying49
 have hu58 := Tryz.underlying58
 have z2g := z0a.mk hr0_0
 have z1g := z0a.mk hc0_0
 clear hr0_0 hc0_0
 have z2x := z0a.mk hr0_1
 have z1j := z0a.mk hc0_1
 clear hr0_1 hc0_1
 have y0v := z0a.mk hr1_0
 have x3g := z0a.mk hc1_0
 clear hr1_0 hc1_0
 have HB := z0a.mk (Below.refl w.heap.size w)
 have H : ((z0j.f k l1_0).bind fun t255 => (if t255 = true then (z0y.l0 k 0 l0_0 l0_1 l1_0) else (some false))) = some r := h
 clear h
 replace H := Option.bind_eq_some_iff.mp H
 obtain ⟨t255, A30, H⟩ := H
 replace H : (if t255 = true then (z0y.l0 k 0 l0_0 l0_1 l1_0) else (some false)) = some r := H
 have A3 := z0a.mk A30
 clear A30
 by_cases c4 : t255 = true
 rotate_left
 ·replace c4 := Bool.eq_false_iff.mpr c4
  subst c4
  have H1 : (some false) = some r := by rw [if_neg (show ¬ (false = true) by decide)] at H; exact H
  clear H
  have H := H1
  clear H1
  obtain rfl := Option.some.inj H
  go_enter Tryz.func179, Tryz.ntmps179
  go_wp2_with (first | ((with_reducible refine z0o (N := 2) rfl ?_); refine zo (cs := #[.slice z0U l0_0.length c0_0, .slice z0X l0_1.length c0_1]) (t := 25) ?_; intro y7m hg w84 hbox hb; have z2j := z0a.mk hbox; have GW253 := zG HB hg; have GE253 := zG HB hg; replace HB := zB HB hb; clear hb hbox hg) | ((with_reducible refine z0o (N := 3) rfl ?_); refine zo (cs := #[.slice y7L l1_0.length c1_0]) (t := 49) ?_; intro y7n hg w85 hbox hb; have z2s := z0a.mk hbox; have GW254 := zG HB hg; have GE254 := zG HB hg; have z3R := zN z2j hg; have z3S := zM z2j hg; replace z2j := zK z2j hb; replace HB := zB HB hb; clear hb hbox hg; have hnb86 := z3S.out; have hnc86 := z3R.out; obtain ⟨hcz87_0, hfz87_0⟩ := zc1 w85 z2s.out) | ((with_reducible refine z0m (f := 213) rfl ?_); refine z1a (some 8) rfl rfl Tryz.func213 (by kernel_rfl) rfl #[.agg #[.slice y7L l1_0.length c1_0]] rfl zq ?_; (with_reducible refine (z0j.calls k _ _ l1_0 false _ ?z0M x3g.out A3.out).mono ?_); (case z0M => exact zs); rintro e w88 ⟨rfl, hb⟩; refine ⟨_, rfl, ?_⟩; replace z2j := zK z2j hb; replace z2s := zK z2s hb; replace HB := zB HB hb; (try clear hb)))
  go_ret
  exact ⟨zr, zb⟩
 subst c4
 have H1 : (z0y.l0 k 0 l0_0 l0_1 l1_0) = some r := by rw [if_pos rfl] at H; exact H
 clear H
 have H := H1
 clear H1
 have H' := z0a.mk H
 clear H
 go_enter Tryz.func179, Tryz.ntmps179
 go_wp2_with (first | ((with_reducible refine z0o (N := 2) rfl ?_); refine zo (cs := #[.slice z0U l0_0.length c0_0, .slice z0X l0_1.length c0_1]) (t := 25) ?_; intro y7m hg w5 hbox hb; have z2j := z0a.mk hbox; have GW253 := zG HB hg; have GE253 := zG HB hg; replace HB := zB HB hb; clear hb hbox hg) | ((with_reducible refine z0o (N := 3) rfl ?_); refine zo (cs := #[.slice y7L l1_0.length c1_0]) (t := 49) ?_; intro y7n hg w6 hbox hb; have z2s := z0a.mk hbox; have GW254 := zG HB hg; have GE254 := zG HB hg; have z3R := zN z2j hg; have z3S := zM z2j hg; replace z2j := zK z2j hb; replace HB := zB HB hb; clear hb hbox hg; have hnb7 := z3S.out; have hnc7 := z3R.out; obtain ⟨y1c, y1d⟩ := zc1 w6 z2s.out) | ((with_reducible refine z0m (f := 213) rfl ?_); refine z1a (some 8) rfl rfl Tryz.func213 (by kernel_rfl) rfl #[.agg #[.slice y7L l1_0.length c1_0]] rfl zq ?_; (with_reducible refine (z0j.calls k _ _ l1_0 true _ ?z0M x3g.out A3.out).mono ?_); (case z0M => exact zs); rintro e w9 ⟨rfl, hb⟩; refine ⟨_, rfl, ?_⟩; replace z2j := zK z2j hb; replace z2s := zK z2s hb; replace HB := zB HB hb; (try clear hb)))
 go_loopg [5] k (fun kq v5 w' => ∃ (x5_1 : Int), v5 = .int .i64 x5_1 ∧ z0a (z0y.l0 kq x5_1 l0_0 l0_1 l1_0 = some r) ∧ z0a (kq ≤ k) ∧ z0a (w'.heap[y7m]? = some (.cells #[(.slice z0U l0_0.length c0_0), (.slice z0X l0_1.length c0_1)] 25 (0, 0))) ∧ z0a (w'.heap[y7n]? = some (.cells #[(.slice y7L l1_0.length c1_0)] 49 (0, 0))) ∧ z0a (Below w.heap.size w w'))
 case atStart => exact ⟨(0), ze, H', ⟨Nat.le_refl _⟩, ⟨zk⟩, ⟨zk⟩, ⟨zb⟩⟩
 case round =>
  clear H'
  try clear c4
  try clear y1c
  try clear y1d
  obtain ⟨x5_1, rfl, HA, HK1, z2j, z2s, HB⟩ := hrel
  cases gk with
  | zero => exact absurd HA.out (by simp [z0y.l0])
  | succ k1 =>
   have H := HA.out
   clear HA
   simp only [z0y.l0] at H
   by_cases c10 : x5_1 < (l1_0.length : Int)
   rotate_left
   ·rw [if_neg c10] at H
    have c10b0 : decide (x5_1 < (l1_0.length : Int)) = false := decide_eq_false c10
    clear c10
    obtain rfl := Option.some.inj H
    have hnb82 := z3S.out
    have hnc82 := z3R.out
    obtain ⟨w0c, w0d⟩ := zc1 wr z2s.out
    go_wp2
    go_ret
    exact ⟨zr, zb⟩
   rw [if_pos c10] at H
   have c10b0 : decide (x5_1 < (l1_0.length : Int)) = true := decide_eq_true c10
   clear c10
   by_cases c11 : 0 ≤ x5_1
   rotate_left
   ·rw [if_neg c11] at H
    exact absurd H (by simp)
   rw [if_pos c11] at H
   have c11b0 : decide (0 ≤ x5_1) = true := decide_eq_true c11
   clear c11
   by_cases c12 : ((z0g l1_0 x5_1).f0) = 2
   rotate_left
   ·rw [if_neg c12] at H
    have c12b0 : (((z0g l1_0 x5_1).f0) == 2) = false := beq_eq_false_iff_ne.mpr c12
    have c12b1 : (((z0g l1_0 x5_1).f0) != 2) = true := bne_iff_ne.mpr c12
    by_cases c57 : ((z0g l1_0 x5_1).f0) = 3
    rotate_left
    ·rw [if_neg c57] at H
     have c57b0 : (((z0g l1_0 x5_1).f0) == 3) = false := beq_eq_false_iff_ne.mpr c57
     have c57b1 : (((z0g l1_0 x5_1).f0) != 3) = true := bne_iff_ne.mpr c57
     have H' := z0a.mk H
     clear H
     have hnb76 := z3S.out
     have hnc76 := z3R.out
     obtain ⟨hcz77_0, hfz77_0⟩ := zc1 wr z2s.out
     have p256 : 0 ≤ (x5_1 : Int) := za
     have q256 : x5_1 < (l1_0.length : Int) := za
     obtain ⟨ad256, z7S, c256_4, e256, z3l, z3m, z3n, z3o, z3p, z3q, z3r⟩ := z3y y0v.out x5_1 p256 q256
     cases e256
     replace z3l := zx HB z3l
     replace z3m := zx HB z3m
     replace z3n := zx HB z3n
     replace z3o := zx HB z3o
     replace z3p := zx HB z3p
     have y0K := z0a.mk z3r
     have y0L := z0a.mk z3q
     clear z3r z3q
     replace p256 := eq_true p256
     replace q256 := eq_true q256
     go_wp2_with (first | ((with_reducible refine z0o (N := 6) rfl ?_); refine zo (cs := #[.int .u8 0, .int .i32 0, .int .u32 0, .int .u32 0, .slice none 0 0]) (t := 58) ?_; intro y1o hg w78 hbox hb; have z4f := z0a.mk hbox; have x1i := zG HB hg; have x1j := zG HB hg; have z1h := zN z2j hg; have z3s := zM z2j hg; have z1i := zN z2s hg; have z3t := zM z2s hg; replace z2j := zK z2j hb; replace z2s := zK z2s hb; replace HB := zB HB hb; clear hb hbox hg; have hnb79 := z3s.out; have hnc79 := z1h.out; have hnb80 := z3t.out; have hnc80 := z1i.out; obtain ⟨hcz81_0, hcz81_1, hcz81_2, hcz81_3, hcz81_4, hfz81_0, hfz81_1, hfz81_2, hfz81_3, hfz81_4⟩ := zc5 w78 z4f.out))
     go_roundg k1
     case measure => have := HK1.out; omega
     case rel => exact ⟨(wrap64 (x5_1 + 1)), ze, H', ⟨by have := HK1.out; omega⟩, ⟨by (with_reducible repeat (first | refine z0c ?_ _ | refine z0e ?_ | refine z0b ?_ _)); refine z0n ?_ z1h.out _; (with_reducible repeat (first | refine z0c ?_ _ | refine z0e ?_ | refine z0b ?_ _)); refine z0n ?_ z1h.out _; (with_reducible repeat (first | refine z0c ?_ _ | refine z0e ?_ | refine z0b ?_ _)); refine z0n ?_ z1h.out _; (with_reducible repeat (first | refine z0c ?_ _ | refine z0e ?_ | refine z0b ?_ _)); refine z0n ?_ z1h.out _; (with_reducible repeat (first | refine z0c ?_ _ | refine z0e ?_ | refine z0b ?_ _)); refine z0n ?_ z1h.out _; (with_reducible repeat (first | refine z0c ?_ _ | refine z0e ?_ | refine z0b ?_ _)); exact z2j.out⟩, ⟨by (with_reducible repeat (first | refine z0c ?_ _ | refine z0e ?_ | refine z0b ?_ _)); refine z0n ?_ z1i.out _; (with_reducible repeat (first | refine z0c ?_ _ | refine z0e ?_ | refine z0b ?_ _)); refine z0n ?_ z1i.out _; (with_reducible repeat (first | refine z0c ?_ _ | refine z0e ?_ | refine z0b ?_ _)); refine z0n ?_ z1i.out _; (with_reducible repeat (first | refine z0c ?_ _ | refine z0e ?_ | refine z0b ?_ _)); refine z0n ?_ z1i.out _; (with_reducible repeat (first | refine z0c ?_ _ | refine z0e ?_ | refine z0b ?_ _)); refine z0n ?_ z1i.out _; (with_reducible repeat (first | refine z0c ?_ _ | refine z0e ?_ | refine z0b ?_ _)); exact z2s.out⟩, ⟨zb⟩⟩
    rw [if_pos c57] at H
    have c57b0 : (((z0g l1_0 x5_1).f0) == 3) = true := beq_iff_eq.mpr c57
    have c57b1 : (((z0g l1_0 x5_1).f0) != 3) = false := bne_eq_false_iff_eq.mpr c57
    clear c57
    replace H := Option.bind_eq_some_iff.mp H
    obtain ⟨t260, A580, H⟩ := H
    replace H : (if t260 = true then (z0y.l0 k1 (wrap64 (x5_1 + 1)) l0_0 l0_1 l1_0) else (some false)) = some r := H
    have A58 := z0a.mk A580
    clear A580
    by_cases c59 : t260 = true
    rotate_left
    ·replace c59 := Bool.eq_false_iff.mpr c59
     subst c59
     have H1 : (some false) = some r := by rw [if_neg (show ¬ (false = true) by decide)] at H; exact H
     clear H
     have H := H1
     clear H1
     obtain rfl := Option.some.inj H
     have hnb68 := z3S.out
     have hnc68 := z3R.out
     obtain ⟨x8X, x8Y⟩ := zc1 wr z2s.out
     have p256 : 0 ≤ (x5_1 : Int) := za
     have q256 : x5_1 < (l1_0.length : Int) := za
     obtain ⟨ad256, z7S, c256_4, e256, z3l, z3m, z3n, z3o, z3p, z3q, z3r⟩ := z3y y0v.out x5_1 p256 q256
     cases e256
     replace z3l := zx HB z3l
     replace z3m := zx HB z3m
     replace z3n := zx HB z3n
     replace z3o := zx HB z3o
     replace z3p := zx HB z3p
     have y0K := z0a.mk z3r
     have y0L := z0a.mk z3q
     clear z3r z3q
     replace p256 := eq_true p256
     replace q256 := eq_true q256
     go_wp2_with (first | ((with_reducible refine z0o (N := 6) rfl ?_); refine zo (cs := #[.int .u8 0, .int .i32 0, .int .u32 0, .int .u32 0, .slice none 0 0]) (t := 58) ?_; intro y1o hg w70 hbox hb; have z4f := z0a.mk hbox; have x1i := zG HB hg; have x1j := zG HB hg; have z1h := zN z2j hg; have z3s := zM z2j hg; have z1i := zN z2s hg; have z3t := zM z2s hg; replace z2j := zK z2j hb; replace z2s := zK z2s hb; replace HB := zB HB hb; clear hb hbox hg; have hnb71 := z3s.out; have hnc71 := z1h.out; have hnb72 := z3t.out; have hnc72 := z1i.out; obtain ⟨hcz73_0, hcz73_1, hcz73_2, hcz73_3, hcz73_4, hfz73_0, hfz73_1, hfz73_2, hfz73_3, hfz73_4⟩ := zc5 w70 z4f.out; obtain ⟨w0e, w0f, w0g, w0h⟩ := zc2 w70 z2j.out) | (go_at_call 117; (with_reducible refine (z1e.calls _ _ l0_0 _ _ l0_1 ((z0g l1_0 x5_1).f2) ((z0g l1_0 x5_1).f3) false _ ?z0M z1g.out ?z0Q z1j.out A58.out).mono ?_); (case z0M => exact Kd.z0t z2g.out zb); (case z0Q => exact Kd.z0t z2x.out zb); rintro e w75 ⟨rfl, hb⟩; replace z2j := z0a.mk (z0O (g := y7m) (o := .cells #[.slice z0U l0_0.length c0_0, .slice z0X l0_1.length c0_1] 25 (0, 0)) (by (with_reducible repeat (first | refine z0c ?_ _ | refine z0e ?_ | refine z0b ?_ _)); refine z0n ?_ z1h.out _; (with_reducible repeat (first | refine z0c ?_ _ | refine z0e ?_ | refine z0b ?_ _)); refine z0n ?_ z1h.out _; (with_reducible repeat (first | refine z0c ?_ _ | refine z0e ?_ | refine z0b ?_ _)); refine z0n ?_ z1h.out _; (with_reducible repeat (first | refine z0c ?_ _ | refine z0e ?_ | refine z0b ?_ _)); refine z0n ?_ z1h.out _; (with_reducible repeat (first | refine z0c ?_ _ | refine z0e ?_ | refine z0b ?_ _)); refine z0n ?_ z1h.out _; (with_reducible repeat (first | refine z0c ?_ _ | refine z0e ?_ | refine z0b ?_ _)); exact z2j.out) hb); replace z2s := z0a.mk (z0O (g := y7n) (o := .cells #[.slice (some ad256) l1_0.length c1_0] 49 (0, 0)) (by (with_reducible repeat (first | refine z0c ?_ _ | refine z0e ?_ | refine z0b ?_ _)); refine z0n ?_ z1i.out _; (with_reducible repeat (first | refine z0c ?_ _ | refine z0e ?_ | refine z0b ?_ _)); refine z0n ?_ z1i.out _; (with_reducible repeat (first | refine z0c ?_ _ | refine z0e ?_ | refine z0b ?_ _)); refine z0n ?_ z1i.out _; (with_reducible repeat (first | refine z0c ?_ _ | refine z0e ?_ | refine z0b ?_ _)); refine z0n ?_ z1i.out _; (with_reducible repeat (first | refine z0c ?_ _ | refine z0e ?_ | refine z0b ?_ _)); refine z0n ?_ z1i.out _; (with_reducible repeat (first | refine z0c ?_ _ | refine z0e ?_ | refine z0b ?_ _)); exact z2s.out) hb); replace z4f := z0a.mk (z0O (g := y1o) (o := .cells #[.int .u8 ((z0g l1_0 x5_1).f0), .int .i32 ((z0g l1_0 x5_1).f1), .int .u32 ((z0g l1_0 x5_1).f2), .int .u32 ((z0g l1_0 x5_1).f3), .slice z7S ((z0g l1_0 x5_1).f4).length c256_4] 58 (0, 0)) (by (with_reducible repeat (first | refine z0c ?_ _ | refine z0e ?_ | refine z0b ?_ _)); refine z0N (cs := #[.int .u8 ((z0g l1_0 x5_1).f0), .int .i32 ((z0g l1_0 x5_1).f1), .int .u32 ((z0g l1_0 x5_1).f2), .int .u32 ((z0g l1_0 x5_1).f3), .slice none 0 0]) ?_ 4 _ rfl; (with_reducible repeat (first | refine z0c ?_ _ | refine z0e ?_ | refine z0b ?_ _)); refine z0N (cs := #[.int .u8 ((z0g l1_0 x5_1).f0), .int .i32 ((z0g l1_0 x5_1).f1), .int .u32 ((z0g l1_0 x5_1).f2), .int .u32 0, .slice none 0 0]) ?_ 3 _ rfl; (with_reducible repeat (first | refine z0c ?_ _ | refine z0e ?_ | refine z0b ?_ _)); refine z0N (cs := #[.int .u8 ((z0g l1_0 x5_1).f0), .int .i32 ((z0g l1_0 x5_1).f1), .int .u32 0, .int .u32 0, .slice none 0 0]) ?_ 2 _ rfl; (with_reducible repeat (first | refine z0c ?_ _ | refine z0e ?_ | refine z0b ?_ _)); refine z0N (cs := #[.int .u8 ((z0g l1_0 x5_1).f0), .int .i32 0, .int .u32 0, .int .u32 0, .slice none 0 0]) ?_ 1 _ rfl; (with_reducible repeat (first | refine z0c ?_ _ | refine z0e ?_ | refine z0b ?_ _)); refine z0N (cs := #[.int .u8 0, .int .i32 0, .int .u32 0, .int .u32 0, .slice none 0 0]) ?_ 0 _ rfl; (with_reducible repeat (first | refine z0c ?_ _ | refine z0e ?_ | refine z0b ?_ _)); exact z4f.out) hb); replace HB := zB HB hb; (try clear hb)))
     go_ret
     exact ⟨zr, zb⟩
    subst c59
    have H1 : (z0y.l0 k1 (wrap64 (x5_1 + 1)) l0_0 l0_1 l1_0) = some r := by rw [if_pos rfl] at H; exact H
    clear H
    have H := H1
    clear H1
    have H' := z0a.mk H
    clear H
    have hnb60 := z3S.out
    have hnc60 := z3R.out
    obtain ⟨hcz61_0, hfz61_0⟩ := zc1 wr z2s.out
    have p256 : 0 ≤ (x5_1 : Int) := za
    have q256 : x5_1 < (l1_0.length : Int) := za
    obtain ⟨ad256, z7S, c256_4, e256, z3l, z3m, z3n, z3o, z3p, z3q, z3r⟩ := z3y y0v.out x5_1 p256 q256
    cases e256
    replace z3l := zx HB z3l
    replace z3m := zx HB z3m
    replace z3n := zx HB z3n
    replace z3o := zx HB z3o
    replace z3p := zx HB z3p
    have y0K := z0a.mk z3r
    have y0L := z0a.mk z3q
    clear z3r z3q
    replace p256 := eq_true p256
    replace q256 := eq_true q256
    go_wp2_with (first | ((with_reducible refine z0o (N := 6) rfl ?_); refine zo (cs := #[.int .u8 0, .int .i32 0, .int .u32 0, .int .u32 0, .slice none 0 0]) (t := 58) ?_; intro y1o hg w62 hbox hb; have z4f := z0a.mk hbox; have x1i := zG HB hg; have x1j := zG HB hg; have z1h := zN z2j hg; have z3s := zM z2j hg; have z1i := zN z2s hg; have z3t := zM z2s hg; replace z2j := zK z2j hb; replace z2s := zK z2s hb; replace HB := zB HB hb; clear hb hbox hg; have hnb63 := z3s.out; have hnc63 := z1h.out; have hnb64 := z3t.out; have hnc64 := z1i.out; obtain ⟨x9i, x9j, x9k, x9l, x9m, x9n, x9o, x9p, x9q, x9r⟩ := zc5 w62 z4f.out; obtain ⟨hcz66_0, hcz66_1, hfz66_0, hfz66_1⟩ := zc2 w62 z2j.out) | (go_at_call 117; (with_reducible refine (z1e.calls _ _ l0_0 _ _ l0_1 ((z0g l1_0 x5_1).f2) ((z0g l1_0 x5_1).f3) true _ ?z0M z1g.out ?z0Q z1j.out A58.out).mono ?_); (case z0M => exact Kd.z0t z2g.out zb); (case z0Q => exact Kd.z0t z2x.out zb); rintro e w67 ⟨rfl, hb⟩; replace z2j := z0a.mk (z0O (g := y7m) (o := .cells #[.slice z0U l0_0.length c0_0, .slice z0X l0_1.length c0_1] 25 (0, 0)) (by (with_reducible repeat (first | refine z0c ?_ _ | refine z0e ?_ | refine z0b ?_ _)); refine z0n ?_ z1h.out _; (with_reducible repeat (first | refine z0c ?_ _ | refine z0e ?_ | refine z0b ?_ _)); refine z0n ?_ z1h.out _; (with_reducible repeat (first | refine z0c ?_ _ | refine z0e ?_ | refine z0b ?_ _)); refine z0n ?_ z1h.out _; (with_reducible repeat (first | refine z0c ?_ _ | refine z0e ?_ | refine z0b ?_ _)); refine z0n ?_ z1h.out _; (with_reducible repeat (first | refine z0c ?_ _ | refine z0e ?_ | refine z0b ?_ _)); refine z0n ?_ z1h.out _; (with_reducible repeat (first | refine z0c ?_ _ | refine z0e ?_ | refine z0b ?_ _)); exact z2j.out) hb); replace z2s := z0a.mk (z0O (g := y7n) (o := .cells #[.slice (some ad256) l1_0.length c1_0] 49 (0, 0)) (by (with_reducible repeat (first | refine z0c ?_ _ | refine z0e ?_ | refine z0b ?_ _)); refine z0n ?_ z1i.out _; (with_reducible repeat (first | refine z0c ?_ _ | refine z0e ?_ | refine z0b ?_ _)); refine z0n ?_ z1i.out _; (with_reducible repeat (first | refine z0c ?_ _ | refine z0e ?_ | refine z0b ?_ _)); refine z0n ?_ z1i.out _; (with_reducible repeat (first | refine z0c ?_ _ | refine z0e ?_ | refine z0b ?_ _)); refine z0n ?_ z1i.out _; (with_reducible repeat (first | refine z0c ?_ _ | refine z0e ?_ | refine z0b ?_ _)); refine z0n ?_ z1i.out _; (with_reducible repeat (first | refine z0c ?_ _ | refine z0e ?_ | refine z0b ?_ _)); exact z2s.out) hb); replace z4f := z0a.mk (z0O (g := y1o) (o := .cells #[.int .u8 ((z0g l1_0 x5_1).f0), .int .i32 ((z0g l1_0 x5_1).f1), .int .u32 ((z0g l1_0 x5_1).f2), .int .u32 ((z0g l1_0 x5_1).f3), .slice z7S ((z0g l1_0 x5_1).f4).length c256_4] 58 (0, 0)) (by (with_reducible repeat (first | refine z0c ?_ _ | refine z0e ?_ | refine z0b ?_ _)); refine z0N (cs := #[.int .u8 ((z0g l1_0 x5_1).f0), .int .i32 ((z0g l1_0 x5_1).f1), .int .u32 ((z0g l1_0 x5_1).f2), .int .u32 ((z0g l1_0 x5_1).f3), .slice none 0 0]) ?_ 4 _ rfl; (with_reducible repeat (first | refine z0c ?_ _ | refine z0e ?_ | refine z0b ?_ _)); refine z0N (cs := #[.int .u8 ((z0g l1_0 x5_1).f0), .int .i32 ((z0g l1_0 x5_1).f1), .int .u32 ((z0g l1_0 x5_1).f2), .int .u32 0, .slice none 0 0]) ?_ 3 _ rfl; (with_reducible repeat (first | refine z0c ?_ _ | refine z0e ?_ | refine z0b ?_ _)); refine z0N (cs := #[.int .u8 ((z0g l1_0 x5_1).f0), .int .i32 ((z0g l1_0 x5_1).f1), .int .u32 0, .int .u32 0, .slice none 0 0]) ?_ 2 _ rfl; (with_reducible repeat (first | refine z0c ?_ _ | refine z0e ?_ | refine z0b ?_ _)); refine z0N (cs := #[.int .u8 ((z0g l1_0 x5_1).f0), .int .i32 0, .int .u32 0, .int .u32 0, .slice none 0 0]) ?_ 1 _ rfl; (with_reducible repeat (first | refine z0c ?_ _ | refine z0e ?_ | refine z0b ?_ _)); refine z0N (cs := #[.int .u8 0, .int .i32 0, .int .u32 0, .int .u32 0, .slice none 0 0]) ?_ 0 _ rfl; (with_reducible repeat (first | refine z0c ?_ _ | refine z0e ?_ | refine z0b ?_ _)); exact z4f.out) hb); replace HB := zB HB hb; (try clear hb)))
    go_roundg k1
    case measure => have := HK1.out; omega
    case rel => exact ⟨(wrap64 (x5_1 + 1)), ze, H', ⟨by have := HK1.out; omega⟩, ⟨zk⟩, ⟨zk⟩, ⟨zb⟩⟩
   rw [if_pos c12] at H
   have c12b0 : (((z0g l1_0 x5_1).f0) == 2) = true := beq_iff_eq.mpr c12
   have c12b1 : (((z0g l1_0 x5_1).f0) != 2) = false := bne_eq_false_iff_eq.mpr c12
   clear c12
   replace H := Option.bind_eq_some_iff.mp H
   obtain ⟨t258, A130, H⟩ := H
   replace H : (if t258 < 0 then (some false) else (if ((z0g l1_0 x5_1).f0) = 3 then ((z1e.f l0_0 l0_1 ((z0g l1_0 x5_1).f2) ((z0g l1_0 x5_1).f3)).bind fun t259 => (if t259 = true then (z0y.l0 k1 (wrap64 (x5_1 + 1)) l0_0 l0_1 l1_0) else (some false))) else (z0y.l0 k1 (wrap64 (x5_1 + 1)) l0_0 l0_1 l1_0))) = some r := H
   have A13 := z0a.mk A130
   clear A130
   by_cases c14 : t258 < 0
   ·rw [if_pos c14] at H
    have c14b0 : decide (t258 < 0) = true := decide_eq_true c14
    clear c14
    obtain rfl := Option.some.inj H
    have hnb15 := z3S.out
    have hnc15 := z3R.out
    obtain ⟨z5Y, z5Z⟩ := zc1 wr z2s.out
    have p256 : 0 ≤ (x5_1 : Int) := za
    have q256 : x5_1 < (l1_0.length : Int) := za
    obtain ⟨ad256, z7S, c256_4, e256, z3l, z3m, z3n, z3o, z3p, z3q, z3r⟩ := z3y y0v.out x5_1 p256 q256
    cases e256
    replace z3l := zx HB z3l
    replace z3m := zx HB z3m
    replace z3n := zx HB z3n
    replace z3o := zx HB z3o
    replace z3p := zx HB z3p
    have y0K := z0a.mk z3r
    have y0L := z0a.mk z3q
    clear z3r z3q
    replace p256 := eq_true p256
    replace q256 := eq_true q256
    go_wp2_with (first | ((with_reducible refine z0o (N := 6) rfl ?_); refine zo (cs := #[.int .u8 0, .int .i32 0, .int .u32 0, .int .u32 0, .slice none 0 0]) (t := 58) ?_; intro y1o hg w17 hbox hb; have z4f := z0a.mk hbox; have x1i := zG HB hg; have x1j := zG HB hg; have z1h := zN z2j hg; have z3s := zM z2j hg; have z1i := zN z2s hg; have z3t := zM z2s hg; replace z2j := zK z2j hb; replace z2s := zK z2s hb; replace HB := zB HB hb; clear hb hbox hg; have hnb18 := z3s.out; have hnc18 := z1h.out; have hnb19 := z3t.out; have hnc19 := z1i.out; obtain ⟨z5x, z6a, y2f, x9y, x9z, z5y, z6b, y2g, x9B, x9C⟩ := zc5 w17 z4f.out; obtain ⟨z9E, z9F, z9G, z9H⟩ := zc2 w17 z2j.out) | (go_at_call 107; (with_reducible refine (z0G.calls k1 _ _ l0_0 _ _ l0_1 ((z0g l1_0 x5_1).f1) t258 _ ?z0M z1g.out ?z0Q z1j.out A13.out).mono ?_); (case z0M => exact Kd.z0t z2g.out zb); (case z0Q => exact Kd.z0t z2x.out zb); rintro e w22 ⟨rfl, hb⟩; replace z2j := z0a.mk (z0O (g := y7m) (o := .cells #[.slice z0U l0_0.length c0_0, .slice z0X l0_1.length c0_1] 25 (0, 0)) (by (with_reducible repeat (first | refine z0c ?_ _ | refine z0e ?_ | refine z0b ?_ _)); refine z0n ?_ z1h.out _; (with_reducible repeat (first | refine z0c ?_ _ | refine z0e ?_ | refine z0b ?_ _)); refine z0n ?_ z1h.out _; (with_reducible repeat (first | refine z0c ?_ _ | refine z0e ?_ | refine z0b ?_ _)); refine z0n ?_ z1h.out _; (with_reducible repeat (first | refine z0c ?_ _ | refine z0e ?_ | refine z0b ?_ _)); refine z0n ?_ z1h.out _; (with_reducible repeat (first | refine z0c ?_ _ | refine z0e ?_ | refine z0b ?_ _)); refine z0n ?_ z1h.out _; (with_reducible repeat (first | refine z0c ?_ _ | refine z0e ?_ | refine z0b ?_ _)); exact z2j.out) hb); replace z2s := z0a.mk (z0O (g := y7n) (o := .cells #[.slice (some ad256) l1_0.length c1_0] 49 (0, 0)) (by (with_reducible repeat (first | refine z0c ?_ _ | refine z0e ?_ | refine z0b ?_ _)); refine z0n ?_ z1i.out _; (with_reducible repeat (first | refine z0c ?_ _ | refine z0e ?_ | refine z0b ?_ _)); refine z0n ?_ z1i.out _; (with_reducible repeat (first | refine z0c ?_ _ | refine z0e ?_ | refine z0b ?_ _)); refine z0n ?_ z1i.out _; (with_reducible repeat (first | refine z0c ?_ _ | refine z0e ?_ | refine z0b ?_ _)); refine z0n ?_ z1i.out _; (with_reducible repeat (first | refine z0c ?_ _ | refine z0e ?_ | refine z0b ?_ _)); refine z0n ?_ z1i.out _; (with_reducible repeat (first | refine z0c ?_ _ | refine z0e ?_ | refine z0b ?_ _)); exact z2s.out) hb); replace z4f := z0a.mk (z0O (g := y1o) (o := .cells #[.int .u8 ((z0g l1_0 x5_1).f0), .int .i32 ((z0g l1_0 x5_1).f1), .int .u32 ((z0g l1_0 x5_1).f2), .int .u32 ((z0g l1_0 x5_1).f3), .slice z7S ((z0g l1_0 x5_1).f4).length c256_4] 58 (0, 0)) (by (with_reducible repeat (first | refine z0c ?_ _ | refine z0e ?_ | refine z0b ?_ _)); refine z0N (cs := #[.int .u8 ((z0g l1_0 x5_1).f0), .int .i32 ((z0g l1_0 x5_1).f1), .int .u32 ((z0g l1_0 x5_1).f2), .int .u32 ((z0g l1_0 x5_1).f3), .slice none 0 0]) ?_ 4 _ rfl; (with_reducible repeat (first | refine z0c ?_ _ | refine z0e ?_ | refine z0b ?_ _)); refine z0N (cs := #[.int .u8 ((z0g l1_0 x5_1).f0), .int .i32 ((z0g l1_0 x5_1).f1), .int .u32 ((z0g l1_0 x5_1).f2), .int .u32 0, .slice none 0 0]) ?_ 3 _ rfl; (with_reducible repeat (first | refine z0c ?_ _ | refine z0e ?_ | refine z0b ?_ _)); refine z0N (cs := #[.int .u8 ((z0g l1_0 x5_1).f0), .int .i32 ((z0g l1_0 x5_1).f1), .int .u32 0, .int .u32 0, .slice none 0 0]) ?_ 2 _ rfl; (with_reducible repeat (first | refine z0c ?_ _ | refine z0e ?_ | refine z0b ?_ _)); refine z0N (cs := #[.int .u8 ((z0g l1_0 x5_1).f0), .int .i32 0, .int .u32 0, .int .u32 0, .slice none 0 0]) ?_ 1 _ rfl; (with_reducible repeat (first | refine z0c ?_ _ | refine z0e ?_ | refine z0b ?_ _)); refine z0N (cs := #[.int .u8 0, .int .i32 0, .int .u32 0, .int .u32 0, .slice none 0 0]) ?_ 0 _ rfl; (with_reducible repeat (first | refine z0c ?_ _ | refine z0e ?_ | refine z0b ?_ _)); exact z4f.out) hb); replace HB := zB HB hb; (try clear hb)))
    go_ret
    exact ⟨zr, zb⟩
   rw [if_neg c14] at H
   have c14b0 : decide (t258 < 0) = false := decide_eq_false c14
   clear c14
   by_cases c23 : ((z0g l1_0 x5_1).f0) = 3
   rotate_left
   ·rw [if_neg c23] at H
    have c23b0 : (((z0g l1_0 x5_1).f0) == 3) = false := beq_eq_false_iff_ne.mpr c23
    have c23b1 : (((z0g l1_0 x5_1).f0) != 3) = true := bne_iff_ne.mpr c23
    have H' := z0a.mk H
    clear H
    have hnb48 := z3S.out
    have hnc48 := z3R.out
    obtain ⟨w0W, w0X⟩ := zc1 wr z2s.out
    have p256 : 0 ≤ (x5_1 : Int) := za
    have q256 : x5_1 < (l1_0.length : Int) := za
    obtain ⟨ad256, z7S, c256_4, e256, z3l, z3m, z3n, z3o, z3p, z3q, z3r⟩ := z3y y0v.out x5_1 p256 q256
    cases e256
    replace z3l := zx HB z3l
    replace z3m := zx HB z3m
    replace z3n := zx HB z3n
    replace z3o := zx HB z3o
    replace z3p := zx HB z3p
    have y0K := z0a.mk z3r
    have y0L := z0a.mk z3q
    clear z3r z3q
    replace p256 := eq_true p256
    replace q256 := eq_true q256
    go_wp2_with (first | ((with_reducible refine z0o (N := 6) rfl ?_); refine zo (cs := #[.int .u8 0, .int .i32 0, .int .u32 0, .int .u32 0, .slice none 0 0]) (t := 58) ?_; intro y1o hg w50 hbox hb; have z4f := z0a.mk hbox; have x1i := zG HB hg; have x1j := zG HB hg; have z1h := zN z2j hg; have z3s := zM z2j hg; have z1i := zN z2s hg; have z3t := zM z2s hg; replace z2j := zK z2j hb; replace z2s := zK z2s hb; replace HB := zB HB hb; clear hb hbox hg; have hnb51 := z3s.out; have hnc51 := z1h.out; have hnb52 := z3t.out; have hnc52 := z1i.out; obtain ⟨y5t, y5u, x2W, x2X, x2Y, y5v, y5w, x2Z, x3a, x3b⟩ := zc5 w50 z4f.out; obtain ⟨x5b, x5c, x5d, x5e⟩ := zc2 w50 z2j.out) | (go_at_call 107; (with_reducible refine (z0G.calls k1 _ _ l0_0 _ _ l0_1 ((z0g l1_0 x5_1).f1) t258 _ ?z0M z1g.out ?z0Q z1j.out A13.out).mono ?_); (case z0M => exact Kd.z0t z2g.out zb); (case z0Q => exact Kd.z0t z2x.out zb); rintro e w55 ⟨rfl, hb⟩; replace z2j := z0a.mk (z0O (g := y7m) (o := .cells #[.slice z0U l0_0.length c0_0, .slice z0X l0_1.length c0_1] 25 (0, 0)) (by (with_reducible repeat (first | refine z0c ?_ _ | refine z0e ?_ | refine z0b ?_ _)); refine z0n ?_ z1h.out _; (with_reducible repeat (first | refine z0c ?_ _ | refine z0e ?_ | refine z0b ?_ _)); refine z0n ?_ z1h.out _; (with_reducible repeat (first | refine z0c ?_ _ | refine z0e ?_ | refine z0b ?_ _)); refine z0n ?_ z1h.out _; (with_reducible repeat (first | refine z0c ?_ _ | refine z0e ?_ | refine z0b ?_ _)); refine z0n ?_ z1h.out _; (with_reducible repeat (first | refine z0c ?_ _ | refine z0e ?_ | refine z0b ?_ _)); refine z0n ?_ z1h.out _; (with_reducible repeat (first | refine z0c ?_ _ | refine z0e ?_ | refine z0b ?_ _)); exact z2j.out) hb); replace z2s := z0a.mk (z0O (g := y7n) (o := .cells #[.slice (some ad256) l1_0.length c1_0] 49 (0, 0)) (by (with_reducible repeat (first | refine z0c ?_ _ | refine z0e ?_ | refine z0b ?_ _)); refine z0n ?_ z1i.out _; (with_reducible repeat (first | refine z0c ?_ _ | refine z0e ?_ | refine z0b ?_ _)); refine z0n ?_ z1i.out _; (with_reducible repeat (first | refine z0c ?_ _ | refine z0e ?_ | refine z0b ?_ _)); refine z0n ?_ z1i.out _; (with_reducible repeat (first | refine z0c ?_ _ | refine z0e ?_ | refine z0b ?_ _)); refine z0n ?_ z1i.out _; (with_reducible repeat (first | refine z0c ?_ _ | refine z0e ?_ | refine z0b ?_ _)); refine z0n ?_ z1i.out _; (with_reducible repeat (first | refine z0c ?_ _ | refine z0e ?_ | refine z0b ?_ _)); exact z2s.out) hb); replace z4f := z0a.mk (z0O (g := y1o) (o := .cells #[.int .u8 ((z0g l1_0 x5_1).f0), .int .i32 ((z0g l1_0 x5_1).f1), .int .u32 ((z0g l1_0 x5_1).f2), .int .u32 ((z0g l1_0 x5_1).f3), .slice z7S ((z0g l1_0 x5_1).f4).length c256_4] 58 (0, 0)) (by (with_reducible repeat (first | refine z0c ?_ _ | refine z0e ?_ | refine z0b ?_ _)); refine z0N (cs := #[.int .u8 ((z0g l1_0 x5_1).f0), .int .i32 ((z0g l1_0 x5_1).f1), .int .u32 ((z0g l1_0 x5_1).f2), .int .u32 ((z0g l1_0 x5_1).f3), .slice none 0 0]) ?_ 4 _ rfl; (with_reducible repeat (first | refine z0c ?_ _ | refine z0e ?_ | refine z0b ?_ _)); refine z0N (cs := #[.int .u8 ((z0g l1_0 x5_1).f0), .int .i32 ((z0g l1_0 x5_1).f1), .int .u32 ((z0g l1_0 x5_1).f2), .int .u32 0, .slice none 0 0]) ?_ 3 _ rfl; (with_reducible repeat (first | refine z0c ?_ _ | refine z0e ?_ | refine z0b ?_ _)); refine z0N (cs := #[.int .u8 ((z0g l1_0 x5_1).f0), .int .i32 ((z0g l1_0 x5_1).f1), .int .u32 0, .int .u32 0, .slice none 0 0]) ?_ 2 _ rfl; (with_reducible repeat (first | refine z0c ?_ _ | refine z0e ?_ | refine z0b ?_ _)); refine z0N (cs := #[.int .u8 ((z0g l1_0 x5_1).f0), .int .i32 0, .int .u32 0, .int .u32 0, .slice none 0 0]) ?_ 1 _ rfl; (with_reducible repeat (first | refine z0c ?_ _ | refine z0e ?_ | refine z0b ?_ _)); refine z0N (cs := #[.int .u8 0, .int .i32 0, .int .u32 0, .int .u32 0, .slice none 0 0]) ?_ 0 _ rfl; (with_reducible repeat (first | refine z0c ?_ _ | refine z0e ?_ | refine z0b ?_ _)); exact z4f.out) hb); replace HB := zB HB hb; (try clear hb); obtain ⟨y9o, y9p, x4Y, w1c, w1d, y9q, y9r, x4Z, w1e, w1f⟩ := zc5 w55 z4f.out))
    go_roundg k1
    case measure => have := HK1.out; omega
    case rel => exact ⟨(wrap64 (x5_1 + 1)), ze, H', ⟨by have := HK1.out; omega⟩, ⟨zk⟩, ⟨zk⟩, ⟨zb⟩⟩
   rw [if_pos c23] at H
   have c23b0 : (((z0g l1_0 x5_1).f0) == 3) = true := beq_iff_eq.mpr c23
   have c23b1 : (((z0g l1_0 x5_1).f0) != 3) = false := bne_eq_false_iff_eq.mpr c23
   clear c23
   replace H := Option.bind_eq_some_iff.mp H
   obtain ⟨t259, A240, H⟩ := H
   replace H : (if t259 = true then (z0y.l0 k1 (wrap64 (x5_1 + 1)) l0_0 l0_1 l1_0) else (some false)) = some r := H
   have A24 := z0a.mk A240
   clear A240
   by_cases c25 : t259 = true
   rotate_left
   ·replace c25 := Bool.eq_false_iff.mpr c25
    subst c25
    have H1 : (some false) = some r := by rw [if_neg (show ¬ (false = true) by decide)] at H; exact H
    clear H
    have H := H1
    clear H1
    obtain rfl := Option.some.inj H
    have hnb37 := z3S.out
    have hnc37 := z3R.out
    obtain ⟨z9z, z9A⟩ := zc1 wr z2s.out
    have p256 : 0 ≤ (x5_1 : Int) := za
    have q256 : x5_1 < (l1_0.length : Int) := za
    obtain ⟨ad256, z7S, c256_4, e256, z3l, z3m, z3n, z3o, z3p, z3q, z3r⟩ := z3y y0v.out x5_1 p256 q256
    cases e256
    replace z3l := zx HB z3l
    replace z3m := zx HB z3m
    replace z3n := zx HB z3n
    replace z3o := zx HB z3o
    replace z3p := zx HB z3p
    have y0K := z0a.mk z3r
    have y0L := z0a.mk z3q
    clear z3r z3q
    replace p256 := eq_true p256
    replace q256 := eq_true q256
    go_wp2_with (first | ((with_reducible refine z0o (N := 6) rfl ?_); refine zo (cs := #[.int .u8 0, .int .i32 0, .int .u32 0, .int .u32 0, .slice none 0 0]) (t := 58) ?_; intro y1o hg w39 hbox hb; have z4f := z0a.mk hbox; have x1i := zG HB hg; have x1j := zG HB hg; have z1h := zN z2j hg; have z3s := zM z2j hg; have z1i := zN z2s hg; have z3t := zM z2s hg; replace z2j := zK z2j hb; replace z2s := zK z2s hb; replace HB := zB HB hb; clear hb hbox hg; have hnb40 := z3s.out; have hnc40 := z1h.out; have hnb41 := z3t.out; have hnc41 := z1i.out; obtain ⟨y8G, y8H, y8I, y8J, y8K, y8L, y8M, y8N, y8O, y8P⟩ := zc5 w39 z4f.out; obtain ⟨x5p, x5q, x5r, x5s⟩ := zc2 w39 z2j.out) | (go_at_call 107; (with_reducible refine (z0G.calls k1 _ _ l0_0 _ _ l0_1 ((z0g l1_0 x5_1).f1) t258 _ ?z0M z1g.out ?z0Q z1j.out A13.out).mono ?_); (case z0M => exact Kd.z0t z2g.out zb); (case z0Q => exact Kd.z0t z2x.out zb); rintro e w44 ⟨rfl, hb⟩; replace z2j := z0a.mk (z0O (g := y7m) (o := .cells #[.slice z0U l0_0.length c0_0, .slice z0X l0_1.length c0_1] 25 (0, 0)) (by (with_reducible repeat (first | refine z0c ?_ _ | refine z0e ?_ | refine z0b ?_ _)); refine z0n ?_ z1h.out _; (with_reducible repeat (first | refine z0c ?_ _ | refine z0e ?_ | refine z0b ?_ _)); refine z0n ?_ z1h.out _; (with_reducible repeat (first | refine z0c ?_ _ | refine z0e ?_ | refine z0b ?_ _)); refine z0n ?_ z1h.out _; (with_reducible repeat (first | refine z0c ?_ _ | refine z0e ?_ | refine z0b ?_ _)); refine z0n ?_ z1h.out _; (with_reducible repeat (first | refine z0c ?_ _ | refine z0e ?_ | refine z0b ?_ _)); refine z0n ?_ z1h.out _; (with_reducible repeat (first | refine z0c ?_ _ | refine z0e ?_ | refine z0b ?_ _)); exact z2j.out) hb); replace z2s := z0a.mk (z0O (g := y7n) (o := .cells #[.slice (some ad256) l1_0.length c1_0] 49 (0, 0)) (by (with_reducible repeat (first | refine z0c ?_ _ | refine z0e ?_ | refine z0b ?_ _)); refine z0n ?_ z1i.out _; (with_reducible repeat (first | refine z0c ?_ _ | refine z0e ?_ | refine z0b ?_ _)); refine z0n ?_ z1i.out _; (with_reducible repeat (first | refine z0c ?_ _ | refine z0e ?_ | refine z0b ?_ _)); refine z0n ?_ z1i.out _; (with_reducible repeat (first | refine z0c ?_ _ | refine z0e ?_ | refine z0b ?_ _)); refine z0n ?_ z1i.out _; (with_reducible repeat (first | refine z0c ?_ _ | refine z0e ?_ | refine z0b ?_ _)); refine z0n ?_ z1i.out _; (with_reducible repeat (first | refine z0c ?_ _ | refine z0e ?_ | refine z0b ?_ _)); exact z2s.out) hb); replace z4f := z0a.mk (z0O (g := y1o) (o := .cells #[.int .u8 ((z0g l1_0 x5_1).f0), .int .i32 ((z0g l1_0 x5_1).f1), .int .u32 ((z0g l1_0 x5_1).f2), .int .u32 ((z0g l1_0 x5_1).f3), .slice z7S ((z0g l1_0 x5_1).f4).length c256_4] 58 (0, 0)) (by (with_reducible repeat (first | refine z0c ?_ _ | refine z0e ?_ | refine z0b ?_ _)); refine z0N (cs := #[.int .u8 ((z0g l1_0 x5_1).f0), .int .i32 ((z0g l1_0 x5_1).f1), .int .u32 ((z0g l1_0 x5_1).f2), .int .u32 ((z0g l1_0 x5_1).f3), .slice none 0 0]) ?_ 4 _ rfl; (with_reducible repeat (first | refine z0c ?_ _ | refine z0e ?_ | refine z0b ?_ _)); refine z0N (cs := #[.int .u8 ((z0g l1_0 x5_1).f0), .int .i32 ((z0g l1_0 x5_1).f1), .int .u32 ((z0g l1_0 x5_1).f2), .int .u32 0, .slice none 0 0]) ?_ 3 _ rfl; (with_reducible repeat (first | refine z0c ?_ _ | refine z0e ?_ | refine z0b ?_ _)); refine z0N (cs := #[.int .u8 ((z0g l1_0 x5_1).f0), .int .i32 ((z0g l1_0 x5_1).f1), .int .u32 0, .int .u32 0, .slice none 0 0]) ?_ 2 _ rfl; (with_reducible repeat (first | refine z0c ?_ _ | refine z0e ?_ | refine z0b ?_ _)); refine z0N (cs := #[.int .u8 ((z0g l1_0 x5_1).f0), .int .i32 0, .int .u32 0, .int .u32 0, .slice none 0 0]) ?_ 1 _ rfl; (with_reducible repeat (first | refine z0c ?_ _ | refine z0e ?_ | refine z0b ?_ _)); refine z0N (cs := #[.int .u8 0, .int .i32 0, .int .u32 0, .int .u32 0, .slice none 0 0]) ?_ 0 _ rfl; (with_reducible repeat (first | refine z0c ?_ _ | refine z0e ?_ | refine z0b ?_ _)); exact z4f.out) hb); replace HB := zB HB hb; (try clear hb); obtain ⟨x2G, x2H, x2I, x8P, x8Q, x2J, x2K, x2L, x8R, x8S⟩ := zc5 w44 z4f.out; obtain ⟨hcz46_0, hcz46_1, hfz46_0, hfz46_1⟩ := zc2 w44 z2j.out) | (go_at_call 117; (with_reducible refine (z1e.calls _ _ l0_0 _ _ l0_1 ((z0g l1_0 x5_1).f2) ((z0g l1_0 x5_1).f3) false _ ?z0M z1g.out ?z0Q z1j.out A24.out).mono ?_); (case z0M => exact zs); (case z0Q => exact zs); rintro e w47 ⟨rfl, hb⟩; replace z2j := zK z2j hb; replace z2s := zK z2s hb; replace z4f := zK z4f hb; replace HB := zB HB hb; (try clear hb)))
    go_ret
    exact ⟨zr, zb⟩
   subst c25
   have H1 : (z0y.l0 k1 (wrap64 (x5_1 + 1)) l0_0 l0_1 l1_0) = some r := by rw [if_pos rfl] at H; exact H
   clear H
   have H := H1
   clear H1
   have H' := z0a.mk H
   clear H
   have hnb26 := z3S.out
   have hnc26 := z3R.out
   obtain ⟨y1P, y1Q⟩ := zc1 wr z2s.out
   have p256 : 0 ≤ (x5_1 : Int) := za
   have q256 : x5_1 < (l1_0.length : Int) := za
   obtain ⟨ad256, z7S, c256_4, e256, z3l, z3m, z3n, z3o, z3p, z3q, z3r⟩ := z3y y0v.out x5_1 p256 q256
   cases e256
   replace z3l := zx HB z3l
   replace z3m := zx HB z3m
   replace z3n := zx HB z3n
   replace z3o := zx HB z3o
   replace z3p := zx HB z3p
   have y0K := z0a.mk z3r
   have y0L := z0a.mk z3q
   clear z3r z3q
   replace p256 := eq_true p256
   replace q256 := eq_true q256
   go_wp2_with (first | ((with_reducible refine z0o (N := 6) rfl ?_); refine zo (cs := #[.int .u8 0, .int .i32 0, .int .u32 0, .int .u32 0, .slice none 0 0]) (t := 58) ?_; intro y1o hg w28 hbox hb; have z4f := z0a.mk hbox; have x1i := zG HB hg; have x1j := zG HB hg; have z1h := zN z2j hg; have z3s := zM z2j hg; have z1i := zN z2s hg; have z3t := zM z2s hg; replace z2j := zK z2j hb; replace z2s := zK z2s hb; replace HB := zB HB hb; clear hb hbox hg; have hnb29 := z3s.out; have hnc29 := z1h.out; have hnb30 := z3t.out; have hnc30 := z1i.out; obtain ⟨w1l, w1m, w1n, hcz31_3, hcz31_4, w1o, w1p, w1q, hfz31_3, hfz31_4⟩ := zc5 w28 z4f.out; obtain ⟨x3B, x3C, x3D, x3E⟩ := zc2 w28 z2j.out) | (go_at_call 107; (with_reducible refine (z0G.calls k1 _ _ l0_0 _ _ l0_1 ((z0g l1_0 x5_1).f1) t258 _ ?z0M z1g.out ?z0Q z1j.out A13.out).mono ?_); (case z0M => exact Kd.z0t z2g.out zb); (case z0Q => exact Kd.z0t z2x.out zb); rintro e w33 ⟨rfl, hb⟩; replace z2j := z0a.mk (z0O (g := y7m) (o := .cells #[.slice z0U l0_0.length c0_0, .slice z0X l0_1.length c0_1] 25 (0, 0)) (by (with_reducible repeat (first | refine z0c ?_ _ | refine z0e ?_ | refine z0b ?_ _)); refine z0n ?_ z1h.out _; (with_reducible repeat (first | refine z0c ?_ _ | refine z0e ?_ | refine z0b ?_ _)); refine z0n ?_ z1h.out _; (with_reducible repeat (first | refine z0c ?_ _ | refine z0e ?_ | refine z0b ?_ _)); refine z0n ?_ z1h.out _; (with_reducible repeat (first | refine z0c ?_ _ | refine z0e ?_ | refine z0b ?_ _)); refine z0n ?_ z1h.out _; (with_reducible repeat (first | refine z0c ?_ _ | refine z0e ?_ | refine z0b ?_ _)); refine z0n ?_ z1h.out _; (with_reducible repeat (first | refine z0c ?_ _ | refine z0e ?_ | refine z0b ?_ _)); exact z2j.out) hb); replace z2s := z0a.mk (z0O (g := y7n) (o := .cells #[.slice (some ad256) l1_0.length c1_0] 49 (0, 0)) (by (with_reducible repeat (first | refine z0c ?_ _ | refine z0e ?_ | refine z0b ?_ _)); refine z0n ?_ z1i.out _; (with_reducible repeat (first | refine z0c ?_ _ | refine z0e ?_ | refine z0b ?_ _)); refine z0n ?_ z1i.out _; (with_reducible repeat (first | refine z0c ?_ _ | refine z0e ?_ | refine z0b ?_ _)); refine z0n ?_ z1i.out _; (with_reducible repeat (first | refine z0c ?_ _ | refine z0e ?_ | refine z0b ?_ _)); refine z0n ?_ z1i.out _; (with_reducible repeat (first | refine z0c ?_ _ | refine z0e ?_ | refine z0b ?_ _)); refine z0n ?_ z1i.out _; (with_reducible repeat (first | refine z0c ?_ _ | refine z0e ?_ | refine z0b ?_ _)); exact z2s.out) hb); replace z4f := z0a.mk (z0O (g := y1o) (o := .cells #[.int .u8 ((z0g l1_0 x5_1).f0), .int .i32 ((z0g l1_0 x5_1).f1), .int .u32 ((z0g l1_0 x5_1).f2), .int .u32 ((z0g l1_0 x5_1).f3), .slice z7S ((z0g l1_0 x5_1).f4).length c256_4] 58 (0, 0)) (by (with_reducible repeat (first | refine z0c ?_ _ | refine z0e ?_ | refine z0b ?_ _)); refine z0N (cs := #[.int .u8 ((z0g l1_0 x5_1).f0), .int .i32 ((z0g l1_0 x5_1).f1), .int .u32 ((z0g l1_0 x5_1).f2), .int .u32 ((z0g l1_0 x5_1).f3), .slice none 0 0]) ?_ 4 _ rfl; (with_reducible repeat (first | refine z0c ?_ _ | refine z0e ?_ | refine z0b ?_ _)); refine z0N (cs := #[.int .u8 ((z0g l1_0 x5_1).f0), .int .i32 ((z0g l1_0 x5_1).f1), .int .u32 ((z0g l1_0 x5_1).f2), .int .u32 0, .slice none 0 0]) ?_ 3 _ rfl; (with_reducible repeat (first | refine z0c ?_ _ | refine z0e ?_ | refine z0b ?_ _)); refine z0N (cs := #[.int .u8 ((z0g l1_0 x5_1).f0), .int .i32 ((z0g l1_0 x5_1).f1), .int .u32 0, .int .u32 0, .slice none 0 0]) ?_ 2 _ rfl; (with_reducible repeat (first | refine z0c ?_ _ | refine z0e ?_ | refine z0b ?_ _)); refine z0N (cs := #[.int .u8 ((z0g l1_0 x5_1).f0), .int .i32 0, .int .u32 0, .int .u32 0, .slice none 0 0]) ?_ 1 _ rfl; (with_reducible repeat (first | refine z0c ?_ _ | refine z0e ?_ | refine z0b ?_ _)); refine z0N (cs := #[.int .u8 0, .int .i32 0, .int .u32 0, .int .u32 0, .slice none 0 0]) ?_ 0 _ rfl; (with_reducible repeat (first | refine z0c ?_ _ | refine z0e ?_ | refine z0b ?_ _)); exact z4f.out) hb); replace HB := zB HB hb; (try clear hb); obtain ⟨y0z, y2h, y2i, y5R, y8E, y0A, y2j, y2k, y5S, y8F⟩ := zc5 w33 z4f.out; obtain ⟨y0G, y0H, y0I, y0J⟩ := zc2 w33 z2j.out) | (go_at_call 117; (with_reducible refine (z1e.calls _ _ l0_0 _ _ l0_1 ((z0g l1_0 x5_1).f2) ((z0g l1_0 x5_1).f3) true _ ?z0M z1g.out ?z0Q z1j.out A24.out).mono ?_); (case z0M => exact zs); (case z0Q => exact zs); rintro e w36 ⟨rfl, hb⟩; replace z2j := zK z2j hb; replace z2s := zK z2s hb; replace z4f := zK z4f hb; replace HB := zB HB hb; (try clear hb)))
   go_roundg k1
   case measure => have := HK1.out; omega
   case rel => exact ⟨(wrap64 (x5_1 + 1)), ze, H', ⟨by have := HK1.out; omega⟩, ⟨zk⟩, ⟨zk⟩, ⟨zb⟩⟩
mutual
def z0i.j0 : Nat → Bool → List ByteArray → List (z1J) → ByteArray → List (S54) → List (S56) → List (S58) → List (S58) → Int → Bool → Option (Bool)
 | 0, _, _, _, _, _, _, _, _, _, _ => none
 | k + 1, x42, z6h, z6i, y0M, z5I, z5J, z9K, z9L, y0N, y0O => if x42 = true then (some false) else (z0i.l0 k 0 z6h z6i y0M z5I z5J z9K z9L y0N y0O)
def z0i.l0 : Nat → Int → List ByteArray → List (z1J) → ByteArray → List (S54) → List (S56) → List (S58) → List (S58) → Int → Bool → Option (Bool)
 | 0, _, _, _, _, _, _, _, _, _, _ => none
 | k + 1, x5, z6h, z6i, y0M, z5I, z5J, z9K, z9L, y0N, y0O => if x5 < (z5I.length : Int) then (if 0 ≤ x5 then ((z1m.f k z6h z6i ((z1L z5I x5).f0) ((z1L z5I x5).f1) ((z1L z5I x5).f2)).bind fun t267 => (if t267 = true then (z0i.l0 k (wrap64 (x5 + 1)) z6h z6i y0M z5I z5J z9K z9L y0N y0O) else (some false))) else (none)) else (z0i.l1 k 0 z6h z6i y0M z5I z5J z9K z9L y0N y0O)
def z0i.l1 : Nat → Int → List ByteArray → List (z1J) → ByteArray → List (S54) → List (S56) → List (S58) → List (S58) → Int → Bool → Option (Bool)
 | 0, _, _, _, _, _, _, _, _, _, _ => none
 | k + 1, x6, z6h, z6i, y0M, z5I, z5J, z9K, z9L, y0N, y0O => if x6 < (z5J.length : Int) then (if 0 ≤ x6 then ((z1A.f k z6h z6i ((z1y z5J x6).f0) ((z1y z5J x6).f1) ((z1y z5J x6).f2) ((z1y z5J x6).f3) (z5I.length : Int)).bind fun t269 => (if t269 = true then (z0i.l1 k (wrap64 (x6 + 1)) z6h z6i y0M z5I z5J z9K z9L y0N y0O) else (some false))) else (none)) else ((z0y.f k z6h z6i z9K).bind fun t270 => (if t270 = true then ((z0y.f k z6h z6i z9L).bind fun t271 => (some t271)) else (some false)))
end
def z0i.f (k : Nat) (l0_0 : List ByteArray) (l0_1 : List (z1J)) (a1_0 : ByteArray) (l1_1 : List (S54)) (l1_2 : List (S56)) (l1_3 : List (S58)) (l1_4 : List (S58)) (a1_5 : Int) (a1_6 : Bool) : Option (Bool) := (z0F.f k a1_0).bind fun t263 => (if t263 = true then (if a1_5 < 1 then (z0i.j0 k true l0_0 l0_1 a1_0 l1_1 l1_2 l1_3 l1_4 a1_5 a1_6) else (if a1_5 > 3 then (z0i.j0 k true l0_0 l0_1 a1_0 l1_1 l1_2 l1_3 l1_4 a1_5 a1_6) else (if (l1_1.length : Int) > 8 then (z0i.j0 k true l0_0 l0_1 a1_0 l1_1 l1_2 l1_3 l1_4 a1_5 a1_6) else (if (l1_2.length : Int) > 8 then (z0i.j0 k true l0_0 l0_1 a1_0 l1_1 l1_2 l1_3 l1_4 a1_5 a1_6) else (z0i.j0 k ((wrap64 ((l1_1.length : Int) + (l1_2.length : Int))) == 0) l0_0 l0_1 a1_0 l1_1 l1_2 l1_3 l1_4 a1_5 a1_6))))) else (z0i.j0 k true l0_0 l0_1 a1_0 l1_1 l1_2 l1_3 l1_4 a1_5 a1_6))
theorem z0i.z1t : ∀ k, (∀ y0 y1 y2 y3 y4 y5 y6 y7 y8 y9, LeO (z0i.j0 k y0 y1 y2 y3 y4 y5 y6 y7 y8 y9) (z0i.j0 (k + 1) y0 y1 y2 y3 y4 y5 y6 y7 y8 y9)) ∧ (∀ y0 y1 y2 y3 y4 y5 y6 y7 y8 y9, LeO (z0i.l0 k y0 y1 y2 y3 y4 y5 y6 y7 y8 y9) (z0i.l0 (k + 1) y0 y1 y2 y3 y4 y5 y6 y7 y8 y9)) ∧ (∀ y0 y1 y2 y3 y4 y5 y6 y7 y8 y9, LeO (z0i.l1 k y0 y1 y2 y3 y4 y5 y6 y7 y8 y9) (z0i.l1 (k + 1) y0 y1 y2 y3 y4 y5 y6 y7 y8 y9))
 | 0 => ⟨fun _ _ _ _ _ _ _ _ _ _ r h => by simp [z0i.j0] at h, fun _ _ _ _ _ _ _ _ _ _ r h => by simp [z0i.l0] at h, fun _ _ _ _ _ _ _ _ _ _ r h => by simp [z0i.l1] at h⟩
 | k + 1 => by
  obtain ⟨ih0, ih1, ih2⟩ := z0i.z1t k
  refine ⟨?_, ?_, ?_⟩
  ·intro y0 y1 y2 y3 y4 y5 y6 y7 y8 y9
   unfold z0i.j0
   repeat' first
   | (with_reducible exact ih0 _ _ _ _ _ _ _ _ _ _)
   | (with_reducible exact ih1 _ _ _ _ _ _ _ _ _ _)
   | (with_reducible exact ih2 _ _ _ _ _ _ _ _ _ _)
   | (with_reducible exact z0y.mono _ _ _ _)
   | (with_reducible exact z1A.mono _ _ _ _ _ _ _ _)
   | (with_reducible exact z0F.mono _ _)
   | (with_reducible exact z1m.mono _ _ _ _ _ _)
   | (with_reducible exact LeO.refl _)
   | (with_reducible exact LeO.none _)
   | (with_reducible refine LeO.ite ?_ ?_)
   | (with_reducible refine LeO.bind ?_ (fun _ => ?_))
  ·intro y0 y1 y2 y3 y4 y5 y6 y7 y8 y9
   unfold z0i.l0
   repeat' first
   | (with_reducible exact ih0 _ _ _ _ _ _ _ _ _ _)
   | (with_reducible exact ih1 _ _ _ _ _ _ _ _ _ _)
   | (with_reducible exact ih2 _ _ _ _ _ _ _ _ _ _)
   | (with_reducible exact z0y.mono _ _ _ _)
   | (with_reducible exact z1A.mono _ _ _ _ _ _ _ _)
   | (with_reducible exact z0F.mono _ _)
   | (with_reducible exact z1m.mono _ _ _ _ _ _)
   | (with_reducible exact LeO.refl _)
   | (with_reducible exact LeO.none _)
   | (with_reducible refine LeO.ite ?_ ?_)
   | (with_reducible refine LeO.bind ?_ (fun _ => ?_))
  ·intro y0 y1 y2 y3 y4 y5 y6 y7 y8 y9
   unfold z0i.l1
   repeat' first
   | (with_reducible exact ih0 _ _ _ _ _ _ _ _ _ _)
   | (with_reducible exact ih1 _ _ _ _ _ _ _ _ _ _)
   | (with_reducible exact ih2 _ _ _ _ _ _ _ _ _ _)
   | (with_reducible exact z0y.mono _ _ _ _)
   | (with_reducible exact z1A.mono _ _ _ _ _ _ _ _)
   | (with_reducible exact z0F.mono _ _)
   | (with_reducible exact z1m.mono _ _ _ _ _ _)
   | (with_reducible exact LeO.refl _)
   | (with_reducible exact LeO.none _)
   | (with_reducible refine LeO.ite ?_ ?_)
   | (with_reducible refine LeO.bind ?_ (fun _ => ?_))
theorem z0i.mono : ∀ a0 a1 a2 a3 a4 a5 a6 a7 a8 k, LeO (z0i.f k a0 a1 a2 a3 a4 a5 a6 a7 a8) (z0i.f (k + 1) a0 a1 a2 a3 a4 a5 a6 a7 a8) := by
 intro a0 a1 a2 a3 a4 a5 a6 a7 a8 k
 obtain ⟨ih0, ih1, ih2⟩ := z0i.z1t k
 unfold z0i.f
 repeat' first
   | (with_reducible exact ih0 _ _ _ _ _ _ _ _ _ _)
   | (with_reducible exact ih1 _ _ _ _ _ _ _ _ _ _)
   | (with_reducible exact ih2 _ _ _ _ _ _ _ _ _ _)
   | (with_reducible exact z0y.mono _ _ _ _)
   | (with_reducible exact z1A.mono _ _ _ _ _ _ _ _)
   | (with_reducible exact z0F.mono _ _)
   | (with_reducible exact z1m.mono _ _ _ _ _ _)
   | (with_reducible exact LeO.refl _)
   | (with_reducible exact LeO.none _)
   | (with_reducible refine LeO.ite ?_ ?_)
   | (with_reducible refine LeO.bind ?_ (fun _ => ?_))
def z0i.T6 : Bool × List (List Nat × List Nat) := (true, [([], []), ([], []), ([1], [1]), ([], []), ([2, 3], [2, 3]), ([4], [4]), ([5], [5]), ([], []), ([7], [7]), ([], []), ([8, 9], [8, 9]), ([10], [10]), ([11], [11]), ([], []), ([13], [13]), ([], []), ([14, 15], [14, 15]), ([16], [16]), ([17], [17]), ([0, 6, 12, 18], [0, 6, 12, 18]), ([19], [19])])
def z0i.B6 : List Nat := [0, 0, 2, 0, 14, 30, 62, 0, 128, 0, 896, 1920, 3968, 0, 8192, 0, 57344, 122880, 253952, 524287, 1048575]
theorem z0i.tab6 : rtab .any (opsOf Tryz.f146 6) = z0i.T6 := by kernel_rfl
theorem z0i.w2Z : z5v z0i.T6.2 z0i.B6 = true := by kernel_rfl
def z0i.T11 : Bool × List (List Nat × List Nat) := (true, [([], []), ([], []), ([1], [1]), ([], []), ([2, 3], [2, 3]), ([4], [4]), ([], []), ([6], [6]), ([7], [7]), ([0, 5, 8], [0, 5, 8]), ([9], [9])])
def z0i.B11 : List Nat := [0, 0, 2, 0, 14, 30, 0, 64, 192, 511, 1023]
theorem z0i.w3a : rtab .any (opsOf Tryz.f146 11) = z0i.T11 := by kernel_rfl
theorem z0i.x7R : z5v z0i.T11.2 z0i.B11 = true := by kernel_rfl
set_option maxHeartbeats 8000000 in
set_option maxRecDepth 100000 in
theorem z0i.calls (k : Nat) (z0U : Option Addr) (c0_0 : Nat) (l0_0 : List ByteArray) (z0X : Option Addr) (c0_1 : Nat) (l0_1 : List (z1J)) (a1_0 : ByteArray) (y0m : Option Addr) (c1_1 : Nat) (l1_1 : List (S54)) (y0n : Option Addr) (c1_2 : Nat) (l1_2 : List (S56)) (z6H : Option Addr) (c1_3 : Nat) (l1_3 : List (S58)) (z8R : Option Addr) (c1_4 : Nat) (l1_4 : List (S58)) (a1_5 : Int) (a1_6 : Bool) (r : Bool) (w : World) (hr0_0 : Kd.C Kd.string w z0U l0_0.length l0_0) (hc0_0 : l0_0.length ≤ c0_0) (hr0_1 : Kd.C z5a w z0X l0_1.length l0_1) (hc0_1 : l0_1.length ≤ c0_1) (hr1_1 : Kd.C k54 w y0m l1_1.length l1_1) (hc1_1 : l1_1.length ≤ c1_1) (hr1_2 : Kd.C k56 w y0n l1_2.length l1_2) (hc1_2 : l1_2.length ≤ c1_2) (hr1_3 : Kd.C k58 w z6H l1_3.length l1_3) (hc1_3 : l1_3.length ≤ c1_3) (hr1_4 : Kd.C k58 w z8R l1_4.length l1_4) (hc1_4 : l1_4.length ≤ c1_4) (h : z0i.f k l0_0 l0_1 a1_0 l1_1 l1_2 l1_3 l1_4 a1_5 a1_6 = some r) :
  Calls Tryz.prog 146 #[.agg #[.slice z0U l0_0.length c0_0, .slice z0X l0_1.length c0_1], .agg #[.string a1_0, .slice y0m l1_1.length c1_1, .slice y0n l1_2.length c1_2, .slice z6H l1_3.length c1_3, .slice z8R l1_4.length c1_4, .int .u8 a1_5, .bool a1_6]] w fun e w' => e = .returned (.bool r) ∧ Below w.heap.size w w' := by
 have hu25 := Tryz.underlying25
 have hu51 := Tryz.underlying51
 have hu56 := Tryz.underlying56
 have hu49 := Tryz.underlying49
 have z2g := z0a.mk hr0_0
 have z1g := z0a.mk hc0_0
 clear hr0_0 hc0_0
 have z2x := z0a.mk hr0_1
 have z1j := z0a.mk hc0_1
 clear hr0_1 hc0_1
 have y4k := z0a.mk hr1_1
 have x6Z := z0a.mk hc1_1
 clear hr1_1 hc1_1
 have x1d := z0a.mk hr1_2
 have x7a := z0a.mk hc1_2
 clear hr1_2 hc1_2
 have w2K := z0a.mk hr1_3
 have y5I := z0a.mk hc1_3
 clear hr1_3 hc1_3
 have w2L := z0a.mk hr1_4
 have y8r := z0a.mk hc1_4
 clear hr1_4 hc1_4
 have HB := z0a.mk (Below.refl w.heap.size w)
 have H : ((z0F.f k a1_0).bind fun t263 => (if t263 = true then (if a1_5 < 1 then (z0i.j0 k true l0_0 l0_1 a1_0 l1_1 l1_2 l1_3 l1_4 a1_5 a1_6) else (if a1_5 > 3 then (z0i.j0 k true l0_0 l0_1 a1_0 l1_1 l1_2 l1_3 l1_4 a1_5 a1_6) else (if (l1_1.length : Int) > 8 then (z0i.j0 k true l0_0 l0_1 a1_0 l1_1 l1_2 l1_3 l1_4 a1_5 a1_6) else (if (l1_2.length : Int) > 8 then (z0i.j0 k true l0_0 l0_1 a1_0 l1_1 l1_2 l1_3 l1_4 a1_5 a1_6) else (z0i.j0 k ((wrap64 ((l1_1.length : Int) + (l1_2.length : Int))) == 0) l0_0 l0_1 a1_0 l1_1 l1_2 l1_3 l1_4 a1_5 a1_6))))) else (z0i.j0 k true l0_0 l0_1 a1_0 l1_1 l1_2 l1_3 l1_4 a1_5 a1_6))) = some r := h
 clear h
 have HC3 := z0a.mk H
 clear H
 go_enter Tryz.func146, Tryz.ntmps146
 go_upto_region 1 with (first | ((with_reducible refine z0o (N := 2) rfl ?_); refine zo (cs := #[.slice z0U l0_0.length c0_0, .slice z0X l0_1.length c0_1]) (t := 25) ?_; intro z9M hg w4 hbox hb; have z2A := z0a.mk hbox; have GW261 := zG HB hg; have GE261 := zG HB hg; replace HB := zB HB hb; clear hb hbox hg) | ((with_reducible refine z0o (N := 3) rfl ?_); refine zo (cs := #[.string a1_0, .slice y0m l1_1.length c1_1, .slice y0n l1_2.length c1_2, .slice z6H l1_3.length c1_3, .slice z8R l1_4.length c1_4, .int .u8 a1_5, .bool a1_6]) (t := 51) ?_; intro z3T hg w5 hbox hb; have z1I := z0a.mk hbox; have GW262 := zG HB hg; have GE262 := zG HB hg; have z3u := zN z2A hg; have z3v := zM z2A hg; replace z2A := zK z2A hb; replace HB := zB HB hb; clear hb hbox hg))
 (try simp only [Act.put, List.setIfInBounds_toArray, List.set_cons_zero, List.set_cons_succ])
 go_cut [42] (fun v42 wc => ∃ (kq : Nat) (x42_2 : Bool), v42 = .bool x42_2 ∧ z0a (z0i.j0 kq x42_2 l0_0 l0_1 a1_0 l1_1 l1_2 l1_3 l1_4 a1_5 a1_6 = some r) ∧ z0a (kq ≤ k) ∧ z0a (wc.heap[z9M]? = some (.cells #[(.slice z0U l0_0.length c0_0), (.slice z0X l0_1.length c0_1)] 25 (0, 0))) ∧ z0a (wc.heap[z3T]? = some (.cells #[.string a1_0, (.slice y0m l1_1.length c1_1), (.slice y0n l1_2.length c1_2), (.slice z6H l1_3.length c1_3), (.slice z8R l1_4.length c1_4), .int .u8 a1_5, .bool a1_6] 51 (0, 0))) ∧ z0a (Below w.heap.size w wc))
 case first =>
  have H := HC3.out
  clear HC3
  replace H := Option.bind_eq_some_iff.mp H
  obtain ⟨t263, A60, H⟩ := H
  replace H : (if t263 = true then (if a1_5 < 1 then (z0i.j0 k true l0_0 l0_1 a1_0 l1_1 l1_2 l1_3 l1_4 a1_5 a1_6) else (if a1_5 > 3 then (z0i.j0 k true l0_0 l0_1 a1_0 l1_1 l1_2 l1_3 l1_4 a1_5 a1_6) else (if (l1_1.length : Int) > 8 then (z0i.j0 k true l0_0 l0_1 a1_0 l1_1 l1_2 l1_3 l1_4 a1_5 a1_6) else (if (l1_2.length : Int) > 8 then (z0i.j0 k true l0_0 l0_1 a1_0 l1_1 l1_2 l1_3 l1_4 a1_5 a1_6) else (z0i.j0 k ((wrap64 ((l1_1.length : Int) + (l1_2.length : Int))) == 0) l0_0 l0_1 a1_0 l1_1 l1_2 l1_3 l1_4 a1_5 a1_6))))) else (z0i.j0 k true l0_0 l0_1 a1_0 l1_1 l1_2 l1_3 l1_4 a1_5 a1_6)) = some r := H
  have A6 := z0a.mk A60
  clear A60
  by_cases c7 : t263 = true
  rotate_left
  ·replace c7 := Bool.eq_false_iff.mpr c7
   subst c7
   have H1 : (z0i.j0 k true l0_0 l0_1 a1_0 l1_1 l1_2 l1_3 l1_4 a1_5 a1_6) = some r := by rw [if_neg (show ¬ (false = true) by decide)] at H; exact H
   clear H
   have H := H1
   clear H1
   have H' := z0a.mk H
   clear H
   have hnb22 := z3v.out
   have hnc22 := z3u.out
   obtain ⟨y9v, y9w, y9x, hcz23_3, hcz23_4, hcz23_5, hcz23_6, y9y, y9z, y9A, hfz23_3, hfz23_4, hfz23_5, hfz23_6⟩ := zc7 w5 z1I.out
   go_wp2_with (first | ((with_reducible refine z0m (f := 176) rfl ?_); refine z1a (some 9) rfl rfl Tryz.func176 (by kernel_rfl) rfl #[.string a1_0] rfl zq ?_; (with_reducible refine (z0F.calls k a1_0 false _ A6.out).mono ?_); rintro e w' ⟨rfl, ⟨nd, rfl⟩⟩; refine ⟨_, rfl, ?_⟩))
   go_meet
   case rel => exact ⟨_, (true), ze, H', ⟨zl⟩, ⟨zk⟩, ⟨zk⟩, ⟨zb⟩⟩
  subst c7
  have H1 : (if a1_5 < 1 then (z0i.j0 k true l0_0 l0_1 a1_0 l1_1 l1_2 l1_3 l1_4 a1_5 a1_6) else (if a1_5 > 3 then (z0i.j0 k true l0_0 l0_1 a1_0 l1_1 l1_2 l1_3 l1_4 a1_5 a1_6) else (if (l1_1.length : Int) > 8 then (z0i.j0 k true l0_0 l0_1 a1_0 l1_1 l1_2 l1_3 l1_4 a1_5 a1_6) else (if (l1_2.length : Int) > 8 then (z0i.j0 k true l0_0 l0_1 a1_0 l1_1 l1_2 l1_3 l1_4 a1_5 a1_6) else (z0i.j0 k ((wrap64 ((l1_1.length : Int) + (l1_2.length : Int))) == 0) l0_0 l0_1 a1_0 l1_1 l1_2 l1_3 l1_4 a1_5 a1_6))))) = some r := by rw [if_pos rfl] at H; exact H
  clear H
  have H := H1
  clear H1
  by_cases c8 : a1_5 < 1
  ·rw [if_pos c8] at H
   have c8b0 : decide (a1_5 < 1) = true := decide_eq_true c8
   clear c8
   (first | rw [c8b0] | (simp only [z0V, z0W]; rw [c8b0]) | skip)
   have H' := z0a.mk H
   clear H
   have hnb9 := z3v.out
   have hnc9 := z3u.out
   obtain ⟨z6C, z6D, w0K, w0L, w0M, hcz10_5, hcz10_6, z6E, z6F, w0N, w0O, w0P, hfz10_5, hfz10_6⟩ := zc7 w5 z1I.out
   go_wp2_with (first | ((with_reducible refine z0m (f := 176) rfl ?_); refine z1a (some 9) rfl rfl Tryz.func176 (by kernel_rfl) rfl #[.string a1_0] rfl zq ?_; (with_reducible refine (z0F.calls k a1_0 true _ A6.out).mono ?_); rintro e w' ⟨rfl, ⟨nd, rfl⟩⟩; refine ⟨_, rfl, ?_⟩))
   go_meet
   case rel => exact ⟨_, (true), ze, H', ⟨zl⟩, ⟨zk⟩, ⟨zk⟩, ⟨zb⟩⟩
  rw [if_neg c8] at H
  have c8b0 : decide (a1_5 < 1) = false := decide_eq_false c8
  clear c8
  (first | rw [c8b0] | (simp only [z0V, z0W]; rw [c8b0]) | skip)
  by_cases c11 : a1_5 > 3
  ·rw [if_pos c11] at H
   have c11b0 : decide (3 < a1_5) = true := decide_eq_true c11
   clear c11
   have H' := z0a.mk H
   clear H
   have hnb12 := z3v.out
   have hnc12 := z3u.out
   obtain ⟨z9l, z9m, y5T, w1r, w1s, w1t, w1u, z9n, z9o, y5U, w1v, w1w, w1x, w1y⟩ := zc7 w5 z1I.out
   go_wp2_with (first | ((with_reducible refine z0m (f := 176) rfl ?_); refine z1a (some 9) rfl rfl Tryz.func176 (by kernel_rfl) rfl #[.string a1_0] rfl zq ?_; (with_reducible refine (z0F.calls k a1_0 true _ A6.out).mono ?_); rintro e w' ⟨rfl, ⟨nd, rfl⟩⟩; refine ⟨_, rfl, ?_⟩))
   go_meet
   case rel => exact ⟨_, (true), ze, H', ⟨zl⟩, ⟨zk⟩, ⟨zk⟩, ⟨zb⟩⟩
  rw [if_neg c11] at H
  have c11b0 : decide (3 < a1_5) = false := decide_eq_false c11
  clear c11
  by_cases c14 : (l1_1.length : Int) > 8
  ·rw [if_pos c14] at H
   have c14b0 : decide (8 < (l1_1.length : Int)) = true := decide_eq_true c14
   have c14b1 : decide (8 < l1_1.length) = true := decide_eq_true (by omega)
   clear c14
   have H' := z0a.mk H
   clear H
   have hnb15 := z3v.out
   have hnc15 := z3u.out
   obtain ⟨z5Y, z6y, z8t, w0Q, w0R, hcz16_5, hcz16_6, z5Z, z6z, z8u, w0S, w0T, hfz16_5, hfz16_6⟩ := zc7 w5 z1I.out
   go_wp2_with (first | ((with_reducible refine z0m (f := 176) rfl ?_); refine z1a (some 9) rfl rfl Tryz.func176 (by kernel_rfl) rfl #[.string a1_0] rfl zq ?_; (with_reducible refine (z0F.calls k a1_0 true _ A6.out).mono ?_); rintro e w' ⟨rfl, ⟨nd, rfl⟩⟩; refine ⟨_, rfl, ?_⟩))
   go_meet
   case rel => exact ⟨_, (true), ze, H', ⟨zl⟩, ⟨zk⟩, ⟨zk⟩, ⟨zb⟩⟩
  rw [if_neg c14] at H
  have c14b0 : decide (8 < (l1_1.length : Int)) = false := decide_eq_false c14
  have c14b1 : decide (8 < l1_1.length) = false := decide_eq_false (by omega)
  clear c14
  by_cases c17 : (l1_2.length : Int) > 8
  ·rw [if_pos c17] at H
   have c17b0 : decide (8 < (l1_2.length : Int)) = true := decide_eq_true c17
   have c17b1 : decide (8 < l1_2.length) = true := decide_eq_true (by omega)
   clear c17
   have H' := z0a.mk H
   clear H
   have hnb18 := z3v.out
   have hnc18 := z3u.out
   obtain ⟨z6A, z8e, z8f, y8b, x4c, w0j, w0k, z6B, z8g, z8h, y8c, x4d, w0l, w0m⟩ := zc7 w5 z1I.out
   go_wp2_with (first | ((with_reducible refine z0m (f := 176) rfl ?_); refine z1a (some 9) rfl rfl Tryz.func176 (by kernel_rfl) rfl #[.string a1_0] rfl zq ?_; (with_reducible refine (z0F.calls k a1_0 true _ A6.out).mono ?_); rintro e w' ⟨rfl, ⟨nd, rfl⟩⟩; refine ⟨_, rfl, ?_⟩))
   go_meet
   case rel => exact ⟨_, (true), ze, H', ⟨zl⟩, ⟨zk⟩, ⟨zk⟩, ⟨zb⟩⟩
  rw [if_neg c17] at H
  have c17b0 : decide (8 < (l1_2.length : Int)) = false := decide_eq_false c17
  have c17b1 : decide (8 < l1_2.length) = false := decide_eq_false (by omega)
  clear c17
  have H' := z0a.mk H
  clear H
  have hnb20 := z3v.out
  have hnc20 := z3u.out
  obtain ⟨z9E, z9F, y3j, x4I, w1z, w1A, w1B, z9G, z9H, y3k, x4J, w1C, w1D, w1E⟩ := zc7 w5 z1I.out
  go_wp2_with (first | ((with_reducible refine z0m (f := 176) rfl ?_); refine z1a (some 9) rfl rfl Tryz.func176 (by kernel_rfl) rfl #[.string a1_0] rfl zq ?_; (with_reducible refine (z0F.calls k a1_0 true _ A6.out).mono ?_); rintro e w' ⟨rfl, ⟨nd, rfl⟩⟩; refine ⟨_, rfl, ?_⟩))
  go_meet
  case rel => exact ⟨_, (((wrap64 ((l1_1.length : Int) + (l1_2.length : Int))) == 0)), ze, H', ⟨zl⟩, ⟨zk⟩, ⟨zk⟩, ⟨zb⟩⟩
 case rest =>
  clear HC3
  obtain ⟨kq, x42_2, rfl, HA, HJ2, z2A, z1I, HB⟩ := hcut
  cases kq with
  | zero => exact absurd HA.out (by simp [z0i.j0])
  | succ kj2 =>
   have H := HA.out
   clear HA
   simp only [z0i.j0] at H
   by_cases c24 : x42_2 = true
   ·subst c24
    have H1 : (some false) = some r := by rw [if_pos rfl] at H; exact H
    clear H
    have H := H1
    clear H1
    obtain rfl := Option.some.inj H
    go_wp2
    go_ret
    exact ⟨zr, zb⟩
   replace c24 := Bool.eq_false_iff.mpr c24
   subst c24
   have H1 : (z0i.l0 kj2 0 l0_0 l0_1 a1_0 l1_1 l1_2 l1_3 l1_4 a1_5 a1_6) = some r := by rw [if_neg (show ¬ (false = true) by decide)] at H; exact H
   clear H
   have H := H1
   clear H1
   have H' := z0a.mk H
   clear H
   go_wp2
   go_loopg [5] kj2 (fun kq v5 w' => ∃ (x5_2 : Int), v5 = .int .i64 x5_2 ∧ z0a (z0i.l0 kq x5_2 l0_0 l0_1 a1_0 l1_1 l1_2 l1_3 l1_4 a1_5 a1_6 = some r) ∧ z0a (kq ≤ kj2) ∧ z0a (w'.heap[z9M]? = some (.cells #[(.slice z0U l0_0.length c0_0), (.slice z0X l0_1.length c0_1)] 25 (0, 0))) ∧ z0a (w'.heap[z3T]? = some (.cells #[.string a1_0, (.slice y0m l1_1.length c1_1), (.slice y0n l1_2.length c1_2), (.slice z6H l1_3.length c1_3), (.slice z8R l1_4.length c1_4), .int .u8 a1_5, .bool a1_6] 51 (0, 0))) ∧ z0a (Below w.heap.size w w'))
   case atStart => exact ⟨(0), ze, H', ⟨Nat.le_refl _⟩, ⟨zk⟩, ⟨zk⟩, ⟨zb⟩⟩
   case round =>
    clear H'
    try clear c24
    obtain ⟨x5_2, rfl, HA, HK2, z2A, z1I, HB⟩ := hrel
    cases gk with
    | zero => exact absurd HA.out (by simp [z0i.l0])
    | succ k2 =>
     have H := HA.out
     clear HA
     simp only [z0i.l0] at H
     by_cases c25 : x5_2 < (l1_1.length : Int)
     rotate_left
     ·rw [if_neg c25] at H
      have c25b0 : decide (x5_2 < (l1_1.length : Int)) = false := decide_eq_false c25
      clear c25
      have H' := z0a.mk H
      clear H
      have hnb37 := z3v.out
      have hnc37 := z3u.out
      obtain ⟨z9z, y1V, y5r, y8d, y8e, x3F, x3G, z9A, y1W, y5s, y8f, y8g, x3H, x3I⟩ := zc7 wr z1I.out
      go_wp2
      go_loopg [6] k2 (fun kq v6 w' => ∃ (x6_3 : Int), v6 = .int .i64 x6_3 ∧ z0a (z0i.l1 kq x6_3 l0_0 l0_1 a1_0 l1_1 l1_2 l1_3 l1_4 a1_5 a1_6 = some r) ∧ z0a (kq ≤ k2) ∧ z0a (w'.heap[z9M]? = some (.cells #[(.slice z0U l0_0.length c0_0), (.slice z0X l0_1.length c0_1)] 25 (0, 0))) ∧ z0a (w'.heap[z3T]? = some (.cells #[.string a1_0, (.slice y0m l1_1.length c1_1), (.slice y0n l1_2.length c1_2), (.slice z6H l1_3.length c1_3), (.slice z8R l1_4.length c1_4), .int .u8 a1_5, .bool a1_6] 51 (0, 0))) ∧ z0a (Below w.heap.size w w'))
      case atStart => exact ⟨(0), ze, H', ⟨Nat.le_refl _⟩, ⟨zk⟩, ⟨zk⟩, ⟨zb⟩⟩
      case round =>
       clear H'
       try clear c25
       try clear c25b0
       try clear z9z
       try clear y1V
       try clear y5r
       try clear y8d
       try clear y8e
       try clear x3F
       try clear x3G
       try clear z9A
       try clear y1W
       try clear y5s
       try clear y8f
       try clear y8g
       try clear x3H
       try clear x3I
       obtain ⟨x6_3, rfl, HA, HK3, z2A, z1I, HB⟩ := hrel
       cases gk with
       | zero => exact absurd HA.out (by simp [z0i.l1])
       | succ k3 =>
        have H := HA.out
        clear HA
        simp only [z0i.l1] at H
        by_cases c39 : x6_3 < (l1_2.length : Int)
        rotate_left
        ·rw [if_neg c39] at H
         have c39b0 : decide (x6_3 < (l1_2.length : Int)) = false := decide_eq_false c39
         clear c39
         replace H := Option.bind_eq_some_iff.mp H
         obtain ⟨t270, A510, H⟩ := H
         replace H : (if t270 = true then ((z0y.f k3 l0_0 l0_1 l1_4).bind fun t271 => (some t271)) else (some false)) = some r := H
         have A51 := z0a.mk A510
         clear A510
         by_cases c52 : t270 = true
         rotate_left
         ·replace c52 := Bool.eq_false_iff.mpr c52
          subst c52
          have H1 : (some false) = some r := by rw [if_neg (show ¬ (false = true) by decide)] at H; exact H
          clear H
          have H := H1
          clear H1
          obtain rfl := Option.some.inj H
          have hnb61 := z3v.out
          have hnc61 := z3u.out
          obtain ⟨hcz62_0, hcz62_1, hcz62_2, hcz62_3, hcz62_4, hcz62_5, hcz62_6, hfz62_0, hfz62_1, hfz62_2, hfz62_3, hfz62_4, hfz62_5, hfz62_6⟩ := zc7 wr z1I.out
          obtain ⟨x3V, x3W, x3X, x3Y⟩ := zc2 wr z2A.out
          go_wp2_with (first | ((with_reducible refine z0m (f := 179) rfl ?_); refine z1a (some 92) rfl rfl Tryz.func179 (by kernel_rfl) rfl #[.agg #[.slice z0U l0_0.length c0_0, .slice z0X l0_1.length c0_1], .agg #[.slice z6H l1_3.length c1_3]] rfl zq ?_; (with_reducible refine (z0y.calls k3 _ _ l0_0 _ _ l0_1 _ _ l1_3 false _ ?z0M z1g.out ?z0Q z1j.out ?z1z y5I.out A51.out).mono ?_); (case z0M => exact zs); (case z0Q => exact zs); (case z1z => exact zs); rintro e w64 ⟨rfl, hb⟩; refine ⟨_, rfl, ?_⟩; replace z2A := zK z2A hb; replace z1I := zK z1I hb; replace HB := zB HB hb; (try clear hb)))
          go_ret
          exact ⟨zr, zb⟩
         subst c52
         have H1 : ((z0y.f k3 l0_0 l0_1 l1_4).bind fun t271 => (some t271)) = some r := by rw [if_pos rfl] at H; exact H
         clear H
         have H := H1
         clear H1
         replace H := Option.bind_eq_some_iff.mp H
         obtain ⟨t271, A530, H⟩ := H
         replace H : (some t271) = some r := H
         have A53 := z0a.mk A530
         clear A530
         obtain rfl := Option.some.inj H
         have hnb54 := z3v.out
         have hnc54 := z3u.out
         obtain ⟨x2M, x2N, x2O, x2P, x2Q, hcz55_5, hcz55_6, x2R, x2S, x2T, x2U, x2V, hfz55_5, hfz55_6⟩ := zc7 wr z1I.out
         obtain ⟨y9o, y9p, y9q, y9r⟩ := zc2 wr z2A.out
         go_wp2_with (first | ((with_reducible refine z0m (f := 179) rfl ?_); refine z1a (some 92) rfl rfl Tryz.func179 (by kernel_rfl) rfl #[.agg #[.slice z0U l0_0.length c0_0, .slice z0X l0_1.length c0_1], .agg #[.slice z6H l1_3.length c1_3]] rfl zq ?_; (with_reducible refine (z0y.calls k3 _ _ l0_0 _ _ l0_1 _ _ l1_3 true _ ?z0M z1g.out ?z0Q z1j.out ?z1z y5I.out A51.out).mono ?_); (case z0M => exact zs); (case z0Q => exact zs); (case z1z => exact zs); rintro e w57 ⟨rfl, hb⟩; refine ⟨_, rfl, ?_⟩; replace z2A := zK z2A hb; replace z1I := zK z1I hb; replace HB := zB HB hb; (try clear hb); obtain ⟨y5x, y5y, y5z, y5A⟩ := zc2 w57 z2A.out; obtain ⟨hcz59_0, hcz59_1, hcz59_2, hcz59_3, hcz59_4, hcz59_5, hcz59_6, hfz59_0, hfz59_1, hfz59_2, hfz59_3, hfz59_4, hfz59_5, hfz59_6⟩ := zc7 w57 z1I.out) | (go_at_call 179; (with_reducible refine (z0y.calls k3 _ _ l0_0 _ _ l0_1 _ _ l1_4 t271 _ ?z0M z1g.out ?z0Q z1j.out ?z1z y8r.out A53.out).mono ?_); (case z0M => exact zs); (case z0Q => exact zs); (case z1z => exact zs); rintro e w60 ⟨rfl, hb⟩; replace z2A := zK z2A hb; replace z1I := zK z1I hb; replace HB := zB HB hb; (try clear hb)))
         go_ret
         exact ⟨zr, zb⟩
        rw [if_pos c39] at H
        have c39b0 : decide (x6_3 < (l1_2.length : Int)) = true := decide_eq_true c39
        clear c39
        by_cases c40 : 0 ≤ x6_3
        rotate_left
        ·rw [if_neg c40] at H
         exact absurd H (by simp)
        rw [if_pos c40] at H
        have c40b0 : decide (0 ≤ x6_3) = true := decide_eq_true c40
        clear c40
        replace H := Option.bind_eq_some_iff.mp H
        obtain ⟨t269, A410, H⟩ := H
        replace H : (if t269 = true then (z0i.l1 k3 (wrap64 (x6_3 + 1)) l0_0 l0_1 a1_0 l1_1 l1_2 l1_3 l1_4 a1_5 a1_6) else (some false)) = some r := H
        have A41 := z0a.mk A410
        clear A410
        by_cases c42 : t269 = true
        rotate_left
        ·replace c42 := Bool.eq_false_iff.mpr c42
         subst c42
         have H1 : (some false) = some r := by rw [if_neg (show ¬ (false = true) by decide)] at H; exact H
         clear H
         have H := H1
         clear H1
         obtain rfl := Option.some.inj H
         have hnb47 := z3v.out
         have hnc47 := z3u.out
         obtain ⟨x4S, x4T, x4U, w0Y, w0Z, hcz48_5, hcz48_6, x4V, x4W, x4X, w1a, w1b, hfz48_5, hfz48_6⟩ := zc7 wr z1I.out
         try go_wp2
         have n0_ := z0a.mk (z0e z2A.out)
         have n1_ := z0a.mk (z0e z1I.out)
         have n2_ := z0a.mk (z1l HB.out)
         clear z2A
         clear z1I
         clear HB
         have z2A := n0_
         have z1I := n1_
         have HB := n2_
         clear n0_ n1_ n2_
         have p268 : 0 ≤ (x6_3 : Int) := za
         have q268 : x6_3 < (l1_2.length : Int) := za
         obtain ⟨ad268, e268, z6R, z6S, z6T, z6U⟩ := y4x x1d.out x6_3 p268 q268
         have z6V := z6U
         have z6W := z6T
         have z6X := z6S
         have z6Y := z6R
         cases e268
         replace z6R := zx HB z6R
         replace z6S := zx HB z6S
         replace z6T := zx HB z6T
         replace z6U := zx HB z6U
         replace p268 := eq_true p268
         replace q268 := eq_true q268
         refine z6l (n := 11) (S := fun w' => w'.cell? ⟨z9M, 0, none⟩ = some (.slice z0U l0_0.length c0_0) ∧ w'.cell? ⟨z9M, 1, none⟩ = some (.slice z0X l0_1.length c0_1) ∧ w'.cell? ⟨z3T, 0, none⟩ = some (.string a1_0) ∧ w'.cell? ⟨z3T, 1, none⟩ = some (.slice y0m l1_1.length c1_1) ∧ w'.cell? ⟨z3T, 2, none⟩ = some (.slice (some ad268) l1_2.length c1_2) ∧ w'.cell? ⟨z3T, 3, none⟩ = some (.slice z6H l1_3.length c1_3) ∧ w'.cell? ⟨z3T, 4, none⟩ = some (.slice z8R l1_4.length c1_4) ∧ w'.cell? ⟨z3T, 5, none⟩ = some (.int .u8 a1_5) ∧ w'.cell? ⟨z3T, 6, none⟩ = some (.bool a1_6) ∧ w'.cell? (ad268.add ((x6_3).toNat * 4)) = some (.int .i32 ((z1y l1_2 x6_3).f0)) ∧ w'.cell? ⟨(ad268.add ((x6_3).toNat * 4)).block, (ad268.add ((x6_3).toNat * 4)).off + 1, none⟩ = some (.int .i64 ((z1y l1_2 x6_3).f1)) ∧ w'.cell? ⟨(ad268.add ((x6_3).toNat * 4)).block, (ad268.add ((x6_3).toNat * 4)).off + 2, none⟩ = some (.int .u32 ((z1y l1_2 x6_3).f2)) ∧ w'.cell? ⟨(ad268.add ((x6_3).toNat * 4)).block, (ad268.add ((x6_3).toNat * 4)).off + 3, none⟩ = some (.int .u32 ((z1y l1_2 x6_3).f3))) (ds := []) #[false, false, false, false, false, false, false, false, false, false, false] (by kernel_rfl) rfl rfl ⟨(z0p z2A.out 0).trans rfl, (z0p z2A.out 1).trans rfl, (z0p z1I.out 0).trans rfl, (z0p z1I.out 1).trans rfl, (z0p z1I.out 2).trans rfl, (z0p z1I.out 3).trans rfl, (z0p z1I.out 4).trans rfl, (z0p z1I.out 5).trans rfl, (z0p z1I.out 6).trans rfl, ((HB.out.cell (World.block_lt_of_cell? w _ z6Y)).trans z6Y), ((HB.out.cell (World.block_lt_of_cell? w _ z6X)).trans z6X), ((HB.out.cell (World.block_lt_of_cell? w _ z6W)).trans z6W), ((HB.out.cell (World.block_lt_of_cell? w _ z6V)).trans z6V)⟩ (fun hHeld => ?_); refine z3I z0i.w3a z0i.x7R (fun HT_ HW_ => ?_)
         generalize wr.drew = w49 at z2A z1I HB z6R z6S z6T z6U hHeld ⊢
         refine z1O (i := 1) (N := some 79) (v := ?_) (a' := ?_) #[false, true, false, false, false, false, false, false, false, false, false] rfl rfl (z1s HT_.out (by kernel_rfl)) (fun _ _ _ h => h) (Or.inl ⟨by rfl, ?_⟩) ?_ ?_
         rotate_left
         ·intro w'
          go_simp
          with_reducible rfl
         rotate_left
         ·simp only [Act.put, List.setIfInBounds_toArray, List.set_cons_zero, List.set_cons_succ, z0V, z0W]
          rfl
         refine z1O (i := 3) (N := some 81) (v := ?_) (a' := ?_) #[false, true, false, true, false, false, false, false, false, false, false] rfl rfl (z1s HT_.out (by kernel_rfl)) (fun _ _ _ h => h) (Or.inl ⟨by rfl, ?_⟩) ?_ ?_
         rotate_left
         ·intro w'
          go_simp
          with_reducible rfl
         rotate_left
         ·simp only [Act.put, List.setIfInBounds_toArray, List.set_cons_zero, List.set_cons_succ, z0V, z0W]
          rfl
         refine z1O (i := 6) (N := some 84) (v := ?_) (a' := ?_) #[false, true, false, true, false, false, true, false, false, false, false] rfl rfl (z1s HT_.out (by kernel_rfl)) (fun _ _ _ h => h) (Or.inl ⟨by rfl, ?_⟩) ?_ ?_
         rotate_left
         ·intro w'
          go_simp
          with_reducible rfl
         rotate_left
         ·simp only [Act.put, List.setIfInBounds_toArray, List.set_cons_zero, List.set_cons_succ, z0V, z0W]
          rfl
         refine z2R (i := 0) (N := some 78) (v := ?_) (a' := ?_) #[true, true, false, true, false, false, true, false, false, false, false] rfl rfl (z1D HT_.out HW_.out (by kernel_rfl)) (fun _ _ _ h => h) (Or.inl ⟨by rfl, ?_⟩) hHeld ?_ ?_
         rotate_left
         ·rintro w' ⟨s0, s1, s2, s3, s4, s5, s6, s7, s8, s9, s10, s11, s12⟩
          go_simp
          with_reducible rfl
         rotate_left
         ·simp only [Act.put, List.setIfInBounds_toArray, List.set_cons_zero, List.set_cons_succ, z0V, z0W]
          rfl
         refine z2R (i := 2) (N := some 80) (v := ?_) (a' := ?_) #[true, true, true, true, false, false, true, false, false, false, false] rfl rfl (z1D HT_.out HW_.out (by kernel_rfl)) (fun _ _ _ h => h) (Or.inl ⟨by rfl, ?_⟩) hHeld ?_ ?_
         rotate_left
         ·rintro w' ⟨s0, s1, s2, s3, s4, s5, s6, s7, s8, s9, s10, s11, s12⟩
          go_simp
          with_reducible rfl
         rotate_left
         ·simp only [Act.put, List.setIfInBounds_toArray, List.set_cons_zero, List.set_cons_succ, z0V, z0W]
          rfl
         refine z1O (i := 4) (N := some 82) (v := ?_) (a' := ?_) #[true, true, true, true, true, false, true, false, false, false, false] rfl rfl (z1s HT_.out (by kernel_rfl)) (fun _ _ _ h => h) (Or.inl ⟨by rfl, ?_⟩) ?_ ?_
         rotate_left
         ·intro w'
          go_simp
          with_reducible rfl
         rotate_left
         ·simp only [Act.put, List.setIfInBounds_toArray, List.set_cons_zero, List.set_cons_succ, z0V, z0W]
          rfl
         refine z2R (i := 5) (N := some 83) (v := ?_) (a' := ?_) #[true, true, true, true, true, true, true, false, false, false, false] rfl rfl (z1D HT_.out HW_.out (by kernel_rfl)) (fun _ _ _ h => h) (Or.inl ⟨by rfl, ?_⟩) hHeld ?_ ?_
         rotate_left
         ·rintro w' ⟨s0, s1, s2, s3, s4, s5, s6, s7, s8, s9, s10, s11, s12⟩
          go_simp
          with_reducible rfl
         rotate_left
         ·simp only [Act.put, List.setIfInBounds_toArray, List.set_cons_zero, List.set_cons_succ, z0V, z0W]
          rfl
         refine z2R (i := 7) (N := some 85) (v := ?_) (a' := ?_) #[true, true, true, true, true, true, true, true, false, false, false] rfl rfl (z1D HT_.out HW_.out (by kernel_rfl)) (fun _ _ _ h => h) (Or.inl ⟨by rfl, ?_⟩) hHeld ?_ ?_
         rotate_left
         ·rintro w' ⟨s0, s1, s2, s3, s4, s5, s6, s7, s8, s9, s10, s11, s12⟩
          go_simp
          with_reducible rfl
         rotate_left
         ·simp only [Act.put, List.setIfInBounds_toArray, List.set_cons_zero, List.set_cons_succ, z0V, z0W]
          rfl
         refine z1O (i := 8) (N := some 86) (v := ?_) (a' := ?_) #[true, true, true, true, true, true, true, true, true, false, false] rfl rfl (z1s HT_.out (by kernel_rfl)) (fun _ _ _ h => h) (Or.inl ⟨by rfl, ?_⟩) ?_ ?_
         rotate_left
         ·intro w'
          go_simp
          with_reducible rfl
         rotate_left
         ·simp only [Act.put, List.setIfInBounds_toArray, List.set_cons_zero, List.set_cons_succ, z0V, z0W]
          rfl
         refine x6C (i := 9) (N := some 87) #[true, true, true, true, true, true, true, true, true, true, false] rfl rfl (z8Z HT_.out (by kernel_rfl)) (by decide) (fun K hK => ?_)
         refine y4W Tryz.func178 (by kernel_rfl) rfl #[.agg #[.slice z0U l0_0.length c0_0, .slice z0X l0_1.length c0_1], .agg #[.int .i32 ((z1y l1_2 x6_3).f0), .int .i64 ((z1y l1_2 x6_3).f1), .int .u32 ((z1y l1_2 x6_3).f2), .int .u32 ((z1y l1_2 x6_3).f3)], .int .i64 (l1_1.length : Int)] (by rfl) rfl rfl zq ?_
         with_reducible refine (z1A.calls k3 _ _ l0_0 _ _ l0_1 ((z1y l1_2 x6_3).f0) ((z1y l1_2 x6_3).f1) ((z1y l1_2 x6_3).f2) ((z1y l1_2 x6_3).f3) (l1_1.length : Int) false _ ?z0M ?z4Y ?z0Q ?z6g A41.out).mono ?_
         (case z0M => exact zs)
         (case z4Y => exact z1g.out)
         (case z0Q => exact zs)
         (case z6g => exact z1j.out)
         rintro e w50 ⟨rfl, hb⟩
         refine ⟨_, rfl, ?_⟩
         have n0_ := z0a.mk (z0O (g := z9M) (o := .cells #[.slice z0U l0_0.length c0_0, .slice z0X l0_1.length c0_1] 25 (0, 0)) zk hb)
         have n1_ := z0a.mk (z0O (g := z3T) (o := .cells #[.string a1_0, .slice y0m l1_1.length c1_1, .slice (some ad268) l1_2.length c1_2, .slice z6H l1_3.length c1_3, .slice z8R l1_4.length c1_4, .int .u8 a1_5, .bool a1_6] 51 (0, 0)) zk hb)
         have n2_ := z0a.mk (z2X zb hb)
         clear z2A
         clear z1I
         clear HB
         have z2A := n0_
         have z1I := n1_
         have HB := n2_
         clear n0_ n1_ n2_
         (try clear hb)
         (try clear hb2)
         (try clear hk)
         (try clear hi)
         refine hK.out _ _ ⟨(z0p z2A.out 0).trans rfl, (z0p z2A.out 1).trans rfl, (z0p z1I.out 0).trans rfl, (z0p z1I.out 1).trans rfl, (z0p z1I.out 2).trans rfl, (z0p z1I.out 3).trans rfl, (z0p z1I.out 4).trans rfl, (z0p z1I.out 5).trans rfl, (z0p z1I.out 6).trans rfl, ((HB.out.cell (World.block_lt_of_cell? w _ z6Y)).trans z6Y), ((HB.out.cell (World.block_lt_of_cell? w _ z6X)).trans z6X), ((HB.out.cell (World.block_lt_of_cell? w _ z6W)).trans z6W), ((HB.out.cell (World.block_lt_of_cell? w _ z6V)).trans z6V)⟩ (fun hHeld => ?_)
         clear hK K
         refine y4g (a' := ?_) ?_ ?_
         rotate_left
         ·show Act.put _ (some 87) _ = _
          simp only [Act.put, List.setIfInBounds_toArray, List.set_cons_zero, List.set_cons_succ, z0V, z0W]
          rfl
         refine z1O (i := 10) (N := some 88) (v := ?_) (a' := ?_) #[true, true, true, true, true, true, true, true, true, true, true] rfl rfl (z1s HT_.out (by kernel_rfl)) (fun _ _ _ h => h) (Or.inl ⟨by rfl, ?_⟩) ?_ ?_
         rotate_left
         ·intro w'
          go_simp
          with_reducible rfl
         rotate_left
         ·simp only [Act.put, List.setIfInBounds_toArray, List.set_cons_zero, List.set_cons_succ, z0V, z0W]
          rfl
         refine y0q (z5u HT_.out (by kernel_rfl)) ?_
         try go_wp2
         go_ret
         exact ⟨zr, zb⟩
        subst c42
        have H1 : (z0i.l1 k3 (wrap64 (x6_3 + 1)) l0_0 l0_1 a1_0 l1_1 l1_2 l1_3 l1_4 a1_5 a1_6) = some r := by rw [if_pos rfl] at H; exact H
        clear H
        have H := H1
        clear H1
        have H' := z0a.mk H
        clear H
        have hnb43 := z3v.out
        have hnc43 := z3u.out
        obtain ⟨x3r, x3s, x9a, hcz44_3, hcz44_4, hcz44_5, hcz44_6, x3t, x3u, x9b, hfz44_3, hfz44_4, hfz44_5, hfz44_6⟩ := zc7 wr z1I.out
        try go_wp2
        have n0_ := z0a.mk (z0e z2A.out)
        have n1_ := z0a.mk (z0e z1I.out)
        have n2_ := z0a.mk (z1l HB.out)
        clear z2A
        clear z1I
        clear HB
        have z2A := n0_
        have z1I := n1_
        have HB := n2_
        clear n0_ n1_ n2_
        have p268 : 0 ≤ (x6_3 : Int) := za
        have q268 : x6_3 < (l1_2.length : Int) := za
        obtain ⟨ad268, e268, z6R, z6S, z6T, z6U⟩ := y4x x1d.out x6_3 p268 q268
        have z6V := z6U
        have z6W := z6T
        have z6X := z6S
        have z6Y := z6R
        cases e268
        replace z6R := zx HB z6R
        replace z6S := zx HB z6S
        replace z6T := zx HB z6T
        replace z6U := zx HB z6U
        replace p268 := eq_true p268
        replace q268 := eq_true q268
        refine z6l (n := 11) (S := fun w' => w'.cell? ⟨z9M, 0, none⟩ = some (.slice z0U l0_0.length c0_0) ∧ w'.cell? ⟨z9M, 1, none⟩ = some (.slice z0X l0_1.length c0_1) ∧ w'.cell? ⟨z3T, 0, none⟩ = some (.string a1_0) ∧ w'.cell? ⟨z3T, 1, none⟩ = some (.slice y0m l1_1.length c1_1) ∧ w'.cell? ⟨z3T, 2, none⟩ = some (.slice (some ad268) l1_2.length c1_2) ∧ w'.cell? ⟨z3T, 3, none⟩ = some (.slice z6H l1_3.length c1_3) ∧ w'.cell? ⟨z3T, 4, none⟩ = some (.slice z8R l1_4.length c1_4) ∧ w'.cell? ⟨z3T, 5, none⟩ = some (.int .u8 a1_5) ∧ w'.cell? ⟨z3T, 6, none⟩ = some (.bool a1_6) ∧ w'.cell? (ad268.add ((x6_3).toNat * 4)) = some (.int .i32 ((z1y l1_2 x6_3).f0)) ∧ w'.cell? ⟨(ad268.add ((x6_3).toNat * 4)).block, (ad268.add ((x6_3).toNat * 4)).off + 1, none⟩ = some (.int .i64 ((z1y l1_2 x6_3).f1)) ∧ w'.cell? ⟨(ad268.add ((x6_3).toNat * 4)).block, (ad268.add ((x6_3).toNat * 4)).off + 2, none⟩ = some (.int .u32 ((z1y l1_2 x6_3).f2)) ∧ w'.cell? ⟨(ad268.add ((x6_3).toNat * 4)).block, (ad268.add ((x6_3).toNat * 4)).off + 3, none⟩ = some (.int .u32 ((z1y l1_2 x6_3).f3))) (ds := []) #[false, false, false, false, false, false, false, false, false, false, false] (by kernel_rfl) rfl rfl ⟨(z0p z2A.out 0).trans rfl, (z0p z2A.out 1).trans rfl, (z0p z1I.out 0).trans rfl, (z0p z1I.out 1).trans rfl, (z0p z1I.out 2).trans rfl, (z0p z1I.out 3).trans rfl, (z0p z1I.out 4).trans rfl, (z0p z1I.out 5).trans rfl, (z0p z1I.out 6).trans rfl, ((HB.out.cell (World.block_lt_of_cell? w _ z6Y)).trans z6Y), ((HB.out.cell (World.block_lt_of_cell? w _ z6X)).trans z6X), ((HB.out.cell (World.block_lt_of_cell? w _ z6W)).trans z6W), ((HB.out.cell (World.block_lt_of_cell? w _ z6V)).trans z6V)⟩ (fun hHeld => ?_); refine z3I z0i.w3a z0i.x7R (fun HT_ HW_ => ?_)
        generalize wr.drew = w45 at z2A z1I HB z6R z6S z6T z6U hHeld ⊢
        refine z1O (i := 1) (N := some 79) (v := ?_) (a' := ?_) #[false, true, false, false, false, false, false, false, false, false, false] rfl rfl (z1s HT_.out (by kernel_rfl)) (fun _ _ _ h => h) (Or.inl ⟨by rfl, ?_⟩) ?_ ?_
        rotate_left
        ·intro w'
         go_simp
         with_reducible rfl
        rotate_left
        ·simp only [Act.put, List.setIfInBounds_toArray, List.set_cons_zero, List.set_cons_succ, z0V, z0W]
         rfl
        refine z1O (i := 3) (N := some 81) (v := ?_) (a' := ?_) #[false, true, false, true, false, false, false, false, false, false, false] rfl rfl (z1s HT_.out (by kernel_rfl)) (fun _ _ _ h => h) (Or.inl ⟨by rfl, ?_⟩) ?_ ?_
        rotate_left
        ·intro w'
         go_simp
         with_reducible rfl
        rotate_left
        ·simp only [Act.put, List.setIfInBounds_toArray, List.set_cons_zero, List.set_cons_succ, z0V, z0W]
         rfl
        refine z1O (i := 6) (N := some 84) (v := ?_) (a' := ?_) #[false, true, false, true, false, false, true, false, false, false, false] rfl rfl (z1s HT_.out (by kernel_rfl)) (fun _ _ _ h => h) (Or.inl ⟨by rfl, ?_⟩) ?_ ?_
        rotate_left
        ·intro w'
         go_simp
         with_reducible rfl
        rotate_left
        ·simp only [Act.put, List.setIfInBounds_toArray, List.set_cons_zero, List.set_cons_succ, z0V, z0W]
         rfl
        refine z2R (i := 0) (N := some 78) (v := ?_) (a' := ?_) #[true, true, false, true, false, false, true, false, false, false, false] rfl rfl (z1D HT_.out HW_.out (by kernel_rfl)) (fun _ _ _ h => h) (Or.inl ⟨by rfl, ?_⟩) hHeld ?_ ?_
        rotate_left
        ·rintro w' ⟨s0, s1, s2, s3, s4, s5, s6, s7, s8, s9, s10, s11, s12⟩
         go_simp
         with_reducible rfl
        rotate_left
        ·simp only [Act.put, List.setIfInBounds_toArray, List.set_cons_zero, List.set_cons_succ, z0V, z0W]
         rfl
        refine z2R (i := 2) (N := some 80) (v := ?_) (a' := ?_) #[true, true, true, true, false, false, true, false, false, false, false] rfl rfl (z1D HT_.out HW_.out (by kernel_rfl)) (fun _ _ _ h => h) (Or.inl ⟨by rfl, ?_⟩) hHeld ?_ ?_
        rotate_left
        ·rintro w' ⟨s0, s1, s2, s3, s4, s5, s6, s7, s8, s9, s10, s11, s12⟩
         go_simp
         with_reducible rfl
        rotate_left
        ·simp only [Act.put, List.setIfInBounds_toArray, List.set_cons_zero, List.set_cons_succ, z0V, z0W]
         rfl
        refine z1O (i := 4) (N := some 82) (v := ?_) (a' := ?_) #[true, true, true, true, true, false, true, false, false, false, false] rfl rfl (z1s HT_.out (by kernel_rfl)) (fun _ _ _ h => h) (Or.inl ⟨by rfl, ?_⟩) ?_ ?_
        rotate_left
        ·intro w'
         go_simp
         with_reducible rfl
        rotate_left
        ·simp only [Act.put, List.setIfInBounds_toArray, List.set_cons_zero, List.set_cons_succ, z0V, z0W]
         rfl
        refine z2R (i := 5) (N := some 83) (v := ?_) (a' := ?_) #[true, true, true, true, true, true, true, false, false, false, false] rfl rfl (z1D HT_.out HW_.out (by kernel_rfl)) (fun _ _ _ h => h) (Or.inl ⟨by rfl, ?_⟩) hHeld ?_ ?_
        rotate_left
        ·rintro w' ⟨s0, s1, s2, s3, s4, s5, s6, s7, s8, s9, s10, s11, s12⟩
         go_simp
         with_reducible rfl
        rotate_left
        ·simp only [Act.put, List.setIfInBounds_toArray, List.set_cons_zero, List.set_cons_succ, z0V, z0W]
         rfl
        refine z2R (i := 7) (N := some 85) (v := ?_) (a' := ?_) #[true, true, true, true, true, true, true, true, false, false, false] rfl rfl (z1D HT_.out HW_.out (by kernel_rfl)) (fun _ _ _ h => h) (Or.inl ⟨by rfl, ?_⟩) hHeld ?_ ?_
        rotate_left
        ·rintro w' ⟨s0, s1, s2, s3, s4, s5, s6, s7, s8, s9, s10, s11, s12⟩
         go_simp
         with_reducible rfl
        rotate_left
        ·simp only [Act.put, List.setIfInBounds_toArray, List.set_cons_zero, List.set_cons_succ, z0V, z0W]
         rfl
        refine z1O (i := 8) (N := some 86) (v := ?_) (a' := ?_) #[true, true, true, true, true, true, true, true, true, false, false] rfl rfl (z1s HT_.out (by kernel_rfl)) (fun _ _ _ h => h) (Or.inl ⟨by rfl, ?_⟩) ?_ ?_
        rotate_left
        ·intro w'
         go_simp
         with_reducible rfl
        rotate_left
        ·simp only [Act.put, List.setIfInBounds_toArray, List.set_cons_zero, List.set_cons_succ, z0V, z0W]
         rfl
        refine x6C (i := 9) (N := some 87) #[true, true, true, true, true, true, true, true, true, true, false] rfl rfl (z8Z HT_.out (by kernel_rfl)) (by decide) (fun K hK => ?_)
        refine y4W Tryz.func178 (by kernel_rfl) rfl #[.agg #[.slice z0U l0_0.length c0_0, .slice z0X l0_1.length c0_1], .agg #[.int .i32 ((z1y l1_2 x6_3).f0), .int .i64 ((z1y l1_2 x6_3).f1), .int .u32 ((z1y l1_2 x6_3).f2), .int .u32 ((z1y l1_2 x6_3).f3)], .int .i64 (l1_1.length : Int)] (by rfl) rfl rfl zq ?_
        with_reducible refine (z1A.calls k3 _ _ l0_0 _ _ l0_1 ((z1y l1_2 x6_3).f0) ((z1y l1_2 x6_3).f1) ((z1y l1_2 x6_3).f2) ((z1y l1_2 x6_3).f3) (l1_1.length : Int) true _ ?z0M ?z4Y ?z0Q ?z6g A41.out).mono ?_
        (case z0M => exact zs)
        (case z4Y => exact z1g.out)
        (case z0Q => exact zs)
        (case z6g => exact z1j.out)
        rintro e w46 ⟨rfl, hb⟩
        refine ⟨_, rfl, ?_⟩
        have n0_ := z0a.mk (z0O (g := z9M) (o := .cells #[.slice z0U l0_0.length c0_0, .slice z0X l0_1.length c0_1] 25 (0, 0)) zk hb)
        have n1_ := z0a.mk (z0O (g := z3T) (o := .cells #[.string a1_0, .slice y0m l1_1.length c1_1, .slice (some ad268) l1_2.length c1_2, .slice z6H l1_3.length c1_3, .slice z8R l1_4.length c1_4, .int .u8 a1_5, .bool a1_6] 51 (0, 0)) zk hb)
        have n2_ := z0a.mk (z2X zb hb)
        clear z2A
        clear z1I
        clear HB
        have z2A := n0_
        have z1I := n1_
        have HB := n2_
        clear n0_ n1_ n2_
        (try clear hb)
        (try clear hb2)
        (try clear hk)
        (try clear hi)
        refine hK.out _ _ ⟨(z0p z2A.out 0).trans rfl, (z0p z2A.out 1).trans rfl, (z0p z1I.out 0).trans rfl, (z0p z1I.out 1).trans rfl, (z0p z1I.out 2).trans rfl, (z0p z1I.out 3).trans rfl, (z0p z1I.out 4).trans rfl, (z0p z1I.out 5).trans rfl, (z0p z1I.out 6).trans rfl, ((HB.out.cell (World.block_lt_of_cell? w _ z6Y)).trans z6Y), ((HB.out.cell (World.block_lt_of_cell? w _ z6X)).trans z6X), ((HB.out.cell (World.block_lt_of_cell? w _ z6W)).trans z6W), ((HB.out.cell (World.block_lt_of_cell? w _ z6V)).trans z6V)⟩ (fun hHeld => ?_)
        clear hK K
        refine y4g (a' := ?_) ?_ ?_
        rotate_left
        ·show Act.put _ (some 87) _ = _
         simp only [Act.put, List.setIfInBounds_toArray, List.set_cons_zero, List.set_cons_succ, z0V, z0W]
         rfl
        refine z1O (i := 10) (N := some 88) (v := ?_) (a' := ?_) #[true, true, true, true, true, true, true, true, true, true, true] rfl rfl (z1s HT_.out (by kernel_rfl)) (fun _ _ _ h => h) (Or.inl ⟨by rfl, ?_⟩) ?_ ?_
        rotate_left
        ·intro w'
         go_simp
         with_reducible rfl
        rotate_left
        ·simp only [Act.put, List.setIfInBounds_toArray, List.set_cons_zero, List.set_cons_succ, z0V, z0W]
         rfl
        refine y0q (z5u HT_.out (by kernel_rfl)) ?_
        try go_wp2
        go_roundg k3
        case measure => have := HJ2.out; have := HK2.out; have := HK3.out; omega
        case rel => exact ⟨(wrap64 (x6_3 + 1)), ze, H', ⟨by have := HJ2.out; have := HK2.out; have := HK3.out; omega⟩, ⟨zk⟩, ⟨zk⟩, ⟨zb⟩⟩
     rw [if_pos c25] at H
     have c25b0 : decide (x5_2 < (l1_1.length : Int)) = true := decide_eq_true c25
     clear c25
     by_cases c26 : 0 ≤ x5_2
     rotate_left
     ·rw [if_neg c26] at H
      exact absurd H (by simp)
     rw [if_pos c26] at H
     have c26b0 : decide (0 ≤ x5_2) = true := decide_eq_true c26
     clear c26
     replace H := Option.bind_eq_some_iff.mp H
     obtain ⟨t267, A270, H⟩ := H
     replace H : (if t267 = true then (z0i.l0 k2 (wrap64 (x5_2 + 1)) l0_0 l0_1 a1_0 l1_1 l1_2 l1_3 l1_4 a1_5 a1_6) else (some false)) = some r := H
     have A27 := z0a.mk A270
     clear A270
     by_cases c28 : t267 = true
     rotate_left
     ·replace c28 := Bool.eq_false_iff.mpr c28
      subst c28
      have H1 : (some false) = some r := by rw [if_neg (show ¬ (false = true) by decide)] at H; exact H
      clear H
      have H := H1
      clear H1
      obtain rfl := Option.some.inj H
      have hnb33 := z3v.out
      have hnc33 := z3u.out
      obtain ⟨y0z, y2h, y2i, y5R, y8E, x9M, x9N, y0A, y2j, y2k, y5S, y8F, x9O, x9P⟩ := zc7 wr z1I.out
      try go_wp2
      have n0_ := z0a.mk (z0e z2A.out)
      have n1_ := z0a.mk (z0e z1I.out)
      have n2_ := z0a.mk (z1l HB.out)
      clear z2A
      clear z1I
      clear HB
      have z2A := n0_
      have z1I := n1_
      have HB := n2_
      clear n0_ n1_ n2_
      have p264 : 0 ≤ (x5_2 : Int) := za
      have q264 : x5_2 < (l1_1.length : Int) := za
      obtain ⟨ad264, e264, z6Z, z7a, z7b⟩ := z9b y4k.out x5_2 p264 q264
      have z7c := z7b
      have z7d := z7a
      have z7e := z6Z
      cases e264
      replace z6Z := zx HB z6Z
      replace z7a := zx HB z7a
      replace z7b := zx HB z7b
      replace p264 := eq_true p264
      replace q264 := eq_true q264
      have p265 : 0 ≤ (x5_2 : Int) := za
      have q265 : x5_2 < (l1_1.length : Int) := za
      obtain ⟨ad265, e265, z7f, z7g, z7h⟩ := z9b y4k.out x5_2 p265 q265
      have z7i := z7h
      have z7j := z7g
      have z7k := z7f
      obtain rfl : ad264 = ad265 := (by injection e265)
      replace z7f := zx HB z7f
      replace z7g := zx HB z7g
      replace z7h := zx HB z7h
      replace p265 := eq_true p265
      replace q265 := eq_true q265
      have p266 : 0 ≤ (x5_2 : Int) := za
      have q266 : x5_2 < (l1_1.length : Int) := za
      obtain ⟨ad266, e266, z7l, z7m, z7n⟩ := z9b y4k.out x5_2 p266 q266
      have z7o := z7n
      have z7p := z7m
      have z7q := z7l
      obtain rfl : ad264 = ad266 := (by injection e266)
      replace z7l := zx HB z7l
      replace z7m := zx HB z7m
      replace z7n := zx HB z7n
      replace p266 := eq_true p266
      replace q266 := eq_true q266
      refine z6l (n := 21) (S := fun w' => w'.cell? ⟨z9M, 0, none⟩ = some (.slice z0U l0_0.length c0_0) ∧ w'.cell? ⟨z9M, 1, none⟩ = some (.slice z0X l0_1.length c0_1) ∧ w'.cell? ⟨z3T, 0, none⟩ = some (.string a1_0) ∧ w'.cell? ⟨z3T, 1, none⟩ = some (.slice (some ad264) l1_1.length c1_1) ∧ w'.cell? ⟨z3T, 2, none⟩ = some (.slice y0n l1_2.length c1_2) ∧ w'.cell? ⟨z3T, 3, none⟩ = some (.slice z6H l1_3.length c1_3) ∧ w'.cell? ⟨z3T, 4, none⟩ = some (.slice z8R l1_4.length c1_4) ∧ w'.cell? ⟨z3T, 5, none⟩ = some (.int .u8 a1_5) ∧ w'.cell? ⟨z3T, 6, none⟩ = some (.bool a1_6) ∧ w'.cell? (ad264.add ((x5_2).toNat * 3)) = some (.int .i32 ((z1L l1_1 x5_2).f0)) ∧ w'.cell? ⟨(ad264.add ((x5_2).toNat * 3)).block, (ad264.add ((x5_2).toNat * 3)).off + 1, none⟩ = some (.int .u32 ((z1L l1_1 x5_2).f1)) ∧ w'.cell? ⟨(ad264.add ((x5_2).toNat * 3)).block, (ad264.add ((x5_2).toNat * 3)).off + 2, none⟩ = some (.int .u32 ((z1L l1_1 x5_2).f2)) ∧ w'.cell? (ad264.add ((x5_2).toNat * 3)) = some (.int .i32 ((z1L l1_1 x5_2).f0)) ∧ w'.cell? ⟨(ad264.add ((x5_2).toNat * 3)).block, (ad264.add ((x5_2).toNat * 3)).off + 1, none⟩ = some (.int .u32 ((z1L l1_1 x5_2).f1)) ∧ w'.cell? ⟨(ad264.add ((x5_2).toNat * 3)).block, (ad264.add ((x5_2).toNat * 3)).off + 2, none⟩ = some (.int .u32 ((z1L l1_1 x5_2).f2)) ∧ w'.cell? (ad264.add ((x5_2).toNat * 3)) = some (.int .i32 ((z1L l1_1 x5_2).f0)) ∧ w'.cell? ⟨(ad264.add ((x5_2).toNat * 3)).block, (ad264.add ((x5_2).toNat * 3)).off + 1, none⟩ = some (.int .u32 ((z1L l1_1 x5_2).f1)) ∧ w'.cell? ⟨(ad264.add ((x5_2).toNat * 3)).block, (ad264.add ((x5_2).toNat * 3)).off + 2, none⟩ = some (.int .u32 ((z1L l1_1 x5_2).f2))) (ds := []) #[false, false, false, false, false, false, false, false, false, false, false, false, false, false, false, false, false, false, false, false, false] (by kernel_rfl) rfl rfl ⟨(z0p z2A.out 0).trans rfl, (z0p z2A.out 1).trans rfl, (z0p z1I.out 0).trans rfl, (z0p z1I.out 1).trans rfl, (z0p z1I.out 2).trans rfl, (z0p z1I.out 3).trans rfl, (z0p z1I.out 4).trans rfl, (z0p z1I.out 5).trans rfl, (z0p z1I.out 6).trans rfl, ((HB.out.cell (World.block_lt_of_cell? w _ z7e)).trans z7e), ((HB.out.cell (World.block_lt_of_cell? w _ z7d)).trans z7d), ((HB.out.cell (World.block_lt_of_cell? w _ z7c)).trans z7c), ((HB.out.cell (World.block_lt_of_cell? w _ z7k)).trans z7k), ((HB.out.cell (World.block_lt_of_cell? w _ z7j)).trans z7j), ((HB.out.cell (World.block_lt_of_cell? w _ z7i)).trans z7i), ((HB.out.cell (World.block_lt_of_cell? w _ z7q)).trans z7q), ((HB.out.cell (World.block_lt_of_cell? w _ z7p)).trans z7p), ((HB.out.cell (World.block_lt_of_cell? w _ z7o)).trans z7o)⟩ (fun hHeld => ?_); refine z3I z0i.tab6 z0i.w2Z (fun HT_ HW_ => ?_)
      generalize wr.drew = w35 at z2A z1I HB z6Z z7a z7b z7f z7g z7h z7l z7m z7n hHeld ⊢
      refine z1O (i := 1) (N := some 51) (v := ?_) (a' := ?_) #[false, true, false, false, false, false, false, false, false, false, false, false, false, false, false, false, false, false, false, false, false] rfl rfl (z1s HT_.out (by kernel_rfl)) (fun _ _ _ h => h) (Or.inl ⟨by rfl, ?_⟩) ?_ ?_
      rotate_left
      ·intro w'
       go_simp
       with_reducible rfl
      rotate_left
      ·simp only [Act.put, List.setIfInBounds_toArray, List.set_cons_zero, List.set_cons_succ, z0V, z0W]
       rfl
      refine z1O (i := 3) (N := some 53) (v := ?_) (a' := ?_) #[false, true, false, true, false, false, false, false, false, false, false, false, false, false, false, false, false, false, false, false, false] rfl rfl (z1s HT_.out (by kernel_rfl)) (fun _ _ _ h => h) (Or.inl ⟨by rfl, ?_⟩) ?_ ?_
      rotate_left
      ·intro w'
       go_simp
       with_reducible rfl
      rotate_left
      ·simp only [Act.put, List.setIfInBounds_toArray, List.set_cons_zero, List.set_cons_succ, z0V, z0W]
       rfl
      refine z1O (i := 7) (N := some 57) (v := ?_) (a' := ?_) #[false, true, false, true, false, false, false, true, false, false, false, false, false, false, false, false, false, false, false, false, false] rfl rfl (z1s HT_.out (by kernel_rfl)) (fun _ _ _ h => h) (Or.inl ⟨by rfl, ?_⟩) ?_ ?_
      rotate_left
      ·intro w'
       go_simp
       with_reducible rfl
      rotate_left
      ·simp only [Act.put, List.setIfInBounds_toArray, List.set_cons_zero, List.set_cons_succ, z0V, z0W]
       rfl
      refine z1O (i := 9) (N := some 59) (v := ?_) (a' := ?_) #[false, true, false, true, false, false, false, true, false, true, false, false, false, false, false, false, false, false, false, false, false] rfl rfl (z1s HT_.out (by kernel_rfl)) (fun _ _ _ h => h) (Or.inl ⟨by rfl, ?_⟩) ?_ ?_
      rotate_left
      ·intro w'
       go_simp
       with_reducible rfl
      rotate_left
      ·simp only [Act.put, List.setIfInBounds_toArray, List.set_cons_zero, List.set_cons_succ, z0V, z0W]
       rfl
      refine z1O (i := 13) (N := some 63) (v := ?_) (a' := ?_) #[false, true, false, true, false, false, false, true, false, true, false, false, false, true, false, false, false, false, false, false, false] rfl rfl (z1s HT_.out (by kernel_rfl)) (fun _ _ _ h => h) (Or.inl ⟨by rfl, ?_⟩) ?_ ?_
      rotate_left
      ·intro w'
       go_simp
       with_reducible rfl
      rotate_left
      ·simp only [Act.put, List.setIfInBounds_toArray, List.set_cons_zero, List.set_cons_succ, z0V, z0W]
       rfl
      refine z1O (i := 15) (N := some 65) (v := ?_) (a' := ?_) #[false, true, false, true, false, false, false, true, false, true, false, false, false, true, false, true, false, false, false, false, false] rfl rfl (z1s HT_.out (by kernel_rfl)) (fun _ _ _ h => h) (Or.inl ⟨by rfl, ?_⟩) ?_ ?_
      rotate_left
      ·intro w'
       go_simp
       with_reducible rfl
      rotate_left
      ·simp only [Act.put, List.setIfInBounds_toArray, List.set_cons_zero, List.set_cons_succ, z0V, z0W]
       rfl
      refine z2R (i := 0) (N := some 50) (v := ?_) (a' := ?_) #[true, true, false, true, false, false, false, true, false, true, false, false, false, true, false, true, false, false, false, false, false] rfl rfl (z1D HT_.out HW_.out (by kernel_rfl)) (fun _ _ _ h => h) (Or.inl ⟨by rfl, ?_⟩) hHeld ?_ ?_
      rotate_left
      ·rintro w' ⟨s0, s1, s2, s3, s4, s5, s6, s7, s8, s9, s10, s11, s12, s13, s14, s15, s16, s17⟩
       go_simp
       with_reducible rfl
      rotate_left
      ·simp only [Act.put, List.setIfInBounds_toArray, List.set_cons_zero, List.set_cons_succ, z0V, z0W]
       rfl
      refine z2R (i := 2) (N := some 52) (v := ?_) (a' := ?_) #[true, true, true, true, false, false, false, true, false, true, false, false, false, true, false, true, false, false, false, false, false] rfl rfl (z1D HT_.out HW_.out (by kernel_rfl)) (fun _ _ _ h => h) (Or.inl ⟨by rfl, ?_⟩) hHeld ?_ ?_
      rotate_left
      ·rintro w' ⟨s0, s1, s2, s3, s4, s5, s6, s7, s8, s9, s10, s11, s12, s13, s14, s15, s16, s17⟩
       go_simp
       with_reducible rfl
      rotate_left
      ·simp only [Act.put, List.setIfInBounds_toArray, List.set_cons_zero, List.set_cons_succ, z0V, z0W]
       rfl
      refine z1O (i := 4) (N := some 54) (v := ?_) (a' := ?_) #[true, true, true, true, true, false, false, true, false, true, false, false, false, true, false, true, false, false, false, false, false] rfl rfl (z1s HT_.out (by kernel_rfl)) (fun _ _ _ h => h) (Or.inl ⟨by rfl, ?_⟩) ?_ ?_
      rotate_left
      ·intro w'
       go_simp
       with_reducible rfl
      rotate_left
      ·simp only [Act.put, List.setIfInBounds_toArray, List.set_cons_zero, List.set_cons_succ, z0V, z0W]
       rfl
      refine z1O (i := 5) (N := some 55) (v := ?_) (a' := ?_) #[true, true, true, true, true, true, false, true, false, true, false, false, false, true, false, true, false, false, false, false, false] rfl rfl (z1s HT_.out (by kernel_rfl)) (fun _ _ _ h => h) (Or.inl ⟨by rfl, ?_⟩) ?_ ?_
      rotate_left
      ·intro w'
       go_simp
       with_reducible rfl
      rotate_left
      ·simp only [Act.put, List.setIfInBounds_toArray, List.set_cons_zero, List.set_cons_succ, z0V, z0W]
       rfl
      refine z2R (i := 6) (N := some 56) (v := ?_) (a' := ?_) #[true, true, true, true, true, true, true, true, false, true, false, false, false, true, false, true, false, false, false, false, false] rfl rfl (z1D HT_.out HW_.out (by kernel_rfl)) (fun _ _ _ h => h) (Or.inl ⟨by rfl, ?_⟩) hHeld ?_ ?_
      rotate_left
      ·rintro w' ⟨s0, s1, s2, s3, s4, s5, s6, s7, s8, s9, s10, s11, s12, s13, s14, s15, s16, s17⟩
       go_simp
       with_reducible rfl
      rotate_left
      ·simp only [Act.put, List.setIfInBounds_toArray, List.set_cons_zero, List.set_cons_succ, z0V, z0W]
       rfl
      refine z2R (i := 8) (N := some 58) (v := ?_) (a' := ?_) #[true, true, true, true, true, true, true, true, true, true, false, false, false, true, false, true, false, false, false, false, false] rfl rfl (z1D HT_.out HW_.out (by kernel_rfl)) (fun _ _ _ h => h) (Or.inl ⟨by rfl, ?_⟩) hHeld ?_ ?_
      rotate_left
      ·rintro w' ⟨s0, s1, s2, s3, s4, s5, s6, s7, s8, s9, s10, s11, s12, s13, s14, s15, s16, s17⟩
       go_simp
       with_reducible rfl
      rotate_left
      ·simp only [Act.put, List.setIfInBounds_toArray, List.set_cons_zero, List.set_cons_succ, z0V, z0W]
       rfl
      refine z1O (i := 10) (N := some 60) (v := ?_) (a' := ?_) #[true, true, true, true, true, true, true, true, true, true, true, false, false, true, false, true, false, false, false, false, false] rfl rfl (z1s HT_.out (by kernel_rfl)) (fun _ _ _ h => h) (Or.inl ⟨by rfl, ?_⟩) ?_ ?_
      rotate_left
      ·intro w'
       go_simp
       with_reducible rfl
      rotate_left
      ·simp only [Act.put, List.setIfInBounds_toArray, List.set_cons_zero, List.set_cons_succ, z0V, z0W]
       rfl
      refine z1O (i := 11) (N := some 61) (v := ?_) (a' := ?_) #[true, true, true, true, true, true, true, true, true, true, true, true, false, true, false, true, false, false, false, false, false] rfl rfl (z1s HT_.out (by kernel_rfl)) (fun _ _ _ h => h) (Or.inl ⟨by rfl, ?_⟩) ?_ ?_
      rotate_left
      ·intro w'
       go_simp
       with_reducible rfl
      rotate_left
      ·simp only [Act.put, List.setIfInBounds_toArray, List.set_cons_zero, List.set_cons_succ, z0V, z0W]
       rfl
      refine z2R (i := 12) (N := some 62) (v := ?_) (a' := ?_) #[true, true, true, true, true, true, true, true, true, true, true, true, true, true, false, true, false, false, false, false, false] rfl rfl (z1D HT_.out HW_.out (by kernel_rfl)) (fun _ _ _ h => h) (Or.inl ⟨by rfl, ?_⟩) hHeld ?_ ?_
      rotate_left
      ·rintro w' ⟨s0, s1, s2, s3, s4, s5, s6, s7, s8, s9, s10, s11, s12, s13, s14, s15, s16, s17⟩
       go_simp
       with_reducible rfl
      rotate_left
      ·simp only [Act.put, List.setIfInBounds_toArray, List.set_cons_zero, List.set_cons_succ, z0V, z0W]
       rfl
      refine z2R (i := 14) (N := some 64) (v := ?_) (a' := ?_) #[true, true, true, true, true, true, true, true, true, true, true, true, true, true, true, true, false, false, false, false, false] rfl rfl (z1D HT_.out HW_.out (by kernel_rfl)) (fun _ _ _ h => h) (Or.inl ⟨by rfl, ?_⟩) hHeld ?_ ?_
      rotate_left
      ·rintro w' ⟨s0, s1, s2, s3, s4, s5, s6, s7, s8, s9, s10, s11, s12, s13, s14, s15, s16, s17⟩
       go_simp
       with_reducible rfl
      rotate_left
      ·simp only [Act.put, List.setIfInBounds_toArray, List.set_cons_zero, List.set_cons_succ, z0V, z0W]
       rfl
      refine z1O (i := 16) (N := some 66) (v := ?_) (a' := ?_) #[true, true, true, true, true, true, true, true, true, true, true, true, true, true, true, true, true, false, false, false, false] rfl rfl (z1s HT_.out (by kernel_rfl)) (fun _ _ _ h => h) (Or.inl ⟨by rfl, ?_⟩) ?_ ?_
      rotate_left
      ·intro w'
       go_simp
       with_reducible rfl
      rotate_left
      ·simp only [Act.put, List.setIfInBounds_toArray, List.set_cons_zero, List.set_cons_succ, z0V, z0W]
       rfl
      refine z1O (i := 17) (N := some 67) (v := ?_) (a' := ?_) #[true, true, true, true, true, true, true, true, true, true, true, true, true, true, true, true, true, true, false, false, false] rfl rfl (z1s HT_.out (by kernel_rfl)) (fun _ _ _ h => h) (Or.inl ⟨by rfl, ?_⟩) ?_ ?_
      rotate_left
      ·intro w'
       go_simp
       with_reducible rfl
      rotate_left
      ·simp only [Act.put, List.setIfInBounds_toArray, List.set_cons_zero, List.set_cons_succ, z0V, z0W]
       rfl
      refine z2R (i := 18) (N := some 68) (v := ?_) (a' := ?_) #[true, true, true, true, true, true, true, true, true, true, true, true, true, true, true, true, true, true, true, false, false] rfl rfl (z1D HT_.out HW_.out (by kernel_rfl)) (fun _ _ _ h => h) (Or.inl ⟨by rfl, ?_⟩) hHeld ?_ ?_
      rotate_left
      ·rintro w' ⟨s0, s1, s2, s3, s4, s5, s6, s7, s8, s9, s10, s11, s12, s13, s14, s15, s16, s17⟩
       go_simp
       with_reducible rfl
      rotate_left
      ·simp only [Act.put, List.setIfInBounds_toArray, List.set_cons_zero, List.set_cons_succ, z0V, z0W]
       rfl
      refine x6C (i := 19) (N := some 69) #[true, true, true, true, true, true, true, true, true, true, true, true, true, true, true, true, true, true, true, true, false] rfl rfl (z8Z HT_.out (by kernel_rfl)) (by decide) (fun K hK => ?_)
      refine y4W Tryz.func177 (by kernel_rfl) rfl #[.agg #[.slice z0U l0_0.length c0_0, .slice z0X l0_1.length c0_1], .int .i32 ((z1L l1_1 x5_2).f0), .int .u32 ((z1L l1_1 x5_2).f1), .int .u32 ((z1L l1_1 x5_2).f2)] (by rfl) rfl rfl zq ?_
      with_reducible refine (z1m.calls k2 _ _ l0_0 _ _ l0_1 ((z1L l1_1 x5_2).f0) ((z1L l1_1 x5_2).f1) ((z1L l1_1 x5_2).f2) false _ ?z0M ?z4Y ?z0Q ?z6g A27.out).mono ?_
      (case z0M => exact zs)
      (case z4Y => exact z1g.out)
      (case z0Q => exact zs)
      (case z6g => exact z1j.out)
      rintro e w36 ⟨rfl, hb⟩
      refine ⟨_, rfl, ?_⟩
      have n0_ := z0a.mk (z0O (g := z9M) (o := .cells #[.slice z0U l0_0.length c0_0, .slice z0X l0_1.length c0_1] 25 (0, 0)) zk hb)
      have n1_ := z0a.mk (z0O (g := z3T) (o := .cells #[.string a1_0, .slice (some ad264) l1_1.length c1_1, .slice y0n l1_2.length c1_2, .slice z6H l1_3.length c1_3, .slice z8R l1_4.length c1_4, .int .u8 a1_5, .bool a1_6] 51 (0, 0)) zk hb)
      have n2_ := z0a.mk (z2X zb hb)
      clear z2A
      clear z1I
      clear HB
      have z2A := n0_
      have z1I := n1_
      have HB := n2_
      clear n0_ n1_ n2_
      (try clear hb)
      (try clear hb2)
      (try clear hk)
      (try clear hi)
      refine hK.out _ _ ⟨(z0p z2A.out 0).trans rfl, (z0p z2A.out 1).trans rfl, (z0p z1I.out 0).trans rfl, (z0p z1I.out 1).trans rfl, (z0p z1I.out 2).trans rfl, (z0p z1I.out 3).trans rfl, (z0p z1I.out 4).trans rfl, (z0p z1I.out 5).trans rfl, (z0p z1I.out 6).trans rfl, ((HB.out.cell (World.block_lt_of_cell? w _ z7e)).trans z7e), ((HB.out.cell (World.block_lt_of_cell? w _ z7d)).trans z7d), ((HB.out.cell (World.block_lt_of_cell? w _ z7c)).trans z7c), ((HB.out.cell (World.block_lt_of_cell? w _ z7k)).trans z7k), ((HB.out.cell (World.block_lt_of_cell? w _ z7j)).trans z7j), ((HB.out.cell (World.block_lt_of_cell? w _ z7i)).trans z7i), ((HB.out.cell (World.block_lt_of_cell? w _ z7q)).trans z7q), ((HB.out.cell (World.block_lt_of_cell? w _ z7p)).trans z7p), ((HB.out.cell (World.block_lt_of_cell? w _ z7o)).trans z7o)⟩ (fun hHeld => ?_)
      clear hK K
      refine y4g (a' := ?_) ?_ ?_
      rotate_left
      ·show Act.put _ (some 69) _ = _
       simp only [Act.put, List.setIfInBounds_toArray, List.set_cons_zero, List.set_cons_succ, z0V, z0W]
       rfl
      refine z1O (i := 20) (N := some 70) (v := ?_) (a' := ?_) #[true, true, true, true, true, true, true, true, true, true, true, true, true, true, true, true, true, true, true, true, true] rfl rfl (z1s HT_.out (by kernel_rfl)) (fun _ _ _ h => h) (Or.inl ⟨by rfl, ?_⟩) ?_ ?_
      rotate_left
      ·intro w'
       go_simp
       with_reducible rfl
      rotate_left
      ·simp only [Act.put, List.setIfInBounds_toArray, List.set_cons_zero, List.set_cons_succ, z0V, z0W]
       rfl
      refine y0q (z5u HT_.out (by kernel_rfl)) ?_
      try go_wp2
      go_ret
      exact ⟨zr, zb⟩
     subst c28
     have H1 : (z0i.l0 k2 (wrap64 (x5_2 + 1)) l0_0 l0_1 a1_0 l1_1 l1_2 l1_3 l1_4 a1_5 a1_6) = some r := by rw [if_pos rfl] at H; exact H
     clear H
     have H := H1
     clear H1
     have H' := z0a.mk H
     clear H
     have hnb29 := z3v.out
     have hnc29 := z3u.out
     obtain ⟨y5P, y8A, y8B, x3P, x9G, x9H, x9I, y5Q, y8C, y8D, x3Q, x9J, x9K, x9L⟩ := zc7 wr z1I.out
     try go_wp2
     have n0_ := z0a.mk (z0e z2A.out)
     have n1_ := z0a.mk (z0e z1I.out)
     have n2_ := z0a.mk (z1l HB.out)
     clear z2A
     clear z1I
     clear HB
     have z2A := n0_
     have z1I := n1_
     have HB := n2_
     clear n0_ n1_ n2_
     have p264 : 0 ≤ (x5_2 : Int) := za
     have q264 : x5_2 < (l1_1.length : Int) := za
     obtain ⟨ad264, e264, z6Z, z7a, z7b⟩ := z9b y4k.out x5_2 p264 q264
     have z7c := z7b
     have z7d := z7a
     have z7e := z6Z
     cases e264
     replace z6Z := zx HB z6Z
     replace z7a := zx HB z7a
     replace z7b := zx HB z7b
     replace p264 := eq_true p264
     replace q264 := eq_true q264
     have p265 : 0 ≤ (x5_2 : Int) := za
     have q265 : x5_2 < (l1_1.length : Int) := za
     obtain ⟨ad265, e265, z7f, z7g, z7h⟩ := z9b y4k.out x5_2 p265 q265
     have z7i := z7h
     have z7j := z7g
     have z7k := z7f
     obtain rfl : ad264 = ad265 := (by injection e265)
     replace z7f := zx HB z7f
     replace z7g := zx HB z7g
     replace z7h := zx HB z7h
     replace p265 := eq_true p265
     replace q265 := eq_true q265
     have p266 : 0 ≤ (x5_2 : Int) := za
     have q266 : x5_2 < (l1_1.length : Int) := za
     obtain ⟨ad266, e266, z7l, z7m, z7n⟩ := z9b y4k.out x5_2 p266 q266
     have z7o := z7n
     have z7p := z7m
     have z7q := z7l
     obtain rfl : ad264 = ad266 := (by injection e266)
     replace z7l := zx HB z7l
     replace z7m := zx HB z7m
     replace z7n := zx HB z7n
     replace p266 := eq_true p266
     replace q266 := eq_true q266
     refine z6l (n := 21) (S := fun w' => w'.cell? ⟨z9M, 0, none⟩ = some (.slice z0U l0_0.length c0_0) ∧ w'.cell? ⟨z9M, 1, none⟩ = some (.slice z0X l0_1.length c0_1) ∧ w'.cell? ⟨z3T, 0, none⟩ = some (.string a1_0) ∧ w'.cell? ⟨z3T, 1, none⟩ = some (.slice (some ad264) l1_1.length c1_1) ∧ w'.cell? ⟨z3T, 2, none⟩ = some (.slice y0n l1_2.length c1_2) ∧ w'.cell? ⟨z3T, 3, none⟩ = some (.slice z6H l1_3.length c1_3) ∧ w'.cell? ⟨z3T, 4, none⟩ = some (.slice z8R l1_4.length c1_4) ∧ w'.cell? ⟨z3T, 5, none⟩ = some (.int .u8 a1_5) ∧ w'.cell? ⟨z3T, 6, none⟩ = some (.bool a1_6) ∧ w'.cell? (ad264.add ((x5_2).toNat * 3)) = some (.int .i32 ((z1L l1_1 x5_2).f0)) ∧ w'.cell? ⟨(ad264.add ((x5_2).toNat * 3)).block, (ad264.add ((x5_2).toNat * 3)).off + 1, none⟩ = some (.int .u32 ((z1L l1_1 x5_2).f1)) ∧ w'.cell? ⟨(ad264.add ((x5_2).toNat * 3)).block, (ad264.add ((x5_2).toNat * 3)).off + 2, none⟩ = some (.int .u32 ((z1L l1_1 x5_2).f2)) ∧ w'.cell? (ad264.add ((x5_2).toNat * 3)) = some (.int .i32 ((z1L l1_1 x5_2).f0)) ∧ w'.cell? ⟨(ad264.add ((x5_2).toNat * 3)).block, (ad264.add ((x5_2).toNat * 3)).off + 1, none⟩ = some (.int .u32 ((z1L l1_1 x5_2).f1)) ∧ w'.cell? ⟨(ad264.add ((x5_2).toNat * 3)).block, (ad264.add ((x5_2).toNat * 3)).off + 2, none⟩ = some (.int .u32 ((z1L l1_1 x5_2).f2)) ∧ w'.cell? (ad264.add ((x5_2).toNat * 3)) = some (.int .i32 ((z1L l1_1 x5_2).f0)) ∧ w'.cell? ⟨(ad264.add ((x5_2).toNat * 3)).block, (ad264.add ((x5_2).toNat * 3)).off + 1, none⟩ = some (.int .u32 ((z1L l1_1 x5_2).f1)) ∧ w'.cell? ⟨(ad264.add ((x5_2).toNat * 3)).block, (ad264.add ((x5_2).toNat * 3)).off + 2, none⟩ = some (.int .u32 ((z1L l1_1 x5_2).f2))) (ds := []) #[false, false, false, false, false, false, false, false, false, false, false, false, false, false, false, false, false, false, false, false, false] (by kernel_rfl) rfl rfl ⟨(z0p z2A.out 0).trans rfl, (z0p z2A.out 1).trans rfl, (z0p z1I.out 0).trans rfl, (z0p z1I.out 1).trans rfl, (z0p z1I.out 2).trans rfl, (z0p z1I.out 3).trans rfl, (z0p z1I.out 4).trans rfl, (z0p z1I.out 5).trans rfl, (z0p z1I.out 6).trans rfl, ((HB.out.cell (World.block_lt_of_cell? w _ z7e)).trans z7e), ((HB.out.cell (World.block_lt_of_cell? w _ z7d)).trans z7d), ((HB.out.cell (World.block_lt_of_cell? w _ z7c)).trans z7c), ((HB.out.cell (World.block_lt_of_cell? w _ z7k)).trans z7k), ((HB.out.cell (World.block_lt_of_cell? w _ z7j)).trans z7j), ((HB.out.cell (World.block_lt_of_cell? w _ z7i)).trans z7i), ((HB.out.cell (World.block_lt_of_cell? w _ z7q)).trans z7q), ((HB.out.cell (World.block_lt_of_cell? w _ z7p)).trans z7p), ((HB.out.cell (World.block_lt_of_cell? w _ z7o)).trans z7o)⟩ (fun hHeld => ?_); refine z3I z0i.tab6 z0i.w2Z (fun HT_ HW_ => ?_)
     generalize wr.drew = w31 at z2A z1I HB z6Z z7a z7b z7f z7g z7h z7l z7m z7n hHeld ⊢
     refine z1O (i := 1) (N := some 51) (v := ?_) (a' := ?_) #[false, true, false, false, false, false, false, false, false, false, false, false, false, false, false, false, false, false, false, false, false] rfl rfl (z1s HT_.out (by kernel_rfl)) (fun _ _ _ h => h) (Or.inl ⟨by rfl, ?_⟩) ?_ ?_
     rotate_left
     ·intro w'
      go_simp
      with_reducible rfl
     rotate_left
     ·simp only [Act.put, List.setIfInBounds_toArray, List.set_cons_zero, List.set_cons_succ, z0V, z0W]
      rfl
     refine z1O (i := 3) (N := some 53) (v := ?_) (a' := ?_) #[false, true, false, true, false, false, false, false, false, false, false, false, false, false, false, false, false, false, false, false, false] rfl rfl (z1s HT_.out (by kernel_rfl)) (fun _ _ _ h => h) (Or.inl ⟨by rfl, ?_⟩) ?_ ?_
     rotate_left
     ·intro w'
      go_simp
      with_reducible rfl
     rotate_left
     ·simp only [Act.put, List.setIfInBounds_toArray, List.set_cons_zero, List.set_cons_succ, z0V, z0W]
      rfl
     refine z1O (i := 7) (N := some 57) (v := ?_) (a' := ?_) #[false, true, false, true, false, false, false, true, false, false, false, false, false, false, false, false, false, false, false, false, false] rfl rfl (z1s HT_.out (by kernel_rfl)) (fun _ _ _ h => h) (Or.inl ⟨by rfl, ?_⟩) ?_ ?_
     rotate_left
     ·intro w'
      go_simp
      with_reducible rfl
     rotate_left
     ·simp only [Act.put, List.setIfInBounds_toArray, List.set_cons_zero, List.set_cons_succ, z0V, z0W]
      rfl
     refine z1O (i := 9) (N := some 59) (v := ?_) (a' := ?_) #[false, true, false, true, false, false, false, true, false, true, false, false, false, false, false, false, false, false, false, false, false] rfl rfl (z1s HT_.out (by kernel_rfl)) (fun _ _ _ h => h) (Or.inl ⟨by rfl, ?_⟩) ?_ ?_
     rotate_left
     ·intro w'
      go_simp
      with_reducible rfl
     rotate_left
     ·simp only [Act.put, List.setIfInBounds_toArray, List.set_cons_zero, List.set_cons_succ, z0V, z0W]
      rfl
     refine z1O (i := 13) (N := some 63) (v := ?_) (a' := ?_) #[false, true, false, true, false, false, false, true, false, true, false, false, false, true, false, false, false, false, false, false, false] rfl rfl (z1s HT_.out (by kernel_rfl)) (fun _ _ _ h => h) (Or.inl ⟨by rfl, ?_⟩) ?_ ?_
     rotate_left
     ·intro w'
      go_simp
      with_reducible rfl
     rotate_left
     ·simp only [Act.put, List.setIfInBounds_toArray, List.set_cons_zero, List.set_cons_succ, z0V, z0W]
      rfl
     refine z1O (i := 15) (N := some 65) (v := ?_) (a' := ?_) #[false, true, false, true, false, false, false, true, false, true, false, false, false, true, false, true, false, false, false, false, false] rfl rfl (z1s HT_.out (by kernel_rfl)) (fun _ _ _ h => h) (Or.inl ⟨by rfl, ?_⟩) ?_ ?_
     rotate_left
     ·intro w'
      go_simp
      with_reducible rfl
     rotate_left
     ·simp only [Act.put, List.setIfInBounds_toArray, List.set_cons_zero, List.set_cons_succ, z0V, z0W]
      rfl
     refine z2R (i := 0) (N := some 50) (v := ?_) (a' := ?_) #[true, true, false, true, false, false, false, true, false, true, false, false, false, true, false, true, false, false, false, false, false] rfl rfl (z1D HT_.out HW_.out (by kernel_rfl)) (fun _ _ _ h => h) (Or.inl ⟨by rfl, ?_⟩) hHeld ?_ ?_
     rotate_left
     ·rintro w' ⟨s0, s1, s2, s3, s4, s5, s6, s7, s8, s9, s10, s11, s12, s13, s14, s15, s16, s17⟩
      go_simp
      with_reducible rfl
     rotate_left
     ·simp only [Act.put, List.setIfInBounds_toArray, List.set_cons_zero, List.set_cons_succ, z0V, z0W]
      rfl
     refine z2R (i := 2) (N := some 52) (v := ?_) (a' := ?_) #[true, true, true, true, false, false, false, true, false, true, false, false, false, true, false, true, false, false, false, false, false] rfl rfl (z1D HT_.out HW_.out (by kernel_rfl)) (fun _ _ _ h => h) (Or.inl ⟨by rfl, ?_⟩) hHeld ?_ ?_
     rotate_left
     ·rintro w' ⟨s0, s1, s2, s3, s4, s5, s6, s7, s8, s9, s10, s11, s12, s13, s14, s15, s16, s17⟩
      go_simp
      with_reducible rfl
     rotate_left
     ·simp only [Act.put, List.setIfInBounds_toArray, List.set_cons_zero, List.set_cons_succ, z0V, z0W]
      rfl
     refine z1O (i := 4) (N := some 54) (v := ?_) (a' := ?_) #[true, true, true, true, true, false, false, true, false, true, false, false, false, true, false, true, false, false, false, false, false] rfl rfl (z1s HT_.out (by kernel_rfl)) (fun _ _ _ h => h) (Or.inl ⟨by rfl, ?_⟩) ?_ ?_
     rotate_left
     ·intro w'
      go_simp
      with_reducible rfl
     rotate_left
     ·simp only [Act.put, List.setIfInBounds_toArray, List.set_cons_zero, List.set_cons_succ, z0V, z0W]
      rfl
     refine z1O (i := 5) (N := some 55) (v := ?_) (a' := ?_) #[true, true, true, true, true, true, false, true, false, true, false, false, false, true, false, true, false, false, false, false, false] rfl rfl (z1s HT_.out (by kernel_rfl)) (fun _ _ _ h => h) (Or.inl ⟨by rfl, ?_⟩) ?_ ?_
     rotate_left
     ·intro w'
      go_simp
      with_reducible rfl
     rotate_left
     ·simp only [Act.put, List.setIfInBounds_toArray, List.set_cons_zero, List.set_cons_succ, z0V, z0W]
      rfl
     refine z2R (i := 6) (N := some 56) (v := ?_) (a' := ?_) #[true, true, true, true, true, true, true, true, false, true, false, false, false, true, false, true, false, false, false, false, false] rfl rfl (z1D HT_.out HW_.out (by kernel_rfl)) (fun _ _ _ h => h) (Or.inl ⟨by rfl, ?_⟩) hHeld ?_ ?_
     rotate_left
     ·rintro w' ⟨s0, s1, s2, s3, s4, s5, s6, s7, s8, s9, s10, s11, s12, s13, s14, s15, s16, s17⟩
      go_simp
      with_reducible rfl
     rotate_left
     ·simp only [Act.put, List.setIfInBounds_toArray, List.set_cons_zero, List.set_cons_succ, z0V, z0W]
      rfl
     refine z2R (i := 8) (N := some 58) (v := ?_) (a' := ?_) #[true, true, true, true, true, true, true, true, true, true, false, false, false, true, false, true, false, false, false, false, false] rfl rfl (z1D HT_.out HW_.out (by kernel_rfl)) (fun _ _ _ h => h) (Or.inl ⟨by rfl, ?_⟩) hHeld ?_ ?_
     rotate_left
     ·rintro w' ⟨s0, s1, s2, s3, s4, s5, s6, s7, s8, s9, s10, s11, s12, s13, s14, s15, s16, s17⟩
      go_simp
      with_reducible rfl
     rotate_left
     ·simp only [Act.put, List.setIfInBounds_toArray, List.set_cons_zero, List.set_cons_succ, z0V, z0W]
      rfl
     refine z1O (i := 10) (N := some 60) (v := ?_) (a' := ?_) #[true, true, true, true, true, true, true, true, true, true, true, false, false, true, false, true, false, false, false, false, false] rfl rfl (z1s HT_.out (by kernel_rfl)) (fun _ _ _ h => h) (Or.inl ⟨by rfl, ?_⟩) ?_ ?_
     rotate_left
     ·intro w'
      go_simp
      with_reducible rfl
     rotate_left
     ·simp only [Act.put, List.setIfInBounds_toArray, List.set_cons_zero, List.set_cons_succ, z0V, z0W]
      rfl
     refine z1O (i := 11) (N := some 61) (v := ?_) (a' := ?_) #[true, true, true, true, true, true, true, true, true, true, true, true, false, true, false, true, false, false, false, false, false] rfl rfl (z1s HT_.out (by kernel_rfl)) (fun _ _ _ h => h) (Or.inl ⟨by rfl, ?_⟩) ?_ ?_
     rotate_left
     ·intro w'
      go_simp
      with_reducible rfl
     rotate_left
     ·simp only [Act.put, List.setIfInBounds_toArray, List.set_cons_zero, List.set_cons_succ, z0V, z0W]
      rfl
     refine z2R (i := 12) (N := some 62) (v := ?_) (a' := ?_) #[true, true, true, true, true, true, true, true, true, true, true, true, true, true, false, true, false, false, false, false, false] rfl rfl (z1D HT_.out HW_.out (by kernel_rfl)) (fun _ _ _ h => h) (Or.inl ⟨by rfl, ?_⟩) hHeld ?_ ?_
     rotate_left
     ·rintro w' ⟨s0, s1, s2, s3, s4, s5, s6, s7, s8, s9, s10, s11, s12, s13, s14, s15, s16, s17⟩
      go_simp
      with_reducible rfl
     rotate_left
     ·simp only [Act.put, List.setIfInBounds_toArray, List.set_cons_zero, List.set_cons_succ, z0V, z0W]
      rfl
     refine z2R (i := 14) (N := some 64) (v := ?_) (a' := ?_) #[true, true, true, true, true, true, true, true, true, true, true, true, true, true, true, true, false, false, false, false, false] rfl rfl (z1D HT_.out HW_.out (by kernel_rfl)) (fun _ _ _ h => h) (Or.inl ⟨by rfl, ?_⟩) hHeld ?_ ?_
     rotate_left
     ·rintro w' ⟨s0, s1, s2, s3, s4, s5, s6, s7, s8, s9, s10, s11, s12, s13, s14, s15, s16, s17⟩
      go_simp
      with_reducible rfl
     rotate_left
     ·simp only [Act.put, List.setIfInBounds_toArray, List.set_cons_zero, List.set_cons_succ, z0V, z0W]
      rfl
     refine z1O (i := 16) (N := some 66) (v := ?_) (a' := ?_) #[true, true, true, true, true, true, true, true, true, true, true, true, true, true, true, true, true, false, false, false, false] rfl rfl (z1s HT_.out (by kernel_rfl)) (fun _ _ _ h => h) (Or.inl ⟨by rfl, ?_⟩) ?_ ?_
     rotate_left
     ·intro w'
      go_simp
      with_reducible rfl
     rotate_left
     ·simp only [Act.put, List.setIfInBounds_toArray, List.set_cons_zero, List.set_cons_succ, z0V, z0W]
      rfl
     refine z1O (i := 17) (N := some 67) (v := ?_) (a' := ?_) #[true, true, true, true, true, true, true, true, true, true, true, true, true, true, true, true, true, true, false, false, false] rfl rfl (z1s HT_.out (by kernel_rfl)) (fun _ _ _ h => h) (Or.inl ⟨by rfl, ?_⟩) ?_ ?_
     rotate_left
     ·intro w'
      go_simp
      with_reducible rfl
     rotate_left
     ·simp only [Act.put, List.setIfInBounds_toArray, List.set_cons_zero, List.set_cons_succ, z0V, z0W]
      rfl
     refine z2R (i := 18) (N := some 68) (v := ?_) (a' := ?_) #[true, true, true, true, true, true, true, true, true, true, true, true, true, true, true, true, true, true, true, false, false] rfl rfl (z1D HT_.out HW_.out (by kernel_rfl)) (fun _ _ _ h => h) (Or.inl ⟨by rfl, ?_⟩) hHeld ?_ ?_
     rotate_left
     ·rintro w' ⟨s0, s1, s2, s3, s4, s5, s6, s7, s8, s9, s10, s11, s12, s13, s14, s15, s16, s17⟩
      go_simp
      with_reducible rfl
     rotate_left
     ·simp only [Act.put, List.setIfInBounds_toArray, List.set_cons_zero, List.set_cons_succ, z0V, z0W]
      rfl
     refine x6C (i := 19) (N := some 69) #[true, true, true, true, true, true, true, true, true, true, true, true, true, true, true, true, true, true, true, true, false] rfl rfl (z8Z HT_.out (by kernel_rfl)) (by decide) (fun K hK => ?_)
     refine y4W Tryz.func177 (by kernel_rfl) rfl #[.agg #[.slice z0U l0_0.length c0_0, .slice z0X l0_1.length c0_1], .int .i32 ((z1L l1_1 x5_2).f0), .int .u32 ((z1L l1_1 x5_2).f1), .int .u32 ((z1L l1_1 x5_2).f2)] (by rfl) rfl rfl zq ?_
     with_reducible refine (z1m.calls k2 _ _ l0_0 _ _ l0_1 ((z1L l1_1 x5_2).f0) ((z1L l1_1 x5_2).f1) ((z1L l1_1 x5_2).f2) true _ ?z0M ?z4Y ?z0Q ?z6g A27.out).mono ?_
     (case z0M => exact zs)
     (case z4Y => exact z1g.out)
     (case z0Q => exact zs)
     (case z6g => exact z1j.out)
     rintro e w32 ⟨rfl, hb⟩
     refine ⟨_, rfl, ?_⟩
     have n0_ := z0a.mk (z0O (g := z9M) (o := .cells #[.slice z0U l0_0.length c0_0, .slice z0X l0_1.length c0_1] 25 (0, 0)) zk hb)
     have n1_ := z0a.mk (z0O (g := z3T) (o := .cells #[.string a1_0, .slice (some ad264) l1_1.length c1_1, .slice y0n l1_2.length c1_2, .slice z6H l1_3.length c1_3, .slice z8R l1_4.length c1_4, .int .u8 a1_5, .bool a1_6] 51 (0, 0)) zk hb)
     have n2_ := z0a.mk (z2X zb hb)
     clear z2A
     clear z1I
     clear HB
     have z2A := n0_
     have z1I := n1_
     have HB := n2_
     clear n0_ n1_ n2_
     (try clear hb)
     (try clear hb2)
     (try clear hk)
     (try clear hi)
     refine hK.out _ _ ⟨(z0p z2A.out 0).trans rfl, (z0p z2A.out 1).trans rfl, (z0p z1I.out 0).trans rfl, (z0p z1I.out 1).trans rfl, (z0p z1I.out 2).trans rfl, (z0p z1I.out 3).trans rfl, (z0p z1I.out 4).trans rfl, (z0p z1I.out 5).trans rfl, (z0p z1I.out 6).trans rfl, ((HB.out.cell (World.block_lt_of_cell? w _ z7e)).trans z7e), ((HB.out.cell (World.block_lt_of_cell? w _ z7d)).trans z7d), ((HB.out.cell (World.block_lt_of_cell? w _ z7c)).trans z7c), ((HB.out.cell (World.block_lt_of_cell? w _ z7k)).trans z7k), ((HB.out.cell (World.block_lt_of_cell? w _ z7j)).trans z7j), ((HB.out.cell (World.block_lt_of_cell? w _ z7i)).trans z7i), ((HB.out.cell (World.block_lt_of_cell? w _ z7q)).trans z7q), ((HB.out.cell (World.block_lt_of_cell? w _ z7p)).trans z7p), ((HB.out.cell (World.block_lt_of_cell? w _ z7o)).trans z7o)⟩ (fun hHeld => ?_)
     clear hK K
     refine y4g (a' := ?_) ?_ ?_
     rotate_left
     ·show Act.put _ (some 69) _ = _
      simp only [Act.put, List.setIfInBounds_toArray, List.set_cons_zero, List.set_cons_succ, z0V, z0W]
      rfl
     refine z1O (i := 20) (N := some 70) (v := ?_) (a' := ?_) #[true, true, true, true, true, true, true, true, true, true, true, true, true, true, true, true, true, true, true, true, true] rfl rfl (z1s HT_.out (by kernel_rfl)) (fun _ _ _ h => h) (Or.inl ⟨by rfl, ?_⟩) ?_ ?_
     rotate_left
     ·intro w'
      go_simp
      with_reducible rfl
     rotate_left
     ·simp only [Act.put, List.setIfInBounds_toArray, List.set_cons_zero, List.set_cons_succ, z0V, z0W]
      rfl
     refine y0q (z5u HT_.out (by kernel_rfl)) ?_
     try go_wp2
     go_roundg k2
     case measure => have := HJ2.out; have := HK2.out; omega
     case rel => exact ⟨(wrap64 (x5_2 + 1)), ze, H', ⟨by have := HJ2.out; have := HK2.out; omega⟩, ⟨zk⟩, ⟨zk⟩, ⟨zb⟩⟩
def z1N.f (k : Nat) (l0_0 : List ByteArray) (l0_1 : List (z1J)) (a1_0 : ByteArray) (l1_1 : List (S54)) (l1_2 : List (S56)) (l1_3 : List (S58)) (l1_4 : List (S58)) (a1_5 : Int) (a1_6 : Bool) : Option (Int) := (z0f.f k l0_0 l0_1).bind fun t274 => (if t274 = 0 then ((z0i.f k l0_0 l0_1 a1_0 l1_1 l1_2 l1_3 l1_4 a1_5 a1_6).bind fun t275 => (if t275 = true then (some 0) else (some 70))) else (some t274))
theorem z1N.mono : ∀ a0 a1 a2 a3 a4 a5 a6 a7 a8 k, LeO (z1N.f k a0 a1 a2 a3 a4 a5 a6 a7 a8) (z1N.f (k + 1) a0 a1 a2 a3 a4 a5 a6 a7 a8) := by
 intro a0 a1 a2 a3 a4 a5 a6 a7 a8 k
 unfold z1N.f
 repeat' first
   | (with_reducible exact z0f.mono _ _ _)
   | (with_reducible exact z0i.mono _ _ _ _ _ _ _ _ _ _)
   | (with_reducible exact LeO.refl _)
   | (with_reducible exact LeO.none _)
   | (with_reducible refine LeO.ite ?_ ?_)
   | (with_reducible refine LeO.bind ?_ (fun _ => ?_))
set_option maxHeartbeats 8000000 in
set_option maxRecDepth 100000 in
theorem z1N.calls (k : Nat) (z0U : Option Addr) (c0_0 : Nat) (l0_0 : List ByteArray) (z0X : Option Addr) (c0_1 : Nat) (l0_1 : List (z1J)) (a1_0 : ByteArray) (y0m : Option Addr) (c1_1 : Nat) (l1_1 : List (S54)) (y0n : Option Addr) (c1_2 : Nat) (l1_2 : List (S56)) (z6H : Option Addr) (c1_3 : Nat) (l1_3 : List (S58)) (z8R : Option Addr) (c1_4 : Nat) (l1_4 : List (S58)) (a1_5 : Int) (a1_6 : Bool) (r : Int) (w : World) (hr0_0 : Kd.C Kd.string w z0U l0_0.length l0_0) (hc0_0 : l0_0.length ≤ c0_0) (hr0_1 : Kd.C z5a w z0X l0_1.length l0_1) (hc0_1 : l0_1.length ≤ c0_1) (hr1_1 : Kd.C k54 w y0m l1_1.length l1_1) (hc1_1 : l1_1.length ≤ c1_1) (hr1_2 : Kd.C k56 w y0n l1_2.length l1_2) (hc1_2 : l1_2.length ≤ c1_2) (hr1_3 : Kd.C k58 w z6H l1_3.length l1_3) (hc1_3 : l1_3.length ≤ c1_3) (hr1_4 : Kd.C k58 w z8R l1_4.length l1_4) (hc1_4 : l1_4.length ≤ c1_4) (h : z1N.f k l0_0 l0_1 a1_0 l1_1 l1_2 l1_3 l1_4 a1_5 a1_6 = some r) :
  Calls Tryz.prog 118 #[.agg #[.slice z0U l0_0.length c0_0, .slice z0X l0_1.length c0_1], .agg #[.string a1_0, .slice y0m l1_1.length c1_1, .slice y0n l1_2.length c1_2, .slice z6H l1_3.length c1_3, .slice z8R l1_4.length c1_4, .int .u8 a1_5, .bool a1_6]] w fun e w' => e = .returned (.int .i64 r) ∧ Below w.heap.size w w' := by
 have hu25 := Tryz.underlying25
 have hu51 := Tryz.underlying51
 have z2g := z0a.mk hr0_0
 have z1g := z0a.mk hc0_0
 clear hr0_0 hc0_0
 have z2x := z0a.mk hr0_1
 have z1j := z0a.mk hc0_1
 clear hr0_1 hc0_1
 have y4k := z0a.mk hr1_1
 have x6Z := z0a.mk hc1_1
 clear hr1_1 hc1_1
 have x1d := z0a.mk hr1_2
 have x7a := z0a.mk hc1_2
 clear hr1_2 hc1_2
 have w2K := z0a.mk hr1_3
 have y5I := z0a.mk hc1_3
 clear hr1_3 hc1_3
 have w2L := z0a.mk hr1_4
 have y8r := z0a.mk hc1_4
 clear hr1_4 hc1_4
 have HB := z0a.mk (Below.refl w.heap.size w)
 have H : ((z0f.f k l0_0 l0_1).bind fun t274 => (if t274 = 0 then ((z0i.f k l0_0 l0_1 a1_0 l1_1 l1_2 l1_3 l1_4 a1_5 a1_6).bind fun t275 => (if t275 = true then (some 0) else (some 70))) else (some t274))) = some r := h
 clear h
 replace H := Option.bind_eq_some_iff.mp H
 obtain ⟨t274, A30, H⟩ := H
 replace H : (if t274 = 0 then ((z0i.f k l0_0 l0_1 a1_0 l1_1 l1_2 l1_3 l1_4 a1_5 a1_6).bind fun t275 => (if t275 = true then (some 0) else (some 70))) else (some t274)) = some r := H
 have A3 := z0a.mk A30
 clear A30
 by_cases c4 : t274 = 0
 rotate_left
 ·rw [if_neg c4] at H
  have c4b0 : (t274 == 0) = false := beq_eq_false_iff_ne.mpr c4
  have c4b1 : (t274 != 0) = true := bne_iff_ne.mpr c4
  obtain rfl := Option.some.inj H
  go_enter Tryz.func118, Tryz.ntmps118
  go_wp2_with (first | ((with_reducible refine z0o (N := 2) rfl ?_); refine zo (cs := #[.slice z0U l0_0.length c0_0, .slice z0X l0_1.length c0_1]) (t := 25) ?_; intro w3b hg w23 hbox hb; have z4S := z0a.mk hbox; have w3c := zG HB hg; have w3d := zG HB hg; replace HB := zB HB hb; clear hb hbox hg) | ((with_reducible refine z0o (N := 3) rfl ?_); refine zo (cs := #[.string a1_0, .slice y0m l1_1.length c1_1, .slice y0n l1_2.length c1_2, .slice z6H l1_3.length c1_3, .slice z8R l1_4.length c1_4, .int .u8 a1_5, .bool a1_6]) (t := 51) ?_; intro w3e hg w24 hbox hb; have y0h := z0a.mk hbox; have w3f := zG HB hg; have w3g := zG HB hg; have z8G := zN z4S hg; have z8H := zM z4S hg; replace z4S := zK z4S hb; replace HB := zB HB hb; clear hb hbox hg; have hnb25 := z8G.out; have hnc25 := z8H.out; obtain ⟨y5E, y5F, y5G, y5H⟩ := zc2 w24 z4S.out) | ((with_reducible refine z0m (f := 81) rfl ?_); refine z1a (some 7) rfl rfl Tryz.func81 (by kernel_rfl) rfl #[.agg #[.slice z0U l0_0.length c0_0, .slice z0X l0_1.length c0_1]] rfl zq ?_; (with_reducible refine (z0f.calls k _ _ l0_0 _ _ l0_1 t274 _ ?z0M z1g.out ?z0Q z1j.out A3.out).mono ?_); (case z0M => exact zs); (case z0Q => exact zs); rintro e w27 ⟨rfl, hb⟩; refine ⟨_, rfl, ?_⟩; replace z4S := zK z4S hb; replace y0h := zK y0h hb; replace HB := zB HB hb; (try clear hb)))
  go_ret
  exact ⟨zr, zb⟩
 rw [if_pos c4] at H
 have c4b0 : (t274 == 0) = true := beq_iff_eq.mpr c4
 have c4b1 : (t274 != 0) = false := bne_eq_false_iff_eq.mpr c4
 clear c4
 replace H := Option.bind_eq_some_iff.mp H
 obtain ⟨t275, A50, H⟩ := H
 replace H : (if t275 = true then (some 0) else (some 70)) = some r := H
 have A5 := z0a.mk A50
 clear A50
 by_cases c6 : t275 = true
 ·subst c6
  have H1 : (some 0) = some r := by rw [if_pos rfl] at H; exact H
  clear H
  have H := H1
  clear H1
  obtain rfl := Option.some.inj H
  go_enter Tryz.func118, Tryz.ntmps118
  go_wp2_with (first | ((with_reducible refine z0o (N := 2) rfl ?_); refine zo (cs := #[.slice z0U l0_0.length c0_0, .slice z0X l0_1.length c0_1]) (t := 25) ?_; intro w3b hg w7 hbox hb; have z4S := z0a.mk hbox; have w3c := zG HB hg; have w3d := zG HB hg; replace HB := zB HB hb; clear hb hbox hg) | ((with_reducible refine z0o (N := 3) rfl ?_); refine zo (cs := #[.string a1_0, .slice y0m l1_1.length c1_1, .slice y0n l1_2.length c1_2, .slice z6H l1_3.length c1_3, .slice z8R l1_4.length c1_4, .int .u8 a1_5, .bool a1_6]) (t := 51) ?_; intro w3e hg w8 hbox hb; have y0h := z0a.mk hbox; have w3f := zG HB hg; have w3g := zG HB hg; have z8G := zN z4S hg; have z8H := zM z4S hg; replace z4S := zK z4S hb; replace HB := zB HB hb; clear hb hbox hg; have hnb9 := z8G.out; have hnc9 := z8H.out; obtain ⟨z6C, z6D, z6E, z6F⟩ := zc2 w8 z4S.out) | ((with_reducible refine z0m (f := 81) rfl ?_); refine z1a (some 7) rfl rfl Tryz.func81 (by kernel_rfl) rfl #[.agg #[.slice z0U l0_0.length c0_0, .slice z0X l0_1.length c0_1]] rfl zq ?_; (with_reducible refine (z0f.calls k _ _ l0_0 _ _ l0_1 t274 _ ?z0M z1g.out ?z0Q z1j.out A3.out).mono ?_); (case z0M => exact zs); (case z0Q => exact zs); rintro e w11 ⟨rfl, hb⟩; refine ⟨_, rfl, ?_⟩; replace z4S := zK z4S hb; replace y0h := zK y0h hb; replace HB := zB HB hb; (try clear hb); obtain ⟨z8o, y0D, z8p, y0E⟩ := zc2 w11 z4S.out; obtain ⟨z9l, z9m, y5T, w1r, w1s, w1t, w1u, z9n, z9o, y5U, w1v, w1w, w1x, w1y⟩ := zc7 w11 y0h.out) | ((with_reducible refine z0m (f := 146) rfl ?_); refine z1a (some 13) rfl rfl Tryz.func146 (by kernel_rfl) rfl #[.agg #[.slice z0U l0_0.length c0_0, .slice z0X l0_1.length c0_1], .agg #[.string a1_0, .slice y0m l1_1.length c1_1, .slice y0n l1_2.length c1_2, .slice z6H l1_3.length c1_3, .slice z8R l1_4.length c1_4, .int .u8 a1_5, .bool a1_6]] rfl zq ?_; (with_reducible refine (z0i.calls k _ _ l0_0 _ _ l0_1 a1_0 _ _ l1_1 _ _ l1_2 _ _ l1_3 _ _ l1_4 a1_5 a1_6 true _ ?z0M z1g.out ?z0Q z1j.out ?z1z x6Z.out ?z6I x7a.out ?y2M y5I.out ?z8s y8r.out A5.out).mono ?_); (case z0M => exact zs); (case z0Q => exact zs); (case z1z => exact zs); (case z6I => exact zs); (case y2M => exact zs); (case z8s => exact zs); rintro e w14 ⟨rfl, hb⟩; refine ⟨_, rfl, ?_⟩; replace z4S := zK z4S hb; replace y0h := zK y0h hb; replace HB := zB HB hb; (try clear hb)))
  go_ret
  exact ⟨zr, zb⟩
 replace c6 := Bool.eq_false_iff.mpr c6
 subst c6
 have H1 : (some 70) = some r := by rw [if_neg (show ¬ (false = true) by decide)] at H; exact H
 clear H
 have H := H1
 clear H1
 obtain rfl := Option.some.inj H
 go_enter Tryz.func118, Tryz.ntmps118
 go_wp2_with (first | ((with_reducible refine z0o (N := 2) rfl ?_); refine zo (cs := #[.slice z0U l0_0.length c0_0, .slice z0X l0_1.length c0_1]) (t := 25) ?_; intro w3b hg w15 hbox hb; have z4S := z0a.mk hbox; have w3c := zG HB hg; have w3d := zG HB hg; replace HB := zB HB hb; clear hb hbox hg) | ((with_reducible refine z0o (N := 3) rfl ?_); refine zo (cs := #[.string a1_0, .slice y0m l1_1.length c1_1, .slice y0n l1_2.length c1_2, .slice z6H l1_3.length c1_3, .slice z8R l1_4.length c1_4, .int .u8 a1_5, .bool a1_6]) (t := 51) ?_; intro w3e hg w16 hbox hb; have y0h := z0a.mk hbox; have w3f := zG HB hg; have w3g := zG HB hg; have z8G := zN z4S hg; have z8H := zM z4S hg; replace z4S := zK z4S hb; replace HB := zB HB hb; clear hb hbox hg; have hnb17 := z8G.out; have hnc17 := z8H.out; obtain ⟨z4j, z4k, z4l, z4m⟩ := zc2 w16 z4S.out) | ((with_reducible refine z0m (f := 81) rfl ?_); refine z1a (some 7) rfl rfl Tryz.func81 (by kernel_rfl) rfl #[.agg #[.slice z0U l0_0.length c0_0, .slice z0X l0_1.length c0_1]] rfl zq ?_; (with_reducible refine (z0f.calls k _ _ l0_0 _ _ l0_1 t274 _ ?z0M z1g.out ?z0Q z1j.out A3.out).mono ?_); (case z0M => exact zs); (case z0Q => exact zs); rintro e w19 ⟨rfl, hb⟩; refine ⟨_, rfl, ?_⟩; replace z4S := zK z4S hb; replace y0h := zK y0h hb; replace HB := zB HB hb; (try clear hb); obtain ⟨z5x, z6a, z5y, z6b⟩ := zc2 w19 z4S.out; obtain ⟨z9E, z9F, y3j, x4I, w1z, w1A, w1B, z9G, z9H, y3k, x4J, w1C, w1D, w1E⟩ := zc7 w19 y0h.out) | ((with_reducible refine z0m (f := 146) rfl ?_); refine z1a (some 13) rfl rfl Tryz.func146 (by kernel_rfl) rfl #[.agg #[.slice z0U l0_0.length c0_0, .slice z0X l0_1.length c0_1], .agg #[.string a1_0, .slice y0m l1_1.length c1_1, .slice y0n l1_2.length c1_2, .slice z6H l1_3.length c1_3, .slice z8R l1_4.length c1_4, .int .u8 a1_5, .bool a1_6]] rfl zq ?_; (with_reducible refine (z0i.calls k _ _ l0_0 _ _ l0_1 a1_0 _ _ l1_1 _ _ l1_2 _ _ l1_3 _ _ l1_4 a1_5 a1_6 false _ ?z0M z1g.out ?z0Q z1j.out ?z1z x6Z.out ?z6I x7a.out ?y2M y5I.out ?z8s y8r.out A5.out).mono ?_); (case z0M => exact zs); (case z0Q => exact zs); (case z1z => exact zs); (case z6I => exact zs); (case y2M => exact zs); (case z8s => exact zs); rintro e w22 ⟨rfl, hb⟩; refine ⟨_, rfl, ?_⟩; replace z4S := zK z4S hb; replace y0h := zK y0h hb; replace HB := zB HB hb; (try clear hb)))
 go_ret
 exact ⟨zr, zb⟩
def z0H.l0 : Nat → List (S51) → Int → List ByteArray → List (z1J) → Option (Int)
 | 0, _, _, _, _ => none
 | k + 1, x1, x5, x5t, x5u => if x5 < (x1.length : Int) then (if 0 ≤ x5 then ((z1N.f k x5t x5u ((z0K x1 x5).f0) ((z0K x1 x5).f1) ((z0K x1 x5).f2) ((z0K x1 x5).f3.f0) ((z0K x1 x5).f4.f0) ((z0K x1 x5).f5) ((z0K x1 x5).f6)).bind fun t279 => (if t279 = 0 then (z0H.l0 k x1 (wrap64 (x5 + 1)) x5t x5u) else (some 70))) else (none)) else (some 0)
def z0H.f (k : Nat) (l0_0 : List ByteArray) (l0_1 : List (z1J)) (l1 : List (S51)) : Option (Int) := (z0f.f k l0_0 l0_1).bind fun t277 => (if t277 = 0 then (if (l1.length : Int) > 64 then (some 4) else (z0H.l0 k l1 0 l0_0 l0_1)) else (some 7))
theorem z0H.z1t : ∀ k, (∀ y0 y1 y2 y3, LeO (z0H.l0 k y0 y1 y2 y3) (z0H.l0 (k + 1) y0 y1 y2 y3))
 | 0 => fun _ _ _ _ r h => by simp [z0H.l0] at h
 | k + 1 => by
  have ih0 := z0H.z1t k
  ·intro y0 y1 y2 y3
   unfold z0H.l0
   repeat' first
   | (with_reducible exact ih0 _ _ _ _)
   | (with_reducible exact z0f.mono _ _ _)
   | (with_reducible exact z1N.mono _ _ _ _ _ _ _ _ _ _)
   | (with_reducible exact LeO.refl _)
   | (with_reducible exact LeO.none _)
   | (with_reducible refine LeO.ite ?_ ?_)
   | (with_reducible refine LeO.bind ?_ (fun _ => ?_))
theorem z0H.mono : ∀ a0 a1 a2 k, LeO (z0H.f k a0 a1 a2) (z0H.f (k + 1) a0 a1 a2) := by
 intro a0 a1 a2 k
 have ih0 := z0H.z1t k
 unfold z0H.f
 repeat' first
   | (with_reducible exact ih0 _ _ _ _)
   | (with_reducible exact z0f.mono _ _ _)
   | (with_reducible exact z1N.mono _ _ _ _ _ _ _ _ _ _)
   | (with_reducible exact LeO.refl _)
   | (with_reducible exact LeO.none _)
   | (with_reducible refine LeO.ite ?_ ?_)
   | (with_reducible refine LeO.bind ?_ (fun _ => ?_))
set_option maxHeartbeats 8000000 in
set_option maxRecDepth 100000 in
theorem z0H.calls (k : Nat) (z0U : Option Addr) (c0_0 : Nat) (l0_0 : List ByteArray) (z0X : Option Addr) (c0_1 : Nat) (l0_1 : List (z1J)) (A1 : Option Addr) (c1 : Nat) (l1 : List (S51)) (r : Int) (w : World) (hr0_0 : Kd.C Kd.string w z0U l0_0.length l0_0) (hc0_0 : l0_0.length ≤ c0_0) (hr0_1 : Kd.C z5a w z0X l0_1.length l0_1) (hc0_1 : l0_1.length ≤ c0_1) (hr1 : Kd.C k51 w A1 l1.length l1) (hc1 : l1.length ≤ c1) (h : z0H.f k l0_0 l0_1 l1 = some r) :
  Calls Tryz.prog 83 #[.agg #[.slice z0U l0_0.length c0_0, .slice z0X l0_1.length c0_1], .slice A1 l1.length c1] w fun e w' => e = .returned (.int .i64 r) ∧ Below w.heap.size w w' := by
 have hu25 := Tryz.underlying25
 have hu51 := Tryz.underlying51
 have z2g := z0a.mk hr0_0
 have z1g := z0a.mk hc0_0
 clear hr0_0 hc0_0
 have z2x := z0a.mk hr0_1
 have z1j := z0a.mk hc0_1
 clear hr0_1 hc0_1
 have HR1 := z0a.mk hr1
 have HC1 := z0a.mk hc1
 clear hr1 hc1
 have HB := z0a.mk (Below.refl w.heap.size w)
 have H : ((z0f.f k l0_0 l0_1).bind fun t277 => (if t277 = 0 then (if (l1.length : Int) > 64 then (some 4) else (z0H.l0 k l1 0 l0_0 l0_1)) else (some 7))) = some r := h
 clear h
 replace H := Option.bind_eq_some_iff.mp H
 obtain ⟨t277, A30, H⟩ := H
 replace H : (if t277 = 0 then (if (l1.length : Int) > 64 then (some 4) else (z0H.l0 k l1 0 l0_0 l0_1)) else (some 7)) = some r := H
 have A3 := z0a.mk A30
 clear A30
 by_cases c4 : t277 = 0
 rotate_left
 ·rw [if_neg c4] at H
  have c4b0 : (t277 == 0) = false := beq_eq_false_iff_ne.mpr c4
  have c4b1 : (t277 != 0) = true := bne_iff_ne.mpr c4
  obtain rfl := Option.some.inj H
  go_enter Tryz.func83, Tryz.ntmps83
  go_wp2_with (first | ((with_reducible refine z0o (N := 2) rfl ?_); refine zo (cs := #[.slice z0U l0_0.length c0_0, .slice z0X l0_1.length c0_1]) (t := 25) ?_; intro y6g hg w20 hbox hb; have z4g := z0a.mk hbox; have w3h := zG HB hg; have w3i := zG HB hg; replace HB := zB HB hb; clear hb hbox hg; obtain ⟨z9E, z9F, z9G, z9H⟩ := zc2 w20 z4g.out) | ((with_reducible refine z0m (f := 81) rfl ?_); refine z1a (some 7) rfl rfl Tryz.func81 (by kernel_rfl) rfl #[.agg #[.slice z0U l0_0.length c0_0, .slice z0X l0_1.length c0_1]] rfl zq ?_; (with_reducible refine (z0f.calls k _ _ l0_0 _ _ l0_1 t277 _ ?z0M z1g.out ?z0Q z1j.out A3.out).mono ?_); (case z0M => exact zs); (case z0Q => exact zs); rintro e w22 ⟨rfl, hb⟩; refine ⟨_, rfl, ?_⟩; replace z4g := zK z4g hb; replace HB := zB HB hb; (try clear hb)))
  go_ret
  exact ⟨zr, zb⟩
 rw [if_pos c4] at H
 have c4b0 : (t277 == 0) = true := beq_iff_eq.mpr c4
 have c4b1 : (t277 != 0) = false := bne_eq_false_iff_eq.mpr c4
 clear c4
 by_cases c5 : (l1.length : Int) > 64
 ·rw [if_pos c5] at H
  have c5b0 : decide (64 < (l1.length : Int)) = true := decide_eq_true c5
  have c5b1 : decide (64 < l1.length) = true := decide_eq_true (by omega)
  clear c5
  obtain rfl := Option.some.inj H
  go_enter Tryz.func83, Tryz.ntmps83
  go_wp2_with (first | ((with_reducible refine z0o (N := 2) rfl ?_); refine zo (cs := #[.slice z0U l0_0.length c0_0, .slice z0X l0_1.length c0_1]) (t := 25) ?_; intro y6g hg w6 hbox hb; have z4g := z0a.mk hbox; have w3h := zG HB hg; have w3i := zG HB hg; replace HB := zB HB hb; clear hb hbox hg; obtain ⟨z4b, z4c, z4d, z4e⟩ := zc2 w6 z4g.out) | ((with_reducible refine z0m (f := 81) rfl ?_); refine z1a (some 7) rfl rfl Tryz.func81 (by kernel_rfl) rfl #[.agg #[.slice z0U l0_0.length c0_0, .slice z0X l0_1.length c0_1]] rfl zq ?_; (with_reducible refine (z0f.calls k _ _ l0_0 _ _ l0_1 t277 _ ?z0M z1g.out ?z0Q z1j.out A3.out).mono ?_); (case z0M => exact zs); (case z0Q => exact zs); rintro e w8 ⟨rfl, hb⟩; refine ⟨_, rfl, ?_⟩; replace z4g := zK z4g hb; replace HB := zB HB hb; (try clear hb)))
  go_ret
  exact ⟨zr, zb⟩
 rw [if_neg c5] at H
 have c5b0 : decide (64 < (l1.length : Int)) = false := decide_eq_false c5
 have c5b1 : decide (64 < l1.length) = false := decide_eq_false (by omega)
 clear c5
 have H' := z0a.mk H
 clear H
 go_enter Tryz.func83, Tryz.ntmps83
 go_wp2_with (first | ((with_reducible refine z0o (N := 2) rfl ?_); refine zo (cs := #[.slice z0U l0_0.length c0_0, .slice z0X l0_1.length c0_1]) (t := 25) ?_; intro y6g hg w9 hbox hb; have z4g := z0a.mk hbox; have w3h := zG HB hg; have w3i := zG HB hg; replace HB := zB HB hb; clear hb hbox hg; obtain ⟨z6C, z6D, z6E, z6F⟩ := zc2 w9 z4g.out) | ((with_reducible refine z0m (f := 81) rfl ?_); refine z1a (some 7) rfl rfl Tryz.func81 (by kernel_rfl) rfl #[.agg #[.slice z0U l0_0.length c0_0, .slice z0X l0_1.length c0_1]] rfl zq ?_; (with_reducible refine (z0f.calls k _ _ l0_0 _ _ l0_1 t277 _ ?z0M z1g.out ?z0Q z1j.out A3.out).mono ?_); (case z0M => exact zs); (case z0Q => exact zs); rintro e w11 ⟨rfl, hb⟩; refine ⟨_, rfl, ?_⟩; replace z4g := zK z4g hb; replace HB := zB HB hb; (try clear hb)))
 go_loopg [5] k (fun kq v5 w' => ∃ (x5_1 : Int), v5 = .int .i64 x5_1 ∧ z0a (z0H.l0 kq l1 x5_1 l0_0 l0_1 = some r) ∧ z0a (kq ≤ k) ∧ z0a (w'.heap[y6g]? = some (.cells #[(.slice z0U l0_0.length c0_0), (.slice z0X l0_1.length c0_1)] 25 (0, 0))) ∧ z0a (Below w.heap.size w w'))
 case atStart => exact ⟨(0), ze, H', ⟨Nat.le_refl _⟩, ⟨zk⟩, ⟨zb⟩⟩
 case round =>
  clear H'
  try clear c1
  try clear c4
  try clear c4b0
  try clear c4b1
  try clear c5
  try clear c5b0
  try clear c5b1
  try clear z6C
  try clear z6D
  try clear z6E
  try clear z6F
  obtain ⟨x5_1, rfl, HA, HK1, z4g, HB⟩ := hrel
  cases gk with
  | zero => exact absurd HA.out (by simp [z0H.l0])
  | succ k1 =>
   have H := HA.out
   clear HA
   simp only [z0H.l0] at H
   by_cases c12 : x5_1 < (l1.length : Int)
   rotate_left
   ·rw [if_neg c12] at H
    have c12b0 : decide (x5_1 < (l1.length : Int)) = false := decide_eq_false c12
    clear c12
    obtain rfl := Option.some.inj H
    go_wp2
    go_ret
    exact ⟨zr, zb⟩
   rw [if_pos c12] at H
   have c12b0 : decide (x5_1 < (l1.length : Int)) = true := decide_eq_true c12
   clear c12
   by_cases c13 : 0 ≤ x5_1
   rotate_left
   ·rw [if_neg c13] at H
    exact absurd H (by simp)
   rw [if_pos c13] at H
   have c13b0 : decide (0 ≤ x5_1) = true := decide_eq_true c13
   clear c13
   replace H := Option.bind_eq_some_iff.mp H
   obtain ⟨t279, A140, H⟩ := H
   replace H : (if t279 = 0 then (z0H.l0 k1 l1 (wrap64 (x5_1 + 1)) l0_0 l0_1) else (some 70)) = some r := H
   have A14 := z0a.mk A140
   clear A140
   by_cases c15 : t279 = 0
   rotate_left
   ·rw [if_neg c15] at H
    have c15b0 : (t279 == 0) = false := beq_eq_false_iff_ne.mpr c15
    have c15b1 : (t279 != 0) = true := bne_iff_ne.mpr c15
    obtain rfl := Option.some.inj H
    try go_wp2
    have n0_ := z0a.mk (z0e z4g.out)
    have n1_ := z0a.mk (z1l HB.out)
    clear z4g
    clear HB
    have z4g := n0_
    have HB := n1_
    clear n0_ n1_
    have p278 : 0 ≤ (x5_1 : Int) := za
    have q278 : x5_1 < (l1.length : Int) := za
    obtain ⟨ad278, y7o, c278_1, y7p, c278_2, y7q, c278_3, y7r, c278_4, e278, z7r, z7s, z7t, z7u, z7v, z7w, z7x, y3t, y3u, y3v, y3w, y3x, y3y, y3z, y3A⟩ := y1K HR1.out x5_1 p278 q278
    have z7y := z7x
    have z7z := z7w
    have z7A := z7v
    have z7B := z7u
    have z7C := z7t
    have z7D := z7s
    have z7E := z7r
    cases e278
    replace z7r := zx HB z7r
    replace z7s := zx HB z7s
    replace z7t := zx HB z7t
    replace z7u := zx HB z7u
    replace z7v := zx HB z7v
    replace z7w := zx HB z7w
    replace z7x := zx HB z7x
    have y9B := z0a.mk y3u
    have y9C := z0a.mk y3t
    clear y3u y3t
    have y9D := z0a.mk y3w
    have y9E := z0a.mk y3v
    clear y3w y3v
    have y9F := z0a.mk y3y
    have y9G := z0a.mk y3x
    clear y3y y3x
    have y9H := z0a.mk y3A
    have y9I := z0a.mk y3z
    clear y3A y3z
    replace p278 := eq_true p278
    replace q278 := eq_true q278
    refine z6l (n := 7) (S := fun w' => w'.cell? ⟨y6g, 0, none⟩ = some (.slice z0U l0_0.length c0_0) ∧ w'.cell? ⟨y6g, 1, none⟩ = some (.slice z0X l0_1.length c0_1) ∧ w'.cell? (ad278.add ((x5_1).toNat * 7)) = some (.string ((z0K l1 x5_1).f0)) ∧ w'.cell? ⟨(ad278.add ((x5_1).toNat * 7)).block, (ad278.add ((x5_1).toNat * 7)).off + 1, none⟩ = some (.slice y7o ((z0K l1 x5_1).f1).length c278_1) ∧ w'.cell? ⟨(ad278.add ((x5_1).toNat * 7)).block, (ad278.add ((x5_1).toNat * 7)).off + 2, none⟩ = some (.slice y7p ((z0K l1 x5_1).f2).length c278_2) ∧ w'.cell? ⟨(ad278.add ((x5_1).toNat * 7)).block, (ad278.add ((x5_1).toNat * 7)).off + 3, none⟩ = some (.slice y7q ((z0K l1 x5_1).f3.f0).length c278_3) ∧ w'.cell? ⟨(ad278.add ((x5_1).toNat * 7)).block, (ad278.add ((x5_1).toNat * 7)).off + 4, none⟩ = some (.slice y7r ((z0K l1 x5_1).f4.f0).length c278_4) ∧ w'.cell? ⟨(ad278.add ((x5_1).toNat * 7)).block, (ad278.add ((x5_1).toNat * 7)).off + 5, none⟩ = some (.int .u8 ((z0K l1 x5_1).f5)) ∧ w'.cell? ⟨(ad278.add ((x5_1).toNat * 7)).block, (ad278.add ((x5_1).toNat * 7)).off + 6, none⟩ = some (.bool ((z0K l1 x5_1).f6))) (ds := []) #[false, false, false, false, false, false, false] (by kernel_rfl) rfl rfl ⟨(z0p z4g.out 0).trans rfl, (z0p z4g.out 1).trans rfl, ((HB.out.cell (World.block_lt_of_cell? w _ z7E)).trans z7E), ((HB.out.cell (World.block_lt_of_cell? w _ z7D)).trans z7D), ((HB.out.cell (World.block_lt_of_cell? w _ z7C)).trans z7C), ((HB.out.cell (World.block_lt_of_cell? w _ z7B)).trans z7B), ((HB.out.cell (World.block_lt_of_cell? w _ z7A)).trans z7A), ((HB.out.cell (World.block_lt_of_cell? w _ z7z)).trans z7z), ((HB.out.cell (World.block_lt_of_cell? w _ z7y)).trans z7y)⟩ (fun hHeld => ?_)
    generalize wr.drew = w18 at z4g HB y9B y9D y9F y9H z7r z7s z7t z7u z7v z7w z7x hHeld ⊢
    refine z1O (i := 1) (N := some 19) (v := ?_) (a' := ?_) #[false, true, false, false, false, false, false] rfl rfl (by kernel_rfl) (fun _ _ _ h => h) (Or.inl ⟨by rfl, ?_⟩) ?_ ?_
    rotate_left
    ·intro w'
     go_simp
     with_reducible rfl
    rotate_left
    ·simp only [Act.put, List.setIfInBounds_toArray, List.set_cons_zero, List.set_cons_succ, z0V, z0W]
     rfl
    refine z1O (i := 2) (N := some 20) (v := ?_) (a' := ?_) #[false, true, true, false, false, false, false] rfl rfl (by kernel_rfl) (fun _ _ _ h => h) (Or.inl ⟨by rfl, ?_⟩) ?_ ?_
    rotate_left
    ·intro w'
     go_simp
     with_reducible rfl
    rotate_left
    ·simp only [Act.put, List.setIfInBounds_toArray, List.set_cons_zero, List.set_cons_succ, z0V, z0W]
     rfl
    refine z1O (i := 3) (N := some 21) (v := ?_) (a' := ?_) #[false, true, true, true, false, false, false] rfl rfl (by kernel_rfl) (fun _ _ _ h => h) (Or.inl ⟨by rfl, ?_⟩) ?_ ?_
    rotate_left
    ·intro w'
     go_simp
     with_reducible rfl
    rotate_left
    ·simp only [Act.put, List.setIfInBounds_toArray, List.set_cons_zero, List.set_cons_succ, z0V, z0W]
     rfl
    refine z2R (i := 0) (N := some 18) (v := ?_) (a' := ?_) #[true, true, true, true, false, false, false] rfl rfl (by kernel_rfl) (fun _ _ _ h => h) (Or.inl ⟨by rfl, ?_⟩) hHeld ?_ ?_
    rotate_left
    ·rintro w' ⟨s0, s1, s2, s3, s4, s5, s6, s7, s8⟩
     go_simp
     with_reducible rfl
    rotate_left
    ·simp only [Act.put, List.setIfInBounds_toArray, List.set_cons_zero, List.set_cons_succ, z0V, z0W]
     rfl
    refine z2R (i := 4) (N := some 22) (v := ?_) (a' := ?_) #[true, true, true, true, true, false, false] rfl rfl (by kernel_rfl) (fun _ _ _ h => h) (Or.inl ⟨by rfl, ?_⟩) hHeld ?_ ?_
    rotate_left
    ·rintro w' ⟨s0, s1, s2, s3, s4, s5, s6, s7, s8⟩
     go_simp
     with_reducible rfl
    rotate_left
    ·simp only [Act.put, List.setIfInBounds_toArray, List.set_cons_zero, List.set_cons_succ, z0V, z0W]
     rfl
    refine x6C (i := 5) (N := some 23) #[true, true, true, true, true, true, false] rfl rfl (by kernel_rfl) (by decide) (fun K hK => ?_)
    refine y4W Tryz.func118 (by kernel_rfl) rfl #[.agg #[.slice z0U l0_0.length c0_0, .slice z0X l0_1.length c0_1], .agg #[.string ((z0K l1 x5_1).f0), .slice y7o ((z0K l1 x5_1).f1).length c278_1, .slice y7p ((z0K l1 x5_1).f2).length c278_2, .slice y7q ((z0K l1 x5_1).f3.f0).length c278_3, .slice y7r ((z0K l1 x5_1).f4.f0).length c278_4, .int .u8 ((z0K l1 x5_1).f5), .bool ((z0K l1 x5_1).f6)]] (by rfl) rfl rfl zq ?_
    with_reducible refine (z1N.calls k1 _ _ l0_0 _ _ l0_1 ((z0K l1 x5_1).f0) _ _ ((z0K l1 x5_1).f1) _ _ ((z0K l1 x5_1).f2) _ _ ((z0K l1 x5_1).f3.f0) _ _ ((z0K l1 x5_1).f4.f0) ((z0K l1 x5_1).f5) ((z0K l1 x5_1).f6) t279 _ ?z0M ?z4Y ?z0Q ?z6g ?z1z ?z6O ?z6I ?y3d ?y2M ?x5v ?z8s ?x5w A14.out).mono ?_
    (case z0M => exact zs)
    (case z4Y => exact z1g.out)
    (case z0Q => exact zs)
    (case z6g => exact z1j.out)
    (case z1z => exact zs)
    (case z6O => exact y9C.out)
    (case z6I => exact zs)
    (case y3d => exact y9E.out)
    (case y2M => exact zs)
    (case x5v => exact y9G.out)
    (case z8s => exact zs)
    (case x5w => exact y9I.out)
    rintro e w19 ⟨rfl, hb⟩
    refine ⟨_, rfl, ?_⟩
    have n0_ := z0a.mk (z0O (g := y6g) (o := .cells #[.slice z0U l0_0.length c0_0, .slice z0X l0_1.length c0_1] 25 (0, 0)) zk hb)
    have n1_ := z0a.mk (z2X zb hb)
    clear z4g
    clear HB
    have z4g := n0_
    have HB := n1_
    clear n0_ n1_
    (try clear hb)
    (try clear hb2)
    (try clear hk)
    (try clear hi)
    refine hK.out _ _ ⟨(z0p z4g.out 0).trans rfl, (z0p z4g.out 1).trans rfl, ((HB.out.cell (World.block_lt_of_cell? w _ z7E)).trans z7E), ((HB.out.cell (World.block_lt_of_cell? w _ z7D)).trans z7D), ((HB.out.cell (World.block_lt_of_cell? w _ z7C)).trans z7C), ((HB.out.cell (World.block_lt_of_cell? w _ z7B)).trans z7B), ((HB.out.cell (World.block_lt_of_cell? w _ z7A)).trans z7A), ((HB.out.cell (World.block_lt_of_cell? w _ z7z)).trans z7z), ((HB.out.cell (World.block_lt_of_cell? w _ z7y)).trans z7y)⟩ (fun hHeld => ?_)
    clear hK K
    refine y4g (a' := ?_) ?_ ?_
    rotate_left
    ·show Act.put _ (some 23) _ = _
     simp only [Act.put, List.setIfInBounds_toArray, List.set_cons_zero, List.set_cons_succ, z0V, z0W]
     rfl
    refine z1O (i := 6) (N := some 24) (v := ?_) (a' := ?_) #[true, true, true, true, true, true, true] rfl rfl (by kernel_rfl) (fun _ _ _ h => h) (Or.inl ⟨by rfl, ?_⟩) ?_ ?_
    rotate_left
    ·intro w'
     go_simp
     with_reducible rfl
    rotate_left
    ·simp only [Act.put, List.setIfInBounds_toArray, List.set_cons_zero, List.set_cons_succ, z0V, z0W]
     rfl
    refine y0q (by kernel_rfl) ?_
    try go_wp2
    go_ret
    exact ⟨zr, zb⟩
   rw [if_pos c15] at H
   have c15b0 : (t279 == 0) = true := beq_iff_eq.mpr c15
   have c15b1 : (t279 != 0) = false := bne_eq_false_iff_eq.mpr c15
   clear c15
   have H' := z0a.mk H
   clear H
   try go_wp2
   have n0_ := z0a.mk (z0e z4g.out)
   have n1_ := z0a.mk (z1l HB.out)
   clear z4g
   clear HB
   have z4g := n0_
   have HB := n1_
   clear n0_ n1_
   have p278 : 0 ≤ (x5_1 : Int) := za
   have q278 : x5_1 < (l1.length : Int) := za
   obtain ⟨ad278, y7o, c278_1, y7p, c278_2, y7q, c278_3, y7r, c278_4, e278, z7r, z7s, z7t, z7u, z7v, z7w, z7x, y3t, y3u, y3v, y3w, y3x, y3y, y3z, y3A⟩ := y1K HR1.out x5_1 p278 q278
   have z7y := z7x
   have z7z := z7w
   have z7A := z7v
   have z7B := z7u
   have z7C := z7t
   have z7D := z7s
   have z7E := z7r
   cases e278
   replace z7r := zx HB z7r
   replace z7s := zx HB z7s
   replace z7t := zx HB z7t
   replace z7u := zx HB z7u
   replace z7v := zx HB z7v
   replace z7w := zx HB z7w
   replace z7x := zx HB z7x
   have y9B := z0a.mk y3u
   have y9C := z0a.mk y3t
   clear y3u y3t
   have y9D := z0a.mk y3w
   have y9E := z0a.mk y3v
   clear y3w y3v
   have y9F := z0a.mk y3y
   have y9G := z0a.mk y3x
   clear y3y y3x
   have y9H := z0a.mk y3A
   have y9I := z0a.mk y3z
   clear y3A y3z
   replace p278 := eq_true p278
   replace q278 := eq_true q278
   refine z6l (n := 7) (S := fun w' => w'.cell? ⟨y6g, 0, none⟩ = some (.slice z0U l0_0.length c0_0) ∧ w'.cell? ⟨y6g, 1, none⟩ = some (.slice z0X l0_1.length c0_1) ∧ w'.cell? (ad278.add ((x5_1).toNat * 7)) = some (.string ((z0K l1 x5_1).f0)) ∧ w'.cell? ⟨(ad278.add ((x5_1).toNat * 7)).block, (ad278.add ((x5_1).toNat * 7)).off + 1, none⟩ = some (.slice y7o ((z0K l1 x5_1).f1).length c278_1) ∧ w'.cell? ⟨(ad278.add ((x5_1).toNat * 7)).block, (ad278.add ((x5_1).toNat * 7)).off + 2, none⟩ = some (.slice y7p ((z0K l1 x5_1).f2).length c278_2) ∧ w'.cell? ⟨(ad278.add ((x5_1).toNat * 7)).block, (ad278.add ((x5_1).toNat * 7)).off + 3, none⟩ = some (.slice y7q ((z0K l1 x5_1).f3.f0).length c278_3) ∧ w'.cell? ⟨(ad278.add ((x5_1).toNat * 7)).block, (ad278.add ((x5_1).toNat * 7)).off + 4, none⟩ = some (.slice y7r ((z0K l1 x5_1).f4.f0).length c278_4) ∧ w'.cell? ⟨(ad278.add ((x5_1).toNat * 7)).block, (ad278.add ((x5_1).toNat * 7)).off + 5, none⟩ = some (.int .u8 ((z0K l1 x5_1).f5)) ∧ w'.cell? ⟨(ad278.add ((x5_1).toNat * 7)).block, (ad278.add ((x5_1).toNat * 7)).off + 6, none⟩ = some (.bool ((z0K l1 x5_1).f6))) (ds := []) #[false, false, false, false, false, false, false] (by kernel_rfl) rfl rfl ⟨(z0p z4g.out 0).trans rfl, (z0p z4g.out 1).trans rfl, ((HB.out.cell (World.block_lt_of_cell? w _ z7E)).trans z7E), ((HB.out.cell (World.block_lt_of_cell? w _ z7D)).trans z7D), ((HB.out.cell (World.block_lt_of_cell? w _ z7C)).trans z7C), ((HB.out.cell (World.block_lt_of_cell? w _ z7B)).trans z7B), ((HB.out.cell (World.block_lt_of_cell? w _ z7A)).trans z7A), ((HB.out.cell (World.block_lt_of_cell? w _ z7z)).trans z7z), ((HB.out.cell (World.block_lt_of_cell? w _ z7y)).trans z7y)⟩ (fun hHeld => ?_)
   generalize wr.drew = w16 at z4g HB y9B y9D y9F y9H z7r z7s z7t z7u z7v z7w z7x hHeld ⊢
   refine z1O (i := 1) (N := some 19) (v := ?_) (a' := ?_) #[false, true, false, false, false, false, false] rfl rfl (by kernel_rfl) (fun _ _ _ h => h) (Or.inl ⟨by rfl, ?_⟩) ?_ ?_
   rotate_left
   ·intro w'
    go_simp
    with_reducible rfl
   rotate_left
   ·simp only [Act.put, List.setIfInBounds_toArray, List.set_cons_zero, List.set_cons_succ, z0V, z0W]
    rfl
   refine z1O (i := 2) (N := some 20) (v := ?_) (a' := ?_) #[false, true, true, false, false, false, false] rfl rfl (by kernel_rfl) (fun _ _ _ h => h) (Or.inl ⟨by rfl, ?_⟩) ?_ ?_
   rotate_left
   ·intro w'
    go_simp
    with_reducible rfl
   rotate_left
   ·simp only [Act.put, List.setIfInBounds_toArray, List.set_cons_zero, List.set_cons_succ, z0V, z0W]
    rfl
   refine z1O (i := 3) (N := some 21) (v := ?_) (a' := ?_) #[false, true, true, true, false, false, false] rfl rfl (by kernel_rfl) (fun _ _ _ h => h) (Or.inl ⟨by rfl, ?_⟩) ?_ ?_
   rotate_left
   ·intro w'
    go_simp
    with_reducible rfl
   rotate_left
   ·simp only [Act.put, List.setIfInBounds_toArray, List.set_cons_zero, List.set_cons_succ, z0V, z0W]
    rfl
   refine z2R (i := 0) (N := some 18) (v := ?_) (a' := ?_) #[true, true, true, true, false, false, false] rfl rfl (by kernel_rfl) (fun _ _ _ h => h) (Or.inl ⟨by rfl, ?_⟩) hHeld ?_ ?_
   rotate_left
   ·rintro w' ⟨s0, s1, s2, s3, s4, s5, s6, s7, s8⟩
    go_simp
    with_reducible rfl
   rotate_left
   ·simp only [Act.put, List.setIfInBounds_toArray, List.set_cons_zero, List.set_cons_succ, z0V, z0W]
    rfl
   refine z2R (i := 4) (N := some 22) (v := ?_) (a' := ?_) #[true, true, true, true, true, false, false] rfl rfl (by kernel_rfl) (fun _ _ _ h => h) (Or.inl ⟨by rfl, ?_⟩) hHeld ?_ ?_
   rotate_left
   ·rintro w' ⟨s0, s1, s2, s3, s4, s5, s6, s7, s8⟩
    go_simp
    with_reducible rfl
   rotate_left
   ·simp only [Act.put, List.setIfInBounds_toArray, List.set_cons_zero, List.set_cons_succ, z0V, z0W]
    rfl
   refine x6C (i := 5) (N := some 23) #[true, true, true, true, true, true, false] rfl rfl (by kernel_rfl) (by decide) (fun K hK => ?_)
   refine y4W Tryz.func118 (by kernel_rfl) rfl #[.agg #[.slice z0U l0_0.length c0_0, .slice z0X l0_1.length c0_1], .agg #[.string ((z0K l1 x5_1).f0), .slice y7o ((z0K l1 x5_1).f1).length c278_1, .slice y7p ((z0K l1 x5_1).f2).length c278_2, .slice y7q ((z0K l1 x5_1).f3.f0).length c278_3, .slice y7r ((z0K l1 x5_1).f4.f0).length c278_4, .int .u8 ((z0K l1 x5_1).f5), .bool ((z0K l1 x5_1).f6)]] (by rfl) rfl rfl zq ?_
   with_reducible refine (z1N.calls k1 _ _ l0_0 _ _ l0_1 ((z0K l1 x5_1).f0) _ _ ((z0K l1 x5_1).f1) _ _ ((z0K l1 x5_1).f2) _ _ ((z0K l1 x5_1).f3.f0) _ _ ((z0K l1 x5_1).f4.f0) ((z0K l1 x5_1).f5) ((z0K l1 x5_1).f6) t279 _ ?z0M ?z4Y ?z0Q ?z6g ?z1z ?z6O ?z6I ?y3d ?y2M ?x5v ?z8s ?x5w A14.out).mono ?_
   (case z0M => exact zs)
   (case z4Y => exact z1g.out)
   (case z0Q => exact zs)
   (case z6g => exact z1j.out)
   (case z1z => exact zs)
   (case z6O => exact y9C.out)
   (case z6I => exact zs)
   (case y3d => exact y9E.out)
   (case y2M => exact zs)
   (case x5v => exact y9G.out)
   (case z8s => exact zs)
   (case x5w => exact y9I.out)
   rintro e w17 ⟨rfl, hb⟩
   refine ⟨_, rfl, ?_⟩
   have n0_ := z0a.mk (z0O (g := y6g) (o := .cells #[.slice z0U l0_0.length c0_0, .slice z0X l0_1.length c0_1] 25 (0, 0)) zk hb)
   have n1_ := z0a.mk (z2X zb hb)
   clear z4g
   clear HB
   have z4g := n0_
   have HB := n1_
   clear n0_ n1_
   (try clear hb)
   (try clear hb2)
   (try clear hk)
   (try clear hi)
   refine hK.out _ _ ⟨(z0p z4g.out 0).trans rfl, (z0p z4g.out 1).trans rfl, ((HB.out.cell (World.block_lt_of_cell? w _ z7E)).trans z7E), ((HB.out.cell (World.block_lt_of_cell? w _ z7D)).trans z7D), ((HB.out.cell (World.block_lt_of_cell? w _ z7C)).trans z7C), ((HB.out.cell (World.block_lt_of_cell? w _ z7B)).trans z7B), ((HB.out.cell (World.block_lt_of_cell? w _ z7A)).trans z7A), ((HB.out.cell (World.block_lt_of_cell? w _ z7z)).trans z7z), ((HB.out.cell (World.block_lt_of_cell? w _ z7y)).trans z7y)⟩ (fun hHeld => ?_)
   clear hK K
   refine y4g (a' := ?_) ?_ ?_
   rotate_left
   ·show Act.put _ (some 23) _ = _
    simp only [Act.put, List.setIfInBounds_toArray, List.set_cons_zero, List.set_cons_succ, z0V, z0W]
    rfl
   refine z1O (i := 6) (N := some 24) (v := ?_) (a' := ?_) #[true, true, true, true, true, true, true] rfl rfl (by kernel_rfl) (fun _ _ _ h => h) (Or.inl ⟨by rfl, ?_⟩) ?_ ?_
   rotate_left
   ·intro w'
    go_simp
    with_reducible rfl
   rotate_left
   ·simp only [Act.put, List.setIfInBounds_toArray, List.set_cons_zero, List.set_cons_succ, z0V, z0W]
    rfl
   refine y0q (by kernel_rfl) ?_
   try go_wp2
   go_roundg k1
   case measure => have := HK1.out; omega
   case rel => exact ⟨(wrap64 (x5_1 + 1)), ze, H', ⟨by have := HK1.out; omega⟩, ⟨zk⟩, ⟨zb⟩⟩
mutual
def z0d.j0 : Nat → Bool → List ByteArray → List (z1J) → List (S81) → Option (Int)
 | 0, _, _, _, _ => none
 | k + 1, x38, z4p, z4q, z2i => if x38 = true then (some 270) else (z0d.l0 k 0 z4p z4q z2i)
def z0d.l0 : Nat → Int → List ByteArray → List (z1J) → List (S81) → Option (Int)
 | 0, _, _, _, _ => none
 | k + 1, x3, z4p, z4q, z2i => if x3 < (z2i.length : Int) then (if 0 ≤ x3 then ((z0x.f k ((z0s z2i x3).f0)).bind fun t286 => (if t286 = true then (if x3 > 0 then (if ((z0s z2i x3).f1) < 0 then (z0d.j2 k x3 true z4p z4q z2i ((z0s z2i x3).f0) ((z0s z2i x3).f1) ((z0s z2i x3).f2)) else (z0d.j2 k x3 (decide (((z0s z2i x3).f1) ≥ x3)) z4p z4q z2i ((z0s z2i x3).f0) ((z0s z2i x3).f1) ((z0s z2i x3).f2))) else (z0d.j2 k x3 false z4p z4q z2i ((z0s z2i x3).f0) ((z0s z2i x3).f1) ((z0s z2i x3).f2))) else (z0d.j2 k x3 true z4p z4q z2i ((z0s z2i x3).f0) ((z0s z2i x3).f1) ((z0s z2i x3).f2)))) else (none)) else (z0d.l2 k 0 z4p z4q z2i)
def z0d.j2 : Nat → Int → Bool → List ByteArray → List (z1J) → List (S81) → ByteArray → Int → List (S51) → Option (Int)
 | 0, _, _, _, _, _, _, _, _ => none
 | k + 1, x3, x69, z4p, z4q, z2i, y6h, y9J, y9K => if x69 = true then (some 270) else (z0d.l1 k x3 0 z4p z4q z2i y6h y9J y9K)
def z0d.l1 : Nat → Int → Int → List ByteArray → List (z1J) → List (S81) → ByteArray → Int → List (S51) → Option (Int)
 | 0, _, _, _, _, _, _, _, _ => none
 | k + 1, x3, x5, z4p, z4q, z2i, y6h, y9J, y9K => if x5 < x3 then (if 0 ≤ x5 then (if x5 < (z2i.length : Int) then (if ((z0s z2i x5).f0).toList = y6h.toList then (some 270) else (z0d.l1 k x3 (wrap64 (x5 + 1)) z4p z4q z2i y6h y9J y9K)) else (none)) else (none)) else (z0d.l0 k (wrap64 (x3 + 1)) z4p z4q z2i)
def z0d.l2 : Nat → Int → List ByteArray → List (z1J) → List (S81) → Option (Int)
 | 0, _, _, _, _ => none
 | k + 1, x6, z4p, z4q, z2i => if x6 < (z2i.length : Int) then (if 0 ≤ x6 then ((z0H.f k z4p z4q ((z0s z2i x6).f2)).bind fun t289 => (if t289 = 0 then (z0d.l2 k (wrap64 (x6 + 1)) z4p z4q z2i) else (some t289))) else (none)) else (some 0)
end
def z0d.f (k : Nat) (l0_0 : List ByteArray) (l0_1 : List (z1J)) (l0_2 : List (S81)) : Option (Int) := (z0f.f k l0_0 l0_1).bind fun t281 => (if t281 = 0 then (if (l0_2.length : Int) < 1 then (z0d.j0 k true l0_0 l0_1 l0_2) else (if (l0_2.length : Int) > 32 then (z0d.j0 k true l0_0 l0_1 l0_2) else (if 0 < (l0_2.length : Int) then (if ((z0s l0_2 0).f1) = (-1) then (z0d.j0 k (decide ((((z0s l0_2 0).f2).length : Int) > 0)) l0_0 l0_1 l0_2) else (z0d.j0 k true l0_0 l0_1 l0_2)) else (none)))) else (some 7))
theorem z0d.z1t : ∀ k, (∀ y0 y1 y2 y3, LeO (z0d.j0 k y0 y1 y2 y3) (z0d.j0 (k + 1) y0 y1 y2 y3)) ∧ (∀ y0 y1 y2 y3, LeO (z0d.l0 k y0 y1 y2 y3) (z0d.l0 (k + 1) y0 y1 y2 y3)) ∧ (∀ y0 y1 y2 y3 y4 y5 y6 y7, LeO (z0d.j2 k y0 y1 y2 y3 y4 y5 y6 y7) (z0d.j2 (k + 1) y0 y1 y2 y3 y4 y5 y6 y7)) ∧ (∀ y0 y1 y2 y3 y4 y5 y6 y7, LeO (z0d.l1 k y0 y1 y2 y3 y4 y5 y6 y7) (z0d.l1 (k + 1) y0 y1 y2 y3 y4 y5 y6 y7)) ∧ (∀ y0 y1 y2 y3, LeO (z0d.l2 k y0 y1 y2 y3) (z0d.l2 (k + 1) y0 y1 y2 y3))
 | 0 => ⟨fun _ _ _ _ r h => by simp [z0d.j0] at h, fun _ _ _ _ r h => by simp [z0d.l0] at h, fun _ _ _ _ _ _ _ _ r h => by simp [z0d.j2] at h, fun _ _ _ _ _ _ _ _ r h => by simp [z0d.l1] at h, fun _ _ _ _ r h => by simp [z0d.l2] at h⟩
 | k + 1 => by
  obtain ⟨ih0, ih1, ih2, ih3, ih4⟩ := z0d.z1t k
  refine ⟨?_, ?_, ?_, ?_, ?_⟩
  ·intro y0 y1 y2 y3
   unfold z0d.j0
   repeat' first
   | (with_reducible exact ih0 _ _ _ _)
   | (with_reducible exact ih1 _ _ _ _)
   | (with_reducible exact ih2 _ _ _ _ _ _ _ _)
   | (with_reducible exact ih3 _ _ _ _ _ _ _ _)
   | (with_reducible exact ih4 _ _ _ _)
   | (with_reducible exact z0f.mono _ _ _)
   | (with_reducible exact z0H.mono _ _ _ _)
   | (with_reducible exact z0x.mono _ _)
   | (with_reducible exact LeO.refl _)
   | (with_reducible exact LeO.none _)
   | (with_reducible refine LeO.ite ?_ ?_)
   | (with_reducible refine LeO.bind ?_ (fun _ => ?_))
  ·intro y0 y1 y2 y3
   unfold z0d.l0
   repeat' first
   | (with_reducible exact ih0 _ _ _ _)
   | (with_reducible exact ih1 _ _ _ _)
   | (with_reducible exact ih2 _ _ _ _ _ _ _ _)
   | (with_reducible exact ih3 _ _ _ _ _ _ _ _)
   | (with_reducible exact ih4 _ _ _ _)
   | (with_reducible exact z0f.mono _ _ _)
   | (with_reducible exact z0H.mono _ _ _ _)
   | (with_reducible exact z0x.mono _ _)
   | (with_reducible exact LeO.refl _)
   | (with_reducible exact LeO.none _)
   | (with_reducible refine LeO.ite ?_ ?_)
   | (with_reducible refine LeO.bind ?_ (fun _ => ?_))
  ·intro y0 y1 y2 y3 y4 y5 y6 y7
   unfold z0d.j2
   repeat' first
   | (with_reducible exact ih0 _ _ _ _)
   | (with_reducible exact ih1 _ _ _ _)
   | (with_reducible exact ih2 _ _ _ _ _ _ _ _)
   | (with_reducible exact ih3 _ _ _ _ _ _ _ _)
   | (with_reducible exact ih4 _ _ _ _)
   | (with_reducible exact z0f.mono _ _ _)
   | (with_reducible exact z0H.mono _ _ _ _)
   | (with_reducible exact z0x.mono _ _)
   | (with_reducible exact LeO.refl _)
   | (with_reducible exact LeO.none _)
   | (with_reducible refine LeO.ite ?_ ?_)
   | (with_reducible refine LeO.bind ?_ (fun _ => ?_))
  ·intro y0 y1 y2 y3 y4 y5 y6 y7
   unfold z0d.l1
   repeat' first
   | (with_reducible exact ih0 _ _ _ _)
   | (with_reducible exact ih1 _ _ _ _)
   | (with_reducible exact ih2 _ _ _ _ _ _ _ _)
   | (with_reducible exact ih3 _ _ _ _ _ _ _ _)
   | (with_reducible exact ih4 _ _ _ _)
   | (with_reducible exact z0f.mono _ _ _)
   | (with_reducible exact z0H.mono _ _ _ _)
   | (with_reducible exact z0x.mono _ _)
   | (with_reducible exact LeO.refl _)
   | (with_reducible exact LeO.none _)
   | (with_reducible refine LeO.ite ?_ ?_)
   | (with_reducible refine LeO.bind ?_ (fun _ => ?_))
  ·intro y0 y1 y2 y3
   unfold z0d.l2
   repeat' first
   | (with_reducible exact ih0 _ _ _ _)
   | (with_reducible exact ih1 _ _ _ _)
   | (with_reducible exact ih2 _ _ _ _ _ _ _ _)
   | (with_reducible exact ih3 _ _ _ _ _ _ _ _)
   | (with_reducible exact ih4 _ _ _ _)
   | (with_reducible exact z0f.mono _ _ _)
   | (with_reducible exact z0H.mono _ _ _ _)
   | (with_reducible exact z0x.mono _ _)
   | (with_reducible exact LeO.refl _)
   | (with_reducible exact LeO.none _)
   | (with_reducible refine LeO.ite ?_ ?_)
   | (with_reducible refine LeO.bind ?_ (fun _ => ?_))
theorem z0d.mono : ∀ a0 a1 a2 k, LeO (z0d.f k a0 a1 a2) (z0d.f (k + 1) a0 a1 a2) := by
 intro a0 a1 a2 k
 obtain ⟨ih0, ih1, ih2, ih3, ih4⟩ := z0d.z1t k
 unfold z0d.f
 repeat' first
   | (with_reducible exact ih0 _ _ _ _)
   | (with_reducible exact ih1 _ _ _ _)
   | (with_reducible exact ih2 _ _ _ _ _ _ _ _)
   | (with_reducible exact ih3 _ _ _ _ _ _ _ _)
   | (with_reducible exact ih4 _ _ _ _)
   | (with_reducible exact z0f.mono _ _ _)
   | (with_reducible exact z0H.mono _ _ _ _)
   | (with_reducible exact z0x.mono _ _)
   | (with_reducible exact LeO.refl _)
   | (with_reducible exact LeO.none _)
   | (with_reducible refine LeO.ite ?_ ?_)
   | (with_reducible refine LeO.bind ?_ (fun _ => ?_))
def z0d.T14 : Bool × List (List Nat × List Nat) := (true, [([], []), ([0], [0]), ([], []), ([1, 2], [1, 2]), ([3], [3]), ([4], [4]), ([], []), ([6], [6]), ([5, 7], [5, 7])])
def z0d.B14 : List Nat := [0, 1, 0, 7, 15, 31, 0, 64, 255]
theorem z0d.w3j : rtab .any (opsOf Tryz.f37 14) = z0d.T14 := by kernel_rfl
theorem z0d.x7S : z5v z0d.T14.2 z0d.B14 = true := by kernel_rfl
def z0d.T19 : Bool × List (List Nat × List Nat) := (true, [([], []), ([0], [0]), ([], []), ([2], [2]), ([], []), ([3, 4], [3, 4]), ([5], [5]), ([6], [6]), ([1, 7], [1, 7]), ([8, 8, 0, 1, 2, 3, 4, 5, 6, 7, 8], [8])])
def z0d.B19 : List Nat := [0, 1, 0, 4, 0, 28, 60, 124, 255, 511]
theorem z0d.w3k : rtab .any (opsOf Tryz.f37 19) = z0d.T19 := by kernel_rfl
theorem z0d.x7T : z5v z0d.T19.2 z0d.B19 = true := by kernel_rfl
set_option maxHeartbeats 8000000 in
set_option maxRecDepth 100000 in
theorem z0d.calls (k : Nat) (z0U : Option Addr) (c0_0 : Nat) (l0_0 : List ByteArray) (z0X : Option Addr) (c0_1 : Nat) (l0_1 : List (z1J)) (z2c : Option Addr) (c0_2 : Nat) (l0_2 : List (S81)) (r : Int) (w : World) (hr0_0 : Kd.C Kd.string w z0U l0_0.length l0_0) (hc0_0 : l0_0.length ≤ c0_0) (hr0_1 : Kd.C z5a w z0X l0_1.length l0_1) (hc0_1 : l0_1.length ≤ c0_1) (hr0_2 : Kd.C k81 w z2c l0_2.length l0_2) (hc0_2 : l0_2.length ≤ c0_2) (h : z0d.f k l0_0 l0_1 l0_2 = some r) :
  Calls Tryz.prog 37 #[.agg #[.slice z0U l0_0.length c0_0, .slice z0X l0_1.length c0_1, .slice z2c l0_2.length c0_2]] w fun e w' => e = .returned (.int .i64 r) ∧ Below w.heap.size w w' := by
 have hu28 := Tryz.underlying28
 have hu25 := Tryz.underlying25
 have hu81 := Tryz.underlying81
 have z2g := z0a.mk hr0_0
 have z1g := z0a.mk hc0_0
 clear hr0_0 hc0_0
 have z2x := z0a.mk hr0_1
 have z1j := z0a.mk hc0_1
 clear hr0_1 hc0_1
 have z3X := z0a.mk hr0_2
 have z2T := z0a.mk hc0_2
 clear hr0_2 hc0_2
 have HB := z0a.mk (Below.refl w.heap.size w)
 have H : ((z0f.f k l0_0 l0_1).bind fun t281 => (if t281 = 0 then (if (l0_2.length : Int) < 1 then (z0d.j0 k true l0_0 l0_1 l0_2) else (if (l0_2.length : Int) > 32 then (z0d.j0 k true l0_0 l0_1 l0_2) else (if 0 < (l0_2.length : Int) then (if ((z0s l0_2 0).f1) = (-1) then (z0d.j0 k (decide ((((z0s l0_2 0).f2).length : Int) > 0)) l0_0 l0_1 l0_2) else (z0d.j0 k true l0_0 l0_1 l0_2)) else (none)))) else (some 7))) = some r := h
 clear h
 replace H := Option.bind_eq_some_iff.mp H
 obtain ⟨t281, A20, H⟩ := H
 replace H : (if t281 = 0 then (if (l0_2.length : Int) < 1 then (z0d.j0 k true l0_0 l0_1 l0_2) else (if (l0_2.length : Int) > 32 then (z0d.j0 k true l0_0 l0_1 l0_2) else (if 0 < (l0_2.length : Int) then (if ((z0s l0_2 0).f1) = (-1) then (z0d.j0 k (decide ((((z0s l0_2 0).f2).length : Int) > 0)) l0_0 l0_1 l0_2) else (z0d.j0 k true l0_0 l0_1 l0_2)) else (none)))) else (some 7)) = some r := H
 have A2 := z0a.mk A20
 clear A20
 by_cases c3 : t281 = 0
 rotate_left
 ·rw [if_neg c3] at H
  have c3b0 : (t281 == 0) = false := beq_eq_false_iff_ne.mpr c3
  have c3b1 : (t281 != 0) = true := bne_iff_ne.mpr c3
  obtain rfl := Option.some.inj H
  go_enter Tryz.func37, Tryz.ntmps37
  go_wp2_with (first | ((with_reducible refine z0o (N := 1) rfl ?_); refine zo (cs := #[.slice z0U l0_0.length c0_0, .slice z0X l0_1.length c0_1, .slice z2c l0_2.length c0_2]) (t := 28) ?_; intro z6s hg w55 hbox hb; have z2k := z0a.mk hbox; have GW280 := zG HB hg; have GE280 := zG HB hg; replace HB := zB HB hb; clear hb hbox hg; obtain ⟨y9o, y9p, x4Y, y9q, y9r, x4Z⟩ := zc3 w55 z2k.out) | ((with_reducible refine z0m (f := 81) rfl ?_); refine z1a (some 10) rfl rfl Tryz.func81 (by kernel_rfl) rfl #[.agg #[.slice z0U l0_0.length c0_0, .slice z0X l0_1.length c0_1]] rfl zq ?_; (with_reducible refine (z0f.calls k _ _ l0_0 _ _ l0_1 t281 _ ?z0M z1g.out ?z0Q z1j.out A2.out).mono ?_); (case z0M => exact zs); (case z0Q => exact zs); rintro e w57 ⟨rfl, hb⟩; refine ⟨_, rfl, ?_⟩; replace z2k := zK z2k hb; replace HB := zB HB hb; (try clear hb)))
  go_ret
  exact ⟨zr, zb⟩
 rw [if_pos c3] at H
 have c3b0 : (t281 == 0) = true := beq_iff_eq.mpr c3
 have c3b1 : (t281 != 0) = false := bne_eq_false_iff_eq.mpr c3
 clear c3
 have HC4 := z0a.mk H
 clear H
 go_enter Tryz.func37, Tryz.ntmps37
 go_upto_region 3 with (first | ((with_reducible refine z0o (N := 1) rfl ?_); refine zo (cs := #[.slice z0U l0_0.length c0_0, .slice z0X l0_1.length c0_1, .slice z2c l0_2.length c0_2]) (t := 28) ?_; intro z6s hg w5 hbox hb; have z2k := z0a.mk hbox; have GW280 := zG HB hg; have GE280 := zG HB hg; replace HB := zB HB hb; clear hb hbox hg; obtain ⟨z8a, z8b, y0c, z8c, z8d, y0d⟩ := zc3 w5 z2k.out) | ((with_reducible refine z0m (f := 81) rfl ?_); refine z1a (some 10) rfl rfl Tryz.func81 (by kernel_rfl) rfl #[.agg #[.slice z0U l0_0.length c0_0, .slice z0X l0_1.length c0_1]] rfl zq ?_; (with_reducible refine (z0f.calls k _ _ l0_0 _ _ l0_1 t281 _ ?z0M z1g.out ?z0Q z1j.out A2.out).mono ?_); (case z0M => exact zs); (case z0Q => exact zs); rintro e w7 ⟨rfl, hb⟩; refine ⟨_, rfl, ?_⟩; replace z2k := zK z2k hb; replace HB := zB HB hb; (try clear hb)))
 (try simp only [Act.put, List.setIfInBounds_toArray, List.set_cons_zero, List.set_cons_succ])
 go_cut [38] (fun v38 wc => ∃ (kq : Nat) (x38_3 : Bool), v38 = .bool x38_3 ∧ z0a (z0d.j0 kq x38_3 l0_0 l0_1 l0_2 = some r) ∧ z0a (kq ≤ k) ∧ z0a (wc.heap[z6s]? = some (.cells #[(.slice z0U l0_0.length c0_0), (.slice z0X l0_1.length c0_1), (.slice z2c l0_2.length c0_2)] 28 (0, 0))) ∧ z0a (Below w.heap.size w wc))
 case first =>
  have H := HC4.out
  clear HC4
  by_cases c8 : (l0_2.length : Int) < 1
  ·rw [if_pos c8] at H
   have c8b0 : decide ((l0_2.length : Int) < 1) = true := decide_eq_true c8
   have c8b1 : decide (l0_2.length < 1) = true := decide_eq_true (by omega)
   clear c8
   (first | rw [c8b0] | (simp only [z0V, z0W]; rw [c8b0]) | skip)
   have H' := z0a.mk H
   clear H
   obtain ⟨z5l, z5m, z9e, z5n, z5o, z9f⟩ := zc3 w7 z2k.out
   go_wp2
   go_meet
   case rel => exact ⟨_, (true), ze, H', ⟨zl⟩, ⟨zk⟩, ⟨zb⟩⟩
  rw [if_neg c8] at H
  have c8b0 : decide ((l0_2.length : Int) < 1) = false := decide_eq_false c8
  have c8b1 : decide (l0_2.length < 1) = false := decide_eq_false (by omega)
  clear c8
  (first | rw [c8b0] | (simp only [z0V, z0W]; rw [c8b0]) | skip)
  by_cases c10 : (l0_2.length : Int) > 32
  ·rw [if_pos c10] at H
   have c10b0 : decide (32 < (l0_2.length : Int)) = true := decide_eq_true c10
   have c10b1 : decide (32 < l0_2.length) = true := decide_eq_true (by omega)
   clear c10
   have H' := z0a.mk H
   clear H
   obtain ⟨z3M, z6J, z6K, z3N, z6L, z6M⟩ := zc3 w7 z2k.out
   go_wp2
   go_meet
   case rel => exact ⟨_, (true), ze, H', ⟨zl⟩, ⟨zk⟩, ⟨zb⟩⟩
  rw [if_neg c10] at H
  have c10b0 : decide (32 < (l0_2.length : Int)) = false := decide_eq_false c10
  have c10b1 : decide (32 < l0_2.length) = false := decide_eq_false (by omega)
  clear c10
  by_cases c12 : 0 < (l0_2.length : Int)
  rotate_left
  ·rw [if_neg c12] at H
   exact absurd H (by simp)
  rw [if_pos c12] at H
  have c12b0 : decide (0 < (l0_2.length : Int)) = true := decide_eq_true c12
  have c12b1 : decide (0 < l0_2.length) = true := decide_eq_true (by omega)
  clear c12
  by_cases c13 : ((z0s l0_2 0).f1) = (-1)
  rotate_left
  ·rw [if_neg c13] at H
   have c13b0 : (((z0s l0_2 0).f1) == (-1)) = false := beq_eq_false_iff_ne.mpr c13
   have c13b1 : (((z0s l0_2 0).f1) != (-1)) = true := bne_iff_ne.mpr c13
   have H' := z0a.mk H
   clear H
   obtain ⟨y8s, y8t, y8u, y8v, y8w, y8x⟩ := zc3 w7 z2k.out
   have p282 : 0 ≤ (0 : Int) := (by omega)
   have q282 : 0 < (l0_2.length : Int) := za
   obtain ⟨ad282, w3l, c282_2, e282, z5K, z5L, z5j, y3B, y3C⟩ := z3e z3X.out 0 p282 q282
   cases e282
   have qi282 : (0 < l0_2.length) = True := eq_true (by omega)
   (try rw [show ((0 : Int)).toNat = 0 from rfl] at z5K)
   (try rw [show 0 * 3 = 0 from rfl] at z5K)
   (try rw [Addr.add_zero'] at z5K)
   (try rw [show ((0 : Int)).toNat = 0 from rfl] at z5L)
   (try rw [show 0 * 3 = 0 from rfl] at z5L)
   (try rw [Addr.add_zero'] at z5L)
   (try rw [show ((0 : Int)).toNat = 0 from rfl] at z5j)
   (try rw [show 0 * 3 = 0 from rfl] at z5j)
   (try rw [Addr.add_zero'] at z5j)
   replace z5K := zx HB z5K
   replace z5L := zx HB z5L
   replace z5j := zx HB z5j
   have w1F := z0a.mk y3C
   have w1G := z0a.mk y3B
   clear y3C y3B
   replace p282 := eq_true p282
   replace q282 := eq_true q282
   go_wp2
   go_meet
   case rel => exact ⟨_, (true), ze, H', ⟨zl⟩, ⟨zk⟩, ⟨zb⟩⟩
  rw [if_pos c13] at H
  have c13b0 : (((z0s l0_2 0).f1) == (-1)) = true := beq_iff_eq.mpr c13
  have c13b1 : (((z0s l0_2 0).f1) != (-1)) = false := bne_eq_false_iff_eq.mpr c13
  clear c13
  have H' := z0a.mk H
  clear H
  obtain ⟨y1T, y7Z, x2v, y1U, y8a, x2w⟩ := zc3 w7 z2k.out
  have p282 : 0 ≤ (0 : Int) := (by omega)
  have q282 : 0 < (l0_2.length : Int) := za
  obtain ⟨ad282, w3l, c282_2, e282, z5K, z5L, z5j, y3B, y3C⟩ := z3e z3X.out 0 p282 q282
  cases e282
  have qi282 : (0 < l0_2.length) = True := eq_true (by omega)
  (try rw [show ((0 : Int)).toNat = 0 from rfl] at z5K)
  (try rw [show 0 * 3 = 0 from rfl] at z5K)
  (try rw [Addr.add_zero'] at z5K)
  (try rw [show ((0 : Int)).toNat = 0 from rfl] at z5L)
  (try rw [show 0 * 3 = 0 from rfl] at z5L)
  (try rw [Addr.add_zero'] at z5L)
  (try rw [show ((0 : Int)).toNat = 0 from rfl] at z5j)
  (try rw [show 0 * 3 = 0 from rfl] at z5j)
  (try rw [Addr.add_zero'] at z5j)
  replace z5K := zx HB z5K
  replace z5L := zx HB z5L
  replace z5j := zx HB z5j
  have w1F := z0a.mk y3C
  have w1G := z0a.mk y3B
  clear y3C y3B
  replace p282 := eq_true p282
  replace q282 := eq_true q282
  have p283 : 0 ≤ (0 : Int) := (by omega)
  have q283 : 0 < (l0_2.length : Int) := za
  obtain ⟨ad283, A283_2, c283_2, e283, y3D, y3E, y0P, x5x, x5y⟩ := z3e z3X.out 0 p283 q283
  obtain rfl : ad282 = ad283 := (by injection e283)
  have qi283 : (0 < l0_2.length) = True := eq_true (by omega)
  (try rw [show ((0 : Int)).toNat = 0 from rfl] at y3D)
  (try rw [show 0 * 3 = 0 from rfl] at y3D)
  (try rw [Addr.add_zero'] at y3D)
  (try rw [show ((0 : Int)).toNat = 0 from rfl] at y3E)
  (try rw [show 0 * 3 = 0 from rfl] at y3E)
  (try rw [Addr.add_zero'] at y3E)
  (try rw [show ((0 : Int)).toNat = 0 from rfl] at y0P)
  (try rw [show 0 * 3 = 0 from rfl] at y0P)
  (try rw [Addr.add_zero'] at y0P)
  replace y3D := zx HB y3D
  replace y3E := zx HB y3E
  replace y0P := zx HB y0P
  have HR283_2 := z0a.mk x5y
  have HC283_2 := z0a.mk x5x
  clear x5y x5x
  replace p283 := eq_true p283
  replace q283 := eq_true q283
  have ea_ := Option.some.inj (z5j.symm.trans y0P)
  injection ea_ with ea_ en_ ec_
  subst ea_
  subst ec_
  clear en_
  go_wp2
  go_meet
  case rel => exact ⟨_, (decide ((((z0s l0_2 0).f2).length : Int) > 0)), ze, H', ⟨zl⟩, ⟨zk⟩, ⟨zb⟩⟩
 case rest =>
  clear HC4
  try clear c3
  try clear c3b0
  try clear c3b1
  try clear z8a
  try clear z8b
  try clear y0c
  try clear z8c
  try clear z8d
  try clear y0d
  obtain ⟨kq, x38_3, rfl, HA, HJ3, z2k, HB⟩ := hcut
  cases kq with
  | zero => exact absurd HA.out (by simp [z0d.j0])
  | succ kj3 =>
   have H := HA.out
   clear HA
   simp only [z0d.j0] at H
   by_cases c16 : x38_3 = true
   ·subst c16
    have H1 : (some 270) = some r := by rw [if_pos rfl] at H; exact H
    clear H
    have H := H1
    clear H1
    obtain rfl := Option.some.inj H
    go_wp2
    go_ret
    exact ⟨zr, zb⟩
   replace c16 := Bool.eq_false_iff.mpr c16
   subst c16
   have H1 : (z0d.l0 kj3 0 l0_0 l0_1 l0_2) = some r := by rw [if_neg (show ¬ (false = true) by decide)] at H; exact H
   clear H
   have H := H1
   clear H1
   have H' := z0a.mk H
   clear H
   go_wp2
   go_loopg [3] kj3 (fun kq v3 w' => ∃ (x3_2 : Int), v3 = .int .i64 x3_2 ∧ z0a (z0d.l0 kq x3_2 l0_0 l0_1 l0_2 = some r) ∧ z0a (kq ≤ kj3) ∧ z0a (w'.heap[z6s]? = some (.cells #[(.slice z0U l0_0.length c0_0), (.slice z0X l0_1.length c0_1), (.slice z2c l0_2.length c0_2)] 28 (0, 0))) ∧ z0a (Below w.heap.size w w'))
   case atStart => exact ⟨(0), ze, H', ⟨Nat.le_refl _⟩, ⟨zk⟩, ⟨zb⟩⟩
   case round =>
    clear H'
    try clear c3
    try clear c3b0
    try clear c3b1
    try clear c16
    try clear z8a
    try clear z8b
    try clear y0c
    try clear z8c
    try clear z8d
    try clear y0d
    obtain ⟨x3_2, rfl, HA, HK2, z2k, HB⟩ := hrel
    cases gk with
    | zero => exact absurd HA.out (by simp [z0d.l0])
    | succ k2 =>
     have H := HA.out
     clear HA
     simp only [z0d.l0] at H
     by_cases c17 : x3_2 < (l0_2.length : Int)
     rotate_left
     ·rw [if_neg c17] at H
      have c17b0 : decide (x3_2 < (l0_2.length : Int)) = false := decide_eq_false c17
      clear c17
      have H' := z0a.mk H
      clear H
      obtain ⟨x5p, x5q, w1H, x5r, x5s, w1I⟩ := zc3 wr z2k.out
      go_wp2
      go_loopg [6] k2 (fun kq v6 w' => ∃ (x6_3 : Int), v6 = .int .i64 x6_3 ∧ z0a (z0d.l2 kq x6_3 l0_0 l0_1 l0_2 = some r) ∧ z0a (kq ≤ k2) ∧ z0a (w'.heap[z6s]? = some (.cells #[(.slice z0U l0_0.length c0_0), (.slice z0X l0_1.length c0_1), (.slice z2c l0_2.length c0_2)] 28 (0, 0))) ∧ z0a (Below w.heap.size w w'))
      case atStart => exact ⟨(0), ze, H', ⟨Nat.le_refl _⟩, ⟨zk⟩, ⟨zb⟩⟩
      case round =>
       clear H'
       try clear c3
       try clear c3b0
       try clear c3b1
       try clear c16
       try clear c17
       try clear c17b0
       try clear x5p
       try clear x5q
       try clear w1H
       try clear z8a
       try clear z8b
       try clear y0c
       try clear x5r
       try clear x5s
       try clear w1I
       try clear z8c
       try clear z8d
       try clear y0d
       obtain ⟨x6_3, rfl, HA, HK3, z2k, HB⟩ := hrel
       cases gk with
       | zero => exact absurd HA.out (by simp [z0d.l2])
       | succ k3 =>
        have H := HA.out
        clear HA
        simp only [z0d.l2] at H
        by_cases c44 : x6_3 < (l0_2.length : Int)
        rotate_left
        ·rw [if_neg c44] at H
         have c44b0 : decide (x6_3 < (l0_2.length : Int)) = false := decide_eq_false c44
         clear c44
         obtain rfl := Option.some.inj H
         obtain ⟨x5b, x5c, w1g, x5d, x5e, w1h⟩ := zc3 wr z2k.out
         go_wp2
         go_ret
         exact ⟨zr, zb⟩
        rw [if_pos c44] at H
        have c44b0 : decide (x6_3 < (l0_2.length : Int)) = true := decide_eq_true c44
        clear c44
        by_cases c45 : 0 ≤ x6_3
        rotate_left
        ·rw [if_neg c45] at H
         exact absurd H (by simp)
        rw [if_pos c45] at H
        have c45b0 : decide (0 ≤ x6_3) = true := decide_eq_true c45
        clear c45
        replace H := Option.bind_eq_some_iff.mp H
        obtain ⟨t289, A460, H⟩ := H
        replace H : (if t289 = 0 then (z0d.l2 k3 (wrap64 (x6_3 + 1)) l0_0 l0_1 l0_2) else (some t289)) = some r := H
        have A46 := z0a.mk A460
        clear A460
        by_cases c47 : t289 = 0
        rotate_left
        ·rw [if_neg c47] at H
         have c47b0 : (t289 == 0) = false := beq_eq_false_iff_ne.mpr c47
         have c47b1 : (t289 != 0) = true := bne_iff_ne.mpr c47
         obtain rfl := Option.some.inj H
         obtain ⟨y8h, y8i, y8j, y8k, y8l, y8m⟩ := zc3 wr z2k.out
         try go_wp2
         have n0_ := z0a.mk (z0e z2k.out)
         have n1_ := z0a.mk (z1l HB.out)
         clear z2k
         clear HB
         have z2k := n0_
         have HB := n1_
         clear n0_ n1_
         have p288 : 0 ≤ (x6_3 : Int) := za
         have q288 : x6_3 < (l0_2.length : Int) := za
         obtain ⟨ad288, y7s, c288_2, e288, z7F, z7G, z7H, y3F, y3G⟩ := z3e z3X.out x6_3 p288 q288
         have z7I := z7H
         have z7J := z7G
         have z7K := z7F
         cases e288
         replace z7F := zx HB z7F
         replace z7G := zx HB z7G
         replace z7H := zx HB z7H
         have y9L := z0a.mk y3G
         have y9M := z0a.mk y3F
         clear y3G y3F
         replace p288 := eq_true p288
         replace q288 := eq_true q288
         refine z6l (n := 10) (S := fun w' => w'.cell? ⟨z6s, 0, none⟩ = some (.slice z0U l0_0.length c0_0) ∧ w'.cell? ⟨z6s, 1, none⟩ = some (.slice z0X l0_1.length c0_1) ∧ w'.cell? ⟨z6s, 2, none⟩ = some (.slice (some ad288) l0_2.length c0_2) ∧ w'.cell? (ad288.add ((x6_3).toNat * 3)) = some (.string ((z0s l0_2 x6_3).f0)) ∧ w'.cell? ⟨(ad288.add ((x6_3).toNat * 3)).block, (ad288.add ((x6_3).toNat * 3)).off + 1, none⟩ = some (.int .i64 ((z0s l0_2 x6_3).f1)) ∧ w'.cell? ⟨(ad288.add ((x6_3).toNat * 3)).block, (ad288.add ((x6_3).toNat * 3)).off + 2, none⟩ = some (.slice y7s ((z0s l0_2 x6_3).f2).length c288_2)) (ds := []) #[false, false, false, false, false, false, false, false, false, false] (by kernel_rfl) rfl rfl ⟨(z0p z2k.out 0).trans rfl, (z0p z2k.out 1).trans rfl, (z0p z2k.out 2).trans rfl, ((HB.out.cell (World.block_lt_of_cell? w _ z7K)).trans z7K), ((HB.out.cell (World.block_lt_of_cell? w _ z7J)).trans z7J), ((HB.out.cell (World.block_lt_of_cell? w _ z7I)).trans z7I)⟩ (fun hHeld => ?_); refine z3I z0d.w3k z0d.x7T (fun HT_ HW_ => ?_)
         generalize wr.drew = w52 at z2k HB y9L z7F z7G z7H hHeld ⊢
         refine z1O (i := 0) (N := some 91) (v := ?_) (a' := ?_) #[true, false, false, false, false, false, false, false, false, false] rfl rfl (z1s HT_.out (by kernel_rfl)) (fun _ _ _ h => h) (Or.inl ⟨by rfl, ?_⟩) ?_ ?_
         rotate_left
         ·intro w'
          go_simp
          with_reducible rfl
         rotate_left
         ·simp only [Act.put, List.setIfInBounds_toArray, List.set_cons_zero, List.set_cons_succ, z0V, z0W]
          rfl
         refine z1O (i := 2) (N := some 93) (v := ?_) (a' := ?_) #[true, false, true, false, false, false, false, false, false, false] rfl rfl (z1s HT_.out (by kernel_rfl)) (fun _ _ _ h => h) (Or.inl ⟨by rfl, ?_⟩) ?_ ?_
         rotate_left
         ·intro w'
          go_simp
          with_reducible rfl
         rotate_left
         ·simp only [Act.put, List.setIfInBounds_toArray, List.set_cons_zero, List.set_cons_succ, z0V, z0W]
          rfl
         refine z1O (i := 4) (N := some 95) (v := ?_) (a' := ?_) #[true, false, true, false, true, false, false, false, false, false] rfl rfl (z1s HT_.out (by kernel_rfl)) (fun _ _ _ h => h) (Or.inl ⟨by rfl, ?_⟩) ?_ ?_
         rotate_left
         ·intro w'
          go_simp
          with_reducible rfl
         rotate_left
         ·simp only [Act.put, List.setIfInBounds_toArray, List.set_cons_zero, List.set_cons_succ, z0V, z0W]
          rfl
         refine z2R (i := 1) (N := some 92) (v := ?_) (a' := ?_) #[true, true, true, false, true, false, false, false, false, false] rfl rfl (z1D HT_.out HW_.out (by kernel_rfl)) (fun _ _ _ h => h) (Or.inl ⟨by rfl, ?_⟩) hHeld ?_ ?_
         rotate_left
         ·rintro w' ⟨s0, s1, s2, s3, s4, s5⟩
          go_simp
          with_reducible rfl
         rotate_left
         ·simp only [Act.put, List.setIfInBounds_toArray, List.set_cons_zero, List.set_cons_succ, z0V, z0W]
          rfl
         refine z2R (i := 3) (N := some 94) (v := ?_) (a' := ?_) #[true, true, true, true, true, false, false, false, false, false] rfl rfl (z1D HT_.out HW_.out (by kernel_rfl)) (fun _ _ _ h => h) (Or.inl ⟨by rfl, ?_⟩) hHeld ?_ ?_
         rotate_left
         ·rintro w' ⟨s0, s1, s2, s3, s4, s5⟩
          go_simp
          with_reducible rfl
         rotate_left
         ·simp only [Act.put, List.setIfInBounds_toArray, List.set_cons_zero, List.set_cons_succ, z0V, z0W]
          rfl
         refine z1O (i := 5) (N := some 96) (v := ?_) (a' := ?_) #[true, true, true, true, true, true, false, false, false, false] rfl rfl (z1s HT_.out (by kernel_rfl)) (fun _ _ _ h => h) (Or.inl ⟨by rfl, ?_⟩) ?_ ?_
         rotate_left
         ·intro w'
          go_simp
          with_reducible rfl
         rotate_left
         ·simp only [Act.put, List.setIfInBounds_toArray, List.set_cons_zero, List.set_cons_succ, z0V, z0W]
          rfl
         refine z1O (i := 6) (N := some 97) (v := ?_) (a' := ?_) #[true, true, true, true, true, true, true, false, false, false] rfl rfl (z1s HT_.out (by kernel_rfl)) (fun _ _ _ h => h) (Or.inl ⟨by rfl, ?_⟩) ?_ ?_
         rotate_left
         ·intro w'
          go_simp
          with_reducible rfl
         rotate_left
         ·simp only [Act.put, List.setIfInBounds_toArray, List.set_cons_zero, List.set_cons_succ, z0V, z0W]
          rfl
         refine z2R (i := 7) (N := some 98) (v := ?_) (a' := ?_) #[true, true, true, true, true, true, true, true, false, false] rfl rfl (z1D HT_.out HW_.out (by kernel_rfl)) (fun _ _ _ h => h) (Or.inl ⟨by rfl, ?_⟩) hHeld ?_ ?_
         rotate_left
         ·rintro w' ⟨s0, s1, s2, s3, s4, s5⟩
          go_simp
          with_reducible rfl
         rotate_left
         ·simp only [Act.put, List.setIfInBounds_toArray, List.set_cons_zero, List.set_cons_succ, z0V, z0W]
          rfl
         refine x6C (i := 8) (N := some 99) #[true, true, true, true, true, true, true, true, true, false] rfl rfl (z8Z HT_.out (by kernel_rfl)) (by decide) (fun K hK => ?_)
         refine y4W Tryz.func83 (by kernel_rfl) rfl #[.agg #[.slice z0U l0_0.length c0_0, .slice z0X l0_1.length c0_1], .slice y7s ((z0s l0_2 x6_3).f2).length c288_2] (by rfl) rfl rfl zq ?_
         with_reducible refine (z0H.calls k3 _ _ l0_0 _ _ l0_1 _ _ ((z0s l0_2 x6_3).f2) t289 _ ?z0M ?z4Y ?z0Q ?z6g ?z1z ?z6O A46.out).mono ?_
         (case z0M => exact zs)
         (case z4Y => exact z1g.out)
         (case z0Q => exact zs)
         (case z6g => exact z1j.out)
         (case z1z => exact zs)
         (case z6O => exact y9M.out)
         rintro e w53 ⟨rfl, hb⟩
         refine ⟨_, rfl, ?_⟩
         have n0_ := z0a.mk (z0O (g := z6s) (o := .cells #[.slice z0U l0_0.length c0_0, .slice z0X l0_1.length c0_1, .slice (some ad288) l0_2.length c0_2] 28 (0, 0)) zk hb)
         have n1_ := z0a.mk (z2X zb hb)
         clear z2k
         clear HB
         have z2k := n0_
         have HB := n1_
         clear n0_ n1_
         (try clear hb)
         (try clear hb2)
         (try clear hk)
         (try clear hi)
         refine hK.out _ _ ⟨(z0p z2k.out 0).trans rfl, (z0p z2k.out 1).trans rfl, (z0p z2k.out 2).trans rfl, ((HB.out.cell (World.block_lt_of_cell? w _ z7K)).trans z7K), ((HB.out.cell (World.block_lt_of_cell? w _ z7J)).trans z7J), ((HB.out.cell (World.block_lt_of_cell? w _ z7I)).trans z7I)⟩ (fun hHeld => ?_)
         clear hK K
         refine y4g (a' := ?_) ?_ ?_
         rotate_left
         ·show Act.put _ (some 99) _ = _
          simp only [Act.put, List.setIfInBounds_toArray, List.set_cons_zero, List.set_cons_succ, z0V, z0W]
          rfl
         refine z1O (i := 9) (N := some 7) (v := ?_) (a' := ?_) #[true, true, true, true, true, true, true, true, true, true] rfl rfl (z1s HT_.out (by kernel_rfl)) (fun _ _ _ h => h) (Or.inl ⟨by rfl, ?_⟩) ?_ ?_
         rotate_left
         ·intro w'
          go_simp
          with_reducible rfl
         rotate_left
         ·simp only [Act.put, List.setIfInBounds_toArray, List.set_cons_zero, List.set_cons_succ, z0V, z0W]
          rfl
         refine y0q (z5u HT_.out (by kernel_rfl)) ?_
         try go_wp2
         go_ret
         exact ⟨zr, zb⟩
        rw [if_pos c47] at H
        have c47b0 : (t289 == 0) = true := beq_iff_eq.mpr c47
        have c47b1 : (t289 != 0) = false := bne_eq_false_iff_eq.mpr c47
        clear c47
        have H' := z0a.mk H
        clear H
        obtain ⟨x4S, x4T, x4U, x4V, x4W, x4X⟩ := zc3 wr z2k.out
        try go_wp2
        have n0_ := z0a.mk (z0e z2k.out)
        have n1_ := z0a.mk (z1l HB.out)
        clear z2k
        clear HB
        have z2k := n0_
        have HB := n1_
        clear n0_ n1_
        have p288 : 0 ≤ (x6_3 : Int) := za
        have q288 : x6_3 < (l0_2.length : Int) := za
        obtain ⟨ad288, y7s, c288_2, e288, z7F, z7G, z7H, y3F, y3G⟩ := z3e z3X.out x6_3 p288 q288
        have z7I := z7H
        have z7J := z7G
        have z7K := z7F
        cases e288
        replace z7F := zx HB z7F
        replace z7G := zx HB z7G
        replace z7H := zx HB z7H
        have y9L := z0a.mk y3G
        have y9M := z0a.mk y3F
        clear y3G y3F
        replace p288 := eq_true p288
        replace q288 := eq_true q288
        refine z6l (n := 10) (S := fun w' => w'.cell? ⟨z6s, 0, none⟩ = some (.slice z0U l0_0.length c0_0) ∧ w'.cell? ⟨z6s, 1, none⟩ = some (.slice z0X l0_1.length c0_1) ∧ w'.cell? ⟨z6s, 2, none⟩ = some (.slice (some ad288) l0_2.length c0_2) ∧ w'.cell? (ad288.add ((x6_3).toNat * 3)) = some (.string ((z0s l0_2 x6_3).f0)) ∧ w'.cell? ⟨(ad288.add ((x6_3).toNat * 3)).block, (ad288.add ((x6_3).toNat * 3)).off + 1, none⟩ = some (.int .i64 ((z0s l0_2 x6_3).f1)) ∧ w'.cell? ⟨(ad288.add ((x6_3).toNat * 3)).block, (ad288.add ((x6_3).toNat * 3)).off + 2, none⟩ = some (.slice y7s ((z0s l0_2 x6_3).f2).length c288_2)) (ds := []) #[false, false, false, false, false, false, false, false, false, false] (by kernel_rfl) rfl rfl ⟨(z0p z2k.out 0).trans rfl, (z0p z2k.out 1).trans rfl, (z0p z2k.out 2).trans rfl, ((HB.out.cell (World.block_lt_of_cell? w _ z7K)).trans z7K), ((HB.out.cell (World.block_lt_of_cell? w _ z7J)).trans z7J), ((HB.out.cell (World.block_lt_of_cell? w _ z7I)).trans z7I)⟩ (fun hHeld => ?_); refine z3I z0d.w3k z0d.x7T (fun HT_ HW_ => ?_)
        generalize wr.drew = w49 at z2k HB y9L z7F z7G z7H hHeld ⊢
        refine z1O (i := 0) (N := some 91) (v := ?_) (a' := ?_) #[true, false, false, false, false, false, false, false, false, false] rfl rfl (z1s HT_.out (by kernel_rfl)) (fun _ _ _ h => h) (Or.inl ⟨by rfl, ?_⟩) ?_ ?_
        rotate_left
        ·intro w'
         go_simp
         with_reducible rfl
        rotate_left
        ·simp only [Act.put, List.setIfInBounds_toArray, List.set_cons_zero, List.set_cons_succ, z0V, z0W]
         rfl
        refine z1O (i := 2) (N := some 93) (v := ?_) (a' := ?_) #[true, false, true, false, false, false, false, false, false, false] rfl rfl (z1s HT_.out (by kernel_rfl)) (fun _ _ _ h => h) (Or.inl ⟨by rfl, ?_⟩) ?_ ?_
        rotate_left
        ·intro w'
         go_simp
         with_reducible rfl
        rotate_left
        ·simp only [Act.put, List.setIfInBounds_toArray, List.set_cons_zero, List.set_cons_succ, z0V, z0W]
         rfl
        refine z1O (i := 4) (N := some 95) (v := ?_) (a' := ?_) #[true, false, true, false, true, false, false, false, false, false] rfl rfl (z1s HT_.out (by kernel_rfl)) (fun _ _ _ h => h) (Or.inl ⟨by rfl, ?_⟩) ?_ ?_
        rotate_left
        ·intro w'
         go_simp
         with_reducible rfl
        rotate_left
        ·simp only [Act.put, List.setIfInBounds_toArray, List.set_cons_zero, List.set_cons_succ, z0V, z0W]
         rfl
        refine z2R (i := 1) (N := some 92) (v := ?_) (a' := ?_) #[true, true, true, false, true, false, false, false, false, false] rfl rfl (z1D HT_.out HW_.out (by kernel_rfl)) (fun _ _ _ h => h) (Or.inl ⟨by rfl, ?_⟩) hHeld ?_ ?_
        rotate_left
        ·rintro w' ⟨s0, s1, s2, s3, s4, s5⟩
         go_simp
         with_reducible rfl
        rotate_left
        ·simp only [Act.put, List.setIfInBounds_toArray, List.set_cons_zero, List.set_cons_succ, z0V, z0W]
         rfl
        refine z2R (i := 3) (N := some 94) (v := ?_) (a' := ?_) #[true, true, true, true, true, false, false, false, false, false] rfl rfl (z1D HT_.out HW_.out (by kernel_rfl)) (fun _ _ _ h => h) (Or.inl ⟨by rfl, ?_⟩) hHeld ?_ ?_
        rotate_left
        ·rintro w' ⟨s0, s1, s2, s3, s4, s5⟩
         go_simp
         with_reducible rfl
        rotate_left
        ·simp only [Act.put, List.setIfInBounds_toArray, List.set_cons_zero, List.set_cons_succ, z0V, z0W]
         rfl
        refine z1O (i := 5) (N := some 96) (v := ?_) (a' := ?_) #[true, true, true, true, true, true, false, false, false, false] rfl rfl (z1s HT_.out (by kernel_rfl)) (fun _ _ _ h => h) (Or.inl ⟨by rfl, ?_⟩) ?_ ?_
        rotate_left
        ·intro w'
         go_simp
         with_reducible rfl
        rotate_left
        ·simp only [Act.put, List.setIfInBounds_toArray, List.set_cons_zero, List.set_cons_succ, z0V, z0W]
         rfl
        refine z1O (i := 6) (N := some 97) (v := ?_) (a' := ?_) #[true, true, true, true, true, true, true, false, false, false] rfl rfl (z1s HT_.out (by kernel_rfl)) (fun _ _ _ h => h) (Or.inl ⟨by rfl, ?_⟩) ?_ ?_
        rotate_left
        ·intro w'
         go_simp
         with_reducible rfl
        rotate_left
        ·simp only [Act.put, List.setIfInBounds_toArray, List.set_cons_zero, List.set_cons_succ, z0V, z0W]
         rfl
        refine z2R (i := 7) (N := some 98) (v := ?_) (a' := ?_) #[true, true, true, true, true, true, true, true, false, false] rfl rfl (z1D HT_.out HW_.out (by kernel_rfl)) (fun _ _ _ h => h) (Or.inl ⟨by rfl, ?_⟩) hHeld ?_ ?_
        rotate_left
        ·rintro w' ⟨s0, s1, s2, s3, s4, s5⟩
         go_simp
         with_reducible rfl
        rotate_left
        ·simp only [Act.put, List.setIfInBounds_toArray, List.set_cons_zero, List.set_cons_succ, z0V, z0W]
         rfl
        refine x6C (i := 8) (N := some 99) #[true, true, true, true, true, true, true, true, true, false] rfl rfl (z8Z HT_.out (by kernel_rfl)) (by decide) (fun K hK => ?_)
        refine y4W Tryz.func83 (by kernel_rfl) rfl #[.agg #[.slice z0U l0_0.length c0_0, .slice z0X l0_1.length c0_1], .slice y7s ((z0s l0_2 x6_3).f2).length c288_2] (by rfl) rfl rfl zq ?_
        with_reducible refine (z0H.calls k3 _ _ l0_0 _ _ l0_1 _ _ ((z0s l0_2 x6_3).f2) t289 _ ?z0M ?z4Y ?z0Q ?z6g ?z1z ?z6O A46.out).mono ?_
        (case z0M => exact zs)
        (case z4Y => exact z1g.out)
        (case z0Q => exact zs)
        (case z6g => exact z1j.out)
        (case z1z => exact zs)
        (case z6O => exact y9M.out)
        rintro e w50 ⟨rfl, hb⟩
        refine ⟨_, rfl, ?_⟩
        have n0_ := z0a.mk (z0O (g := z6s) (o := .cells #[.slice z0U l0_0.length c0_0, .slice z0X l0_1.length c0_1, .slice (some ad288) l0_2.length c0_2] 28 (0, 0)) zk hb)
        have n1_ := z0a.mk (z2X zb hb)
        clear z2k
        clear HB
        have z2k := n0_
        have HB := n1_
        clear n0_ n1_
        (try clear hb)
        (try clear hb2)
        (try clear hk)
        (try clear hi)
        refine hK.out _ _ ⟨(z0p z2k.out 0).trans rfl, (z0p z2k.out 1).trans rfl, (z0p z2k.out 2).trans rfl, ((HB.out.cell (World.block_lt_of_cell? w _ z7K)).trans z7K), ((HB.out.cell (World.block_lt_of_cell? w _ z7J)).trans z7J), ((HB.out.cell (World.block_lt_of_cell? w _ z7I)).trans z7I)⟩ (fun hHeld => ?_)
        clear hK K
        refine y4g (a' := ?_) ?_ ?_
        rotate_left
        ·show Act.put _ (some 99) _ = _
         simp only [Act.put, List.setIfInBounds_toArray, List.set_cons_zero, List.set_cons_succ, z0V, z0W]
         rfl
        refine z1O (i := 9) (N := some 7) (v := ?_) (a' := ?_) #[true, true, true, true, true, true, true, true, true, true] rfl rfl (z1s HT_.out (by kernel_rfl)) (fun _ _ _ h => h) (Or.inl ⟨by rfl, ?_⟩) ?_ ?_
        rotate_left
        ·intro w'
         go_simp
         with_reducible rfl
        rotate_left
        ·simp only [Act.put, List.setIfInBounds_toArray, List.set_cons_zero, List.set_cons_succ, z0V, z0W]
         rfl
        refine y0q (z5u HT_.out (by kernel_rfl)) ?_
        try go_wp2
        go_roundg k3
        case measure => have := HJ3.out; have := HK2.out; have := HK3.out; omega
        case rel => exact ⟨(wrap64 (x6_3 + 1)), ze, H', ⟨by have := HJ3.out; have := HK2.out; have := HK3.out; omega⟩, ⟨zk⟩, ⟨zb⟩⟩
     rw [if_pos c17] at H
     have c17b0 : decide (x3_2 < (l0_2.length : Int)) = true := decide_eq_true c17
     clear c17
     by_cases c18 : 0 ≤ x3_2
     rotate_left
     ·rw [if_neg c18] at H
      exact absurd H (by simp)
     rw [if_pos c18] at H
     have c18b0 : decide (0 ≤ x3_2) = true := decide_eq_true c18
     clear c18
     have HC19 := z0a.mk H
     clear H
     obtain ⟨z5x, z6a, y2f, z5y, z6b, y2g⟩ := zc3 wr z2k.out
     have p284 : 0 ≤ (x3_2 : Int) := za
     have q284 : x3_2 < (l0_2.length : Int) := za
     obtain ⟨ad284, x0I, c284_2, e284, y6i, y6j, y6k, x5z, x5A⟩ := z3e z3X.out x3_2 p284 q284
     cases e284
     replace y6i := zx HB y6i
     replace y6j := zx HB y6j
     replace y6k := zx HB y6k
     have HR284_2 := z0a.mk x5A
     have HC284_2 := z0a.mk x5z
     clear x5A x5z
     replace p284 := eq_true p284
     replace q284 := eq_true q284
     go_upto_region 9 with (first | ((with_reducible refine z0o (N := 4) rfl ?_); refine zo (cs := #[.string (⟨#[]⟩ : ByteArray), .int .i64 0, .slice none 0 0]) (t := 81) ?_; intro y7t hg w21 hbox hb; have z5k := z0a.mk hbox; have GW285 := zG HB hg; have GE285 := zG HB hg; have z2L := zN z2k hg; have z8I := zM z2k hg; replace z2k := zK z2k hb; replace HB := zB HB hb; clear hb hbox hg; have hnb22 := z8I.out; have hnc22 := z2L.out; obtain ⟨y9v, y9w, y9x, y9y, y9z, y9A⟩ := zc3 w21 z5k.out))
     (try simp only [Act.put, List.setIfInBounds_toArray, List.set_cons_zero, List.set_cons_succ])
     go_cut [69] (fun v69 wc => ∃ (kq : Nat) (x69_18 : Bool), v69 = .bool x69_18 ∧ z0a (z0d.j2 kq x3_2 x69_18 l0_0 l0_1 l0_2 ((z0s l0_2 x3_2).f0) ((z0s l0_2 x3_2).f1) ((z0s l0_2 x3_2).f2) = some r) ∧ z0a (kq ≤ k2) ∧ z0a (wc.heap[z6s]? = some (.cells #[(.slice z0U l0_0.length c0_0), (.slice z0X l0_1.length c0_1), (.slice (some ad284) l0_2.length c0_2)] 28 (0, 0))) ∧ z0a (wc.heap[y7t]? = some (.cells #[.string ((z0s l0_2 x3_2).f0), .int .i64 ((z0s l0_2 x3_2).f1), (.slice x0I ((z0s l0_2 x3_2).f2).length c284_2)] 81 (0, 0))) ∧ z0a (Below w.heap.size w wc))
     case first =>
      have H := HC19.out
      clear HC19
      replace H := Option.bind_eq_some_iff.mp H
      obtain ⟨t286, A240, H⟩ := H
      replace H : (if t286 = true then (if x3_2 > 0 then (if ((z0s l0_2 x3_2).f1) < 0 then (z0d.j2 k2 x3_2 true l0_0 l0_1 l0_2 ((z0s l0_2 x3_2).f0) ((z0s l0_2 x3_2).f1) ((z0s l0_2 x3_2).f2)) else (z0d.j2 k2 x3_2 (decide (((z0s l0_2 x3_2).f1) ≥ x3_2)) l0_0 l0_1 l0_2 ((z0s l0_2 x3_2).f0) ((z0s l0_2 x3_2).f1) ((z0s l0_2 x3_2).f2))) else (z0d.j2 k2 x3_2 false l0_0 l0_1 l0_2 ((z0s l0_2 x3_2).f0) ((z0s l0_2 x3_2).f1) ((z0s l0_2 x3_2).f2))) else (z0d.j2 k2 x3_2 true l0_0 l0_1 l0_2 ((z0s l0_2 x3_2).f0) ((z0s l0_2 x3_2).f1) ((z0s l0_2 x3_2).f2))) = some r := H
      have A24 := z0a.mk A240
      clear A240
      by_cases c25 : t286 = true
      rotate_left
      ·replace c25 := Bool.eq_false_iff.mpr c25
       subst c25
       have H1 : (z0d.j2 k2 x3_2 true l0_0 l0_1 l0_2 ((z0s l0_2 x3_2).f0) ((z0s l0_2 x3_2).f1) ((z0s l0_2 x3_2).f2)) = some r := by rw [if_neg (show ¬ (false = true) by decide)] at H; exact H
       clear H
       have H := H1
       clear H1
       have H' := z0a.mk H
       clear H
       have hnb34 := z8I.out
       have hnc34 := z2L.out
       obtain ⟨y0G, y0H, w0U, y0I, y0J, w0V⟩ := zc3 w21 z5k.out
       go_wp2_with (first | ((with_reducible refine z0m (f := 82) rfl ?_); refine z1a (some 53) rfl rfl Tryz.func82 (by kernel_rfl) rfl #[.string ((z0s l0_2 x3_2).f0)] rfl zq ?_; (with_reducible refine (z0x.calls k2 ((z0s l0_2 x3_2).f0) false _ A24.out).mono ?_); rintro e w' ⟨rfl, ⟨nd, rfl⟩⟩; refine ⟨_, rfl, ?_⟩))
       go_meet
       case rel => exact ⟨_, (true), ze, H', ⟨by have := HJ3.out; have := HK2.out; first | omega | exact Nat.le_refl _⟩, ⟨by (with_reducible repeat (first | refine z0c ?_ _ | refine z0e ?_ | refine z0b ?_ _)); refine z0n ?_ z2L.out _; (with_reducible repeat (first | refine z0c ?_ _ | refine z0e ?_ | refine z0b ?_ _)); refine z0n ?_ z2L.out _; (with_reducible repeat (first | refine z0c ?_ _ | refine z0e ?_ | refine z0b ?_ _)); refine z0n ?_ z2L.out _; (with_reducible repeat (first | refine z0c ?_ _ | refine z0e ?_ | refine z0b ?_ _)); exact z2k.out⟩, ⟨by (with_reducible repeat (first | refine z0c ?_ _ | refine z0e ?_ | refine z0b ?_ _)); refine z0N (cs := #[.string ((z0s l0_2 x3_2).f0), .int .i64 ((z0s l0_2 x3_2).f1), .slice none 0 0]) ?_ 2 _ rfl; (with_reducible repeat (first | refine z0c ?_ _ | refine z0e ?_ | refine z0b ?_ _)); refine z0N (cs := #[.string ((z0s l0_2 x3_2).f0), .int .i64 0, .slice none 0 0]) ?_ 1 _ rfl; (with_reducible repeat (first | refine z0c ?_ _ | refine z0e ?_ | refine z0b ?_ _)); refine z0N (cs := #[.string (⟨#[]⟩ : ByteArray), .int .i64 0, .slice none 0 0]) ?_ 0 _ rfl; (with_reducible repeat (first | refine z0c ?_ _ | refine z0e ?_ | refine z0b ?_ _)); exact z5k.out⟩, ⟨zb⟩⟩
      subst c25
      have H1 : (if x3_2 > 0 then (if ((z0s l0_2 x3_2).f1) < 0 then (z0d.j2 k2 x3_2 true l0_0 l0_1 l0_2 ((z0s l0_2 x3_2).f0) ((z0s l0_2 x3_2).f1) ((z0s l0_2 x3_2).f2)) else (z0d.j2 k2 x3_2 (decide (((z0s l0_2 x3_2).f1) ≥ x3_2)) l0_0 l0_1 l0_2 ((z0s l0_2 x3_2).f0) ((z0s l0_2 x3_2).f1) ((z0s l0_2 x3_2).f2))) else (z0d.j2 k2 x3_2 false l0_0 l0_1 l0_2 ((z0s l0_2 x3_2).f0) ((z0s l0_2 x3_2).f1) ((z0s l0_2 x3_2).f2))) = some r := by rw [if_pos rfl] at H; exact H
      clear H
      have H := H1
      clear H1
      by_cases c26 : x3_2 > 0
      rotate_left
      ·rw [if_neg c26] at H
       have c26b0 : decide (0 < x3_2) = false := decide_eq_false c26
       clear c26
       (first | rw [c26b0] | (simp only [z0V, z0W]; rw [c26b0]) | skip)
       have H' := z0a.mk H
       clear H
       have hnb32 := z8I.out
       have hnc32 := z2L.out
       obtain ⟨y7T, y7U, y7V, y7W, y7X, y7Y⟩ := zc3 w21 z5k.out
       go_wp2_with (first | ((with_reducible refine z0m (f := 82) rfl ?_); refine z1a (some 53) rfl rfl Tryz.func82 (by kernel_rfl) rfl #[.string ((z0s l0_2 x3_2).f0)] rfl zq ?_; (with_reducible refine (z0x.calls k2 ((z0s l0_2 x3_2).f0) true _ A24.out).mono ?_); rintro e w' ⟨rfl, ⟨nd, rfl⟩⟩; refine ⟨_, rfl, ?_⟩))
       go_meet
       case rel => exact ⟨_, (false), ze, H', ⟨by have := HJ3.out; have := HK2.out; first | omega | exact Nat.le_refl _⟩, ⟨by (with_reducible repeat (first | refine z0c ?_ _ | refine z0e ?_ | refine z0b ?_ _)); refine z0n ?_ z2L.out _; (with_reducible repeat (first | refine z0c ?_ _ | refine z0e ?_ | refine z0b ?_ _)); refine z0n ?_ z2L.out _; (with_reducible repeat (first | refine z0c ?_ _ | refine z0e ?_ | refine z0b ?_ _)); refine z0n ?_ z2L.out _; (with_reducible repeat (first | refine z0c ?_ _ | refine z0e ?_ | refine z0b ?_ _)); exact z2k.out⟩, ⟨by (with_reducible repeat (first | refine z0c ?_ _ | refine z0e ?_ | refine z0b ?_ _)); refine z0N (cs := #[.string ((z0s l0_2 x3_2).f0), .int .i64 ((z0s l0_2 x3_2).f1), .slice none 0 0]) ?_ 2 _ rfl; (with_reducible repeat (first | refine z0c ?_ _ | refine z0e ?_ | refine z0b ?_ _)); refine z0N (cs := #[.string ((z0s l0_2 x3_2).f0), .int .i64 0, .slice none 0 0]) ?_ 1 _ rfl; (with_reducible repeat (first | refine z0c ?_ _ | refine z0e ?_ | refine z0b ?_ _)); refine z0N (cs := #[.string (⟨#[]⟩ : ByteArray), .int .i64 0, .slice none 0 0]) ?_ 0 _ rfl; (with_reducible repeat (first | refine z0c ?_ _ | refine z0e ?_ | refine z0b ?_ _)); exact z5k.out⟩, ⟨zb⟩⟩
      rw [if_pos c26] at H
      have c26b0 : decide (0 < x3_2) = true := decide_eq_true c26
      clear c26
      (first | rw [c26b0] | (simp only [z0V, z0W]; rw [c26b0]) | skip)
      by_cases c27 : ((z0s l0_2 x3_2).f1) < 0
      ·rw [if_pos c27] at H
       have c27b0 : decide (((z0s l0_2 x3_2).f1) < 0) = true := decide_eq_true c27
       clear c27
       have H' := z0a.mk H
       clear H
       have hnb28 := z8I.out
       have hnc28 := z2L.out
       obtain ⟨z9t, z9u, z9v, z9w, z9x, z9y⟩ := zc3 w21 z5k.out
       go_wp2_with (first | ((with_reducible refine z0m (f := 82) rfl ?_); refine z1a (some 53) rfl rfl Tryz.func82 (by kernel_rfl) rfl #[.string ((z0s l0_2 x3_2).f0)] rfl zq ?_; (with_reducible refine (z0x.calls k2 ((z0s l0_2 x3_2).f0) true _ A24.out).mono ?_); rintro e w' ⟨rfl, ⟨nd, rfl⟩⟩; refine ⟨_, rfl, ?_⟩))
       go_meet
       case rel => exact ⟨_, (true), ze, H', ⟨by have := HJ3.out; have := HK2.out; first | omega | exact Nat.le_refl _⟩, ⟨by (with_reducible repeat (first | refine z0c ?_ _ | refine z0e ?_ | refine z0b ?_ _)); refine z0n ?_ z2L.out _; (with_reducible repeat (first | refine z0c ?_ _ | refine z0e ?_ | refine z0b ?_ _)); refine z0n ?_ z2L.out _; (with_reducible repeat (first | refine z0c ?_ _ | refine z0e ?_ | refine z0b ?_ _)); refine z0n ?_ z2L.out _; (with_reducible repeat (first | refine z0c ?_ _ | refine z0e ?_ | refine z0b ?_ _)); exact z2k.out⟩, ⟨by (with_reducible repeat (first | refine z0c ?_ _ | refine z0e ?_ | refine z0b ?_ _)); refine z0N (cs := #[.string ((z0s l0_2 x3_2).f0), .int .i64 ((z0s l0_2 x3_2).f1), .slice none 0 0]) ?_ 2 _ rfl; (with_reducible repeat (first | refine z0c ?_ _ | refine z0e ?_ | refine z0b ?_ _)); refine z0N (cs := #[.string ((z0s l0_2 x3_2).f0), .int .i64 0, .slice none 0 0]) ?_ 1 _ rfl; (with_reducible repeat (first | refine z0c ?_ _ | refine z0e ?_ | refine z0b ?_ _)); refine z0N (cs := #[.string (⟨#[]⟩ : ByteArray), .int .i64 0, .slice none 0 0]) ?_ 0 _ rfl; (with_reducible repeat (first | refine z0c ?_ _ | refine z0e ?_ | refine z0b ?_ _)); exact z5k.out⟩, ⟨zb⟩⟩
      rw [if_neg c27] at H
      have c27b0 : decide (((z0s l0_2 x3_2).f1) < 0) = false := decide_eq_false c27
      clear c27
      have H' := z0a.mk H
      clear H
      have hnb30 := z8I.out
      have hnc30 := z2L.out
      obtain ⟨w1l, w1m, w1n, w1o, w1p, w1q⟩ := zc3 w21 z5k.out
      go_wp2_with (first | ((with_reducible refine z0m (f := 82) rfl ?_); refine z1a (some 53) rfl rfl Tryz.func82 (by kernel_rfl) rfl #[.string ((z0s l0_2 x3_2).f0)] rfl zq ?_; (with_reducible refine (z0x.calls k2 ((z0s l0_2 x3_2).f0) true _ A24.out).mono ?_); rintro e w' ⟨rfl, ⟨nd, rfl⟩⟩; refine ⟨_, rfl, ?_⟩))
      go_meet
      case rel => exact ⟨_, (decide (((z0s l0_2 x3_2).f1) ≥ x3_2)), ze, H', ⟨by have := HJ3.out; have := HK2.out; first | omega | exact Nat.le_refl _⟩, ⟨by (with_reducible repeat (first | refine z0c ?_ _ | refine z0e ?_ | refine z0b ?_ _)); refine z0n ?_ z2L.out _; (with_reducible repeat (first | refine z0c ?_ _ | refine z0e ?_ | refine z0b ?_ _)); refine z0n ?_ z2L.out _; (with_reducible repeat (first | refine z0c ?_ _ | refine z0e ?_ | refine z0b ?_ _)); refine z0n ?_ z2L.out _; (with_reducible repeat (first | refine z0c ?_ _ | refine z0e ?_ | refine z0b ?_ _)); exact z2k.out⟩, ⟨by (with_reducible repeat (first | refine z0c ?_ _ | refine z0e ?_ | refine z0b ?_ _)); refine z0N (cs := #[.string ((z0s l0_2 x3_2).f0), .int .i64 ((z0s l0_2 x3_2).f1), .slice none 0 0]) ?_ 2 _ rfl; (with_reducible repeat (first | refine z0c ?_ _ | refine z0e ?_ | refine z0b ?_ _)); refine z0N (cs := #[.string ((z0s l0_2 x3_2).f0), .int .i64 0, .slice none 0 0]) ?_ 1 _ rfl; (with_reducible repeat (first | refine z0c ?_ _ | refine z0e ?_ | refine z0b ?_ _)); refine z0N (cs := #[.string (⟨#[]⟩ : ByteArray), .int .i64 0, .slice none 0 0]) ?_ 0 _ rfl; (with_reducible repeat (first | refine z0c ?_ _ | refine z0e ?_ | refine z0b ?_ _)); exact z5k.out⟩, ⟨zb⟩⟩
     case rest =>
      clear HC19
      try clear c3
      try clear c3b0
      try clear c3b1
      try clear c16
      try clear c17
      try clear c17b0
      try clear c18
      try clear c18b0
      try clear z5x
      try clear z6a
      try clear y2f
      try clear y9v
      try clear y9w
      try clear y9x
      try clear z8a
      try clear z8b
      try clear y0c
      try clear z5y
      try clear z6b
      try clear y2g
      try clear y9y
      try clear y9z
      try clear y9A
      try clear z8c
      try clear z8d
      try clear y0d
      try clear y6i
      try clear y6j
      try clear y6k
      try clear p284
      try clear q284
      obtain ⟨kq, x69_18, rfl, HA, HJ18, z2k, z5k, HB⟩ := hcut
      cases kq with
      | zero => exact absurd HA.out (by simp [z0d.j2])
      | succ kj18 =>
       have H := HA.out
       clear HA
       simp only [z0d.j2] at H
       by_cases c36 : x69_18 = true
       ·subst c36
        have H1 : (some 270) = some r := by rw [if_pos rfl] at H; exact H
        clear H
        have H := H1
        clear H1
        obtain rfl := Option.some.inj H
        go_wp2
        go_ret
        exact ⟨zr, zb⟩
       replace c36 := Bool.eq_false_iff.mpr c36
       subst c36
       have H1 : (z0d.l1 kj18 x3_2 0 l0_0 l0_1 l0_2 ((z0s l0_2 x3_2).f0) ((z0s l0_2 x3_2).f1) ((z0s l0_2 x3_2).f2)) = some r := by rw [if_neg (show ¬ (false = true) by decide)] at H; exact H
       clear H
       have H := H1
       clear H1
       have H' := z0a.mk H
       clear H
       go_wp2
       go_loopg [5] kj18 (fun kq v5 w' => ∃ (x5_4 : Int), v5 = .int .i64 x5_4 ∧ z0a (z0d.l1 kq x3_2 x5_4 l0_0 l0_1 l0_2 ((z0s l0_2 x3_2).f0) ((z0s l0_2 x3_2).f1) ((z0s l0_2 x3_2).f2) = some r) ∧ z0a (kq ≤ kj18) ∧ z0a (w'.heap[z6s]? = some (.cells #[(.slice z0U l0_0.length c0_0), (.slice z0X l0_1.length c0_1), (.slice (some ad284) l0_2.length c0_2)] 28 (0, 0))) ∧ z0a (w'.heap[y7t]? = some (.cells #[.string ((z0s l0_2 x3_2).f0), .int .i64 ((z0s l0_2 x3_2).f1), (.slice x0I ((z0s l0_2 x3_2).f2).length c284_2)] 81 (0, 0))) ∧ z0a (Below w.heap.size w w'))
       case atStart => exact ⟨(0), ze, H', ⟨Nat.le_refl _⟩, ⟨zk⟩, ⟨zk⟩, ⟨zb⟩⟩
       case round =>
        clear H'
        try clear c3
        try clear c3b0
        try clear c3b1
        try clear c16
        try clear c17
        try clear c17b0
        try clear c18
        try clear c18b0
        try clear c36
        try clear z5x
        try clear z6a
        try clear y2f
        try clear y9v
        try clear y9w
        try clear y9x
        try clear z8a
        try clear z8b
        try clear y0c
        try clear z5y
        try clear z6b
        try clear y2g
        try clear y9y
        try clear y9z
        try clear y9A
        try clear z8c
        try clear z8d
        try clear y0d
        try clear y6i
        try clear y6j
        try clear y6k
        try clear p284
        try clear q284
        obtain ⟨x5_4, rfl, HA, HK4, z2k, z5k, HB⟩ := hrel
        cases gk with
        | zero => exact absurd HA.out (by simp [z0d.l1])
        | succ k4 =>
         have H := HA.out
         clear HA
         simp only [z0d.l1] at H
         by_cases c37 : x5_4 < x3_2
         rotate_left
         ·rw [if_neg c37] at H
          have c37b0 : decide (x5_4 < x3_2) = false := decide_eq_false c37
          clear c37
          have H' := z0a.mk H
          clear H
          go_wp2
          go_roundg k4
          case measure => have := HJ3.out; have := HK2.out; have := HJ18.out; have := HK4.out; omega
          case rel => exact ⟨(wrap64 (x3_2 + 1)), ze, H', ⟨by have := HJ3.out; have := HK2.out; have := HJ18.out; have := HK4.out; omega⟩, ⟨zk⟩, ⟨zb⟩⟩
         rw [if_pos c37] at H
         have c37b0 : decide (x5_4 < x3_2) = true := decide_eq_true c37
         clear c37
         by_cases c38 : 0 ≤ x5_4
         rotate_left
         ·rw [if_neg c38] at H
          exact absurd H (by simp)
         rw [if_pos c38] at H
         have c38b0 : decide (0 ≤ x5_4) = true := decide_eq_true c38
         clear c38
         by_cases c39 : x5_4 < (l0_2.length : Int)
         rotate_left
         ·rw [if_neg c39] at H
          exact absurd H (by simp)
         rw [if_pos c39] at H
         have c39b0 : decide (x5_4 < (l0_2.length : Int)) = true := decide_eq_true c39
         clear c39
         by_cases c40 : ((z0s l0_2 x5_4).f0).toList = ((z0s l0_2 x3_2).f0).toList
         ·rw [if_pos c40] at H
          have c40b0 : (((z0s l0_2 x5_4).f0).toList == ((z0s l0_2 x3_2).f0).toList) = true := beq_iff_eq.mpr c40
          have c40b1 : (((z0s l0_2 x5_4).f0).toList != ((z0s l0_2 x3_2).f0).toList) = false := bne_eq_false_iff_eq.mpr c40
          clear c40
          obtain rfl := Option.some.inj H
          try go_wp2
          have n0_ := z0a.mk (z0e z2k.out)
          have n1_ := z0a.mk (z0e z5k.out)
          have n2_ := z0a.mk (z1l HB.out)
          clear z2k
          clear z5k
          clear HB
          have z2k := n0_
          have z5k := n1_
          have HB := n2_
          clear n0_ n1_ n2_
          have p287 : 0 ≤ (x5_4 : Int) := za
          have q287 : x5_4 < (l0_2.length : Int) := za
          obtain ⟨ad287, x5B, c287_2, e287, z7L, z7M, z7N, y3H, y3I⟩ := z3e z3X.out x5_4 p287 q287
          have y3J := z7N
          have y3K := z7M
          have y3L := z7L
          obtain rfl : ad284 = ad287 := (by injection e287)
          replace z7L := zx HB z7L
          replace z7M := zx HB z7M
          replace z7N := zx HB z7N
          have y9N := z0a.mk y3I
          have w1J := z0a.mk y3H
          clear y3I y3H
          replace p287 := eq_true p287
          replace q287 := eq_true q287
          refine z6l (n := 9) (S := fun w' => w'.cell? ⟨z6s, 0, none⟩ = some (.slice z0U l0_0.length c0_0) ∧ w'.cell? ⟨z6s, 1, none⟩ = some (.slice z0X l0_1.length c0_1) ∧ w'.cell? ⟨z6s, 2, none⟩ = some (.slice (some ad284) l0_2.length c0_2) ∧ w'.cell? ⟨y7t, 0, none⟩ = some (.string ((z0s l0_2 x3_2).f0)) ∧ w'.cell? ⟨y7t, 1, none⟩ = some (.int .i64 ((z0s l0_2 x3_2).f1)) ∧ w'.cell? ⟨y7t, 2, none⟩ = some (.slice x0I ((z0s l0_2 x3_2).f2).length c284_2) ∧ w'.cell? (ad284.add ((x5_4).toNat * 3)) = some (.string ((z0s l0_2 x5_4).f0)) ∧ w'.cell? ⟨(ad284.add ((x5_4).toNat * 3)).block, (ad284.add ((x5_4).toNat * 3)).off + 1, none⟩ = some (.int .i64 ((z0s l0_2 x5_4).f1)) ∧ w'.cell? ⟨(ad284.add ((x5_4).toNat * 3)).block, (ad284.add ((x5_4).toNat * 3)).off + 2, none⟩ = some (.slice x5B ((z0s l0_2 x5_4).f2).length c287_2)) (ds := []) #[false, false, false, false, false, false, false, false, false] (by kernel_rfl) rfl rfl ⟨(z0p z2k.out 0).trans rfl, (z0p z2k.out 1).trans rfl, (z0p z2k.out 2).trans rfl, (z0p z5k.out 0).trans rfl, (z0p z5k.out 1).trans rfl, (z0p z5k.out 2).trans rfl, ((HB.out.cell (World.block_lt_of_cell? w _ y3L)).trans y3L), ((HB.out.cell (World.block_lt_of_cell? w _ y3K)).trans y3K), ((HB.out.cell (World.block_lt_of_cell? w _ y3J)).trans y3J)⟩ (fun hHeld => ?_); refine z3I z0d.w3j z0d.x7S (fun HT_ HW_ => ?_)
          generalize wr.drew = w41 at z2k z5k HB y9N z7L z7M z7N hHeld ⊢
          refine z1O (i := 0) (N := some 75) (v := ?_) (a' := ?_) #[true, false, false, false, false, false, false, false, false] rfl rfl (z1s HT_.out (by kernel_rfl)) (fun _ _ _ h => h) (Or.inl ⟨by rfl, ?_⟩) ?_ ?_
          rotate_left
          ·intro w'
           go_simp
           with_reducible rfl
          rotate_left
          ·simp only [Act.put, List.setIfInBounds_toArray, List.set_cons_zero, List.set_cons_succ, z0V, z0W]
           rfl
          refine z1O (i := 2) (N := some 77) (v := ?_) (a' := ?_) #[true, false, true, false, false, false, false, false, false] rfl rfl (z1s HT_.out (by kernel_rfl)) (fun _ _ _ h => h) (Or.inl ⟨by rfl, ?_⟩) ?_ ?_
          rotate_left
          ·intro w'
           go_simp
           with_reducible rfl
          rotate_left
          ·simp only [Act.put, List.setIfInBounds_toArray, List.set_cons_zero, List.set_cons_succ, z0V, z0W]
           rfl
          refine z1O (i := 6) (N := some 81) (v := ?_) (a' := ?_) #[true, false, true, false, false, false, true, false, false] rfl rfl (z1s HT_.out (by kernel_rfl)) (fun _ _ _ h => h) (Or.inl ⟨by rfl, ?_⟩) ?_ ?_
          rotate_left
          ·intro w'
           go_simp
           with_reducible rfl
          rotate_left
          ·simp only [Act.put, List.setIfInBounds_toArray, List.set_cons_zero, List.set_cons_succ, z0V, z0W]
           rfl
          refine z2R (i := 1) (N := some 76) (v := ?_) (a' := ?_) #[true, true, true, false, false, false, true, false, false] rfl rfl (z1D HT_.out HW_.out (by kernel_rfl)) (fun _ _ _ h => h) (Or.inl ⟨by rfl, ?_⟩) hHeld ?_ ?_
          rotate_left
          ·rintro w' ⟨s0, s1, s2, s3, s4, s5, s6, s7, s8⟩
           go_simp
           with_reducible rfl
          rotate_left
          ·simp only [Act.put, List.setIfInBounds_toArray, List.set_cons_zero, List.set_cons_succ, z0V, z0W]
           rfl
          refine z1O (i := 3) (N := some 78) (v := ?_) (a' := ?_) #[true, true, true, true, false, false, true, false, false] rfl rfl (z1s HT_.out (by kernel_rfl)) (fun _ _ _ h => h) (Or.inl ⟨by rfl, ?_⟩) ?_ ?_
          rotate_left
          ·intro w'
           go_simp
           with_reducible rfl
          rotate_left
          ·simp only [Act.put, List.setIfInBounds_toArray, List.set_cons_zero, List.set_cons_succ, z0V, z0W]
           rfl
          refine z1O (i := 4) (N := some 79) (v := ?_) (a' := ?_) #[true, true, true, true, true, false, true, false, false] rfl rfl (z1s HT_.out (by kernel_rfl)) (fun _ _ _ h => h) (Or.inl ⟨by rfl, ?_⟩) ?_ ?_
          rotate_left
          ·intro w'
           go_simp
           with_reducible rfl
          rotate_left
          ·simp only [Act.put, List.setIfInBounds_toArray, List.set_cons_zero, List.set_cons_succ, z0V, z0W]
           rfl
          refine z2R (i := 5) (N := some 80) (v := ?_) (a' := ?_) #[true, true, true, true, true, true, true, false, false] rfl rfl (z1D HT_.out HW_.out (by kernel_rfl)) (fun _ _ _ h => h) (Or.inl ⟨by rfl, ?_⟩) hHeld ?_ ?_
          rotate_left
          ·rintro w' ⟨s0, s1, s2, s3, s4, s5, s6, s7, s8⟩
           go_simp
           with_reducible rfl
          rotate_left
          ·simp only [Act.put, List.setIfInBounds_toArray, List.set_cons_zero, List.set_cons_succ, z0V, z0W]
           rfl
          refine z2R (i := 7) (N := some 82) (v := ?_) (a' := ?_) #[true, true, true, true, true, true, true, true, false] rfl rfl (z1D HT_.out HW_.out (by kernel_rfl)) (fun _ _ _ h => h) (Or.inl ⟨by rfl, ?_⟩) hHeld ?_ ?_
          rotate_left
          ·rintro w' ⟨s0, s1, s2, s3, s4, s5, s6, s7, s8⟩
           go_simp
           with_reducible rfl
          rotate_left
          ·simp only [Act.put, List.setIfInBounds_toArray, List.set_cons_zero, List.set_cons_succ, z0V, z0W]
           rfl
          refine z1O (i := 8) (N := some 83) (v := ?_) (a' := ?_) #[true, true, true, true, true, true, true, true, true] rfl rfl (z1s HT_.out (by kernel_rfl)) (fun _ _ _ h => h) (Or.inl ⟨by rfl, ?_⟩) ?_ ?_
          rotate_left
          ·intro w'
           go_simp
           with_reducible rfl
          rotate_left
          ·simp only [Act.put, List.setIfInBounds_toArray, List.set_cons_zero, List.set_cons_succ, z0V, z0W]
           rfl
          refine y0q (z5u HT_.out (by kernel_rfl)) ?_
          try go_wp2
          go_ret
          exact ⟨zr, zb⟩
         rw [if_neg c40] at H
         have c40b0 : (((z0s l0_2 x5_4).f0).toList == ((z0s l0_2 x3_2).f0).toList) = false := beq_eq_false_iff_ne.mpr c40
         have c40b1 : (((z0s l0_2 x5_4).f0).toList != ((z0s l0_2 x3_2).f0).toList) = true := bne_iff_ne.mpr c40
         have H' := z0a.mk H
         clear H
         try go_wp2
         have n0_ := z0a.mk (z0e z2k.out)
         have n1_ := z0a.mk (z0e z5k.out)
         have n2_ := z0a.mk (z1l HB.out)
         clear z2k
         clear z5k
         clear HB
         have z2k := n0_
         have z5k := n1_
         have HB := n2_
         clear n0_ n1_ n2_
         have p287 : 0 ≤ (x5_4 : Int) := za
         have q287 : x5_4 < (l0_2.length : Int) := za
         obtain ⟨ad287, x5B, c287_2, e287, z7L, z7M, z7N, y3H, y3I⟩ := z3e z3X.out x5_4 p287 q287
         have y3J := z7N
         have y3K := z7M
         have y3L := z7L
         obtain rfl : ad284 = ad287 := (by injection e287)
         replace z7L := zx HB z7L
         replace z7M := zx HB z7M
         replace z7N := zx HB z7N
         have y9N := z0a.mk y3I
         have w1J := z0a.mk y3H
         clear y3I y3H
         replace p287 := eq_true p287
         replace q287 := eq_true q287
         refine z6l (n := 9) (S := fun w' => w'.cell? ⟨z6s, 0, none⟩ = some (.slice z0U l0_0.length c0_0) ∧ w'.cell? ⟨z6s, 1, none⟩ = some (.slice z0X l0_1.length c0_1) ∧ w'.cell? ⟨z6s, 2, none⟩ = some (.slice (some ad284) l0_2.length c0_2) ∧ w'.cell? ⟨y7t, 0, none⟩ = some (.string ((z0s l0_2 x3_2).f0)) ∧ w'.cell? ⟨y7t, 1, none⟩ = some (.int .i64 ((z0s l0_2 x3_2).f1)) ∧ w'.cell? ⟨y7t, 2, none⟩ = some (.slice x0I ((z0s l0_2 x3_2).f2).length c284_2) ∧ w'.cell? (ad284.add ((x5_4).toNat * 3)) = some (.string ((z0s l0_2 x5_4).f0)) ∧ w'.cell? ⟨(ad284.add ((x5_4).toNat * 3)).block, (ad284.add ((x5_4).toNat * 3)).off + 1, none⟩ = some (.int .i64 ((z0s l0_2 x5_4).f1)) ∧ w'.cell? ⟨(ad284.add ((x5_4).toNat * 3)).block, (ad284.add ((x5_4).toNat * 3)).off + 2, none⟩ = some (.slice x5B ((z0s l0_2 x5_4).f2).length c287_2)) (ds := []) #[false, false, false, false, false, false, false, false, false] (by kernel_rfl) rfl rfl ⟨(z0p z2k.out 0).trans rfl, (z0p z2k.out 1).trans rfl, (z0p z2k.out 2).trans rfl, (z0p z5k.out 0).trans rfl, (z0p z5k.out 1).trans rfl, (z0p z5k.out 2).trans rfl, ((HB.out.cell (World.block_lt_of_cell? w _ y3L)).trans y3L), ((HB.out.cell (World.block_lt_of_cell? w _ y3K)).trans y3K), ((HB.out.cell (World.block_lt_of_cell? w _ y3J)).trans y3J)⟩ (fun hHeld => ?_); refine z3I z0d.w3j z0d.x7S (fun HT_ HW_ => ?_)
         generalize wr.drew = w42 at z2k z5k HB y9N z7L z7M z7N hHeld ⊢
         refine z1O (i := 0) (N := some 75) (v := ?_) (a' := ?_) #[true, false, false, false, false, false, false, false, false] rfl rfl (z1s HT_.out (by kernel_rfl)) (fun _ _ _ h => h) (Or.inl ⟨by rfl, ?_⟩) ?_ ?_
         rotate_left
         ·intro w'
          go_simp
          with_reducible rfl
         rotate_left
         ·simp only [Act.put, List.setIfInBounds_toArray, List.set_cons_zero, List.set_cons_succ, z0V, z0W]
          rfl
         refine z1O (i := 2) (N := some 77) (v := ?_) (a' := ?_) #[true, false, true, false, false, false, false, false, false] rfl rfl (z1s HT_.out (by kernel_rfl)) (fun _ _ _ h => h) (Or.inl ⟨by rfl, ?_⟩) ?_ ?_
         rotate_left
         ·intro w'
          go_simp
          with_reducible rfl
         rotate_left
         ·simp only [Act.put, List.setIfInBounds_toArray, List.set_cons_zero, List.set_cons_succ, z0V, z0W]
          rfl
         refine z1O (i := 6) (N := some 81) (v := ?_) (a' := ?_) #[true, false, true, false, false, false, true, false, false] rfl rfl (z1s HT_.out (by kernel_rfl)) (fun _ _ _ h => h) (Or.inl ⟨by rfl, ?_⟩) ?_ ?_
         rotate_left
         ·intro w'
          go_simp
          with_reducible rfl
         rotate_left
         ·simp only [Act.put, List.setIfInBounds_toArray, List.set_cons_zero, List.set_cons_succ, z0V, z0W]
          rfl
         refine z2R (i := 1) (N := some 76) (v := ?_) (a' := ?_) #[true, true, true, false, false, false, true, false, false] rfl rfl (z1D HT_.out HW_.out (by kernel_rfl)) (fun _ _ _ h => h) (Or.inl ⟨by rfl, ?_⟩) hHeld ?_ ?_
         rotate_left
         ·rintro w' ⟨s0, s1, s2, s3, s4, s5, s6, s7, s8⟩
          go_simp
          with_reducible rfl
         rotate_left
         ·simp only [Act.put, List.setIfInBounds_toArray, List.set_cons_zero, List.set_cons_succ, z0V, z0W]
          rfl
         refine z1O (i := 3) (N := some 78) (v := ?_) (a' := ?_) #[true, true, true, true, false, false, true, false, false] rfl rfl (z1s HT_.out (by kernel_rfl)) (fun _ _ _ h => h) (Or.inl ⟨by rfl, ?_⟩) ?_ ?_
         rotate_left
         ·intro w'
          go_simp
          with_reducible rfl
         rotate_left
         ·simp only [Act.put, List.setIfInBounds_toArray, List.set_cons_zero, List.set_cons_succ, z0V, z0W]
          rfl
         refine z1O (i := 4) (N := some 79) (v := ?_) (a' := ?_) #[true, true, true, true, true, false, true, false, false] rfl rfl (z1s HT_.out (by kernel_rfl)) (fun _ _ _ h => h) (Or.inl ⟨by rfl, ?_⟩) ?_ ?_
         rotate_left
         ·intro w'
          go_simp
          with_reducible rfl
         rotate_left
         ·simp only [Act.put, List.setIfInBounds_toArray, List.set_cons_zero, List.set_cons_succ, z0V, z0W]
          rfl
         refine z2R (i := 5) (N := some 80) (v := ?_) (a' := ?_) #[true, true, true, true, true, true, true, false, false] rfl rfl (z1D HT_.out HW_.out (by kernel_rfl)) (fun _ _ _ h => h) (Or.inl ⟨by rfl, ?_⟩) hHeld ?_ ?_
         rotate_left
         ·rintro w' ⟨s0, s1, s2, s3, s4, s5, s6, s7, s8⟩
          go_simp
          with_reducible rfl
         rotate_left
         ·simp only [Act.put, List.setIfInBounds_toArray, List.set_cons_zero, List.set_cons_succ, z0V, z0W]
          rfl
         refine z2R (i := 7) (N := some 82) (v := ?_) (a' := ?_) #[true, true, true, true, true, true, true, true, false] rfl rfl (z1D HT_.out HW_.out (by kernel_rfl)) (fun _ _ _ h => h) (Or.inl ⟨by rfl, ?_⟩) hHeld ?_ ?_
         rotate_left
         ·rintro w' ⟨s0, s1, s2, s3, s4, s5, s6, s7, s8⟩
          go_simp
          with_reducible rfl
         rotate_left
         ·simp only [Act.put, List.setIfInBounds_toArray, List.set_cons_zero, List.set_cons_succ, z0V, z0W]
          rfl
         refine z1O (i := 8) (N := some 83) (v := ?_) (a' := ?_) #[true, true, true, true, true, true, true, true, true] rfl rfl (z1s HT_.out (by kernel_rfl)) (fun _ _ _ h => h) (Or.inl ⟨by rfl, ?_⟩) ?_ ?_
         rotate_left
         ·intro w'
          go_simp
          with_reducible rfl
         rotate_left
         ·simp only [Act.put, List.setIfInBounds_toArray, List.set_cons_zero, List.set_cons_succ, z0V, z0W]
          rfl
         refine y0q (z5u HT_.out (by kernel_rfl)) ?_
         try go_wp2
         go_roundg k4
         case measure => have := HJ3.out; have := HK2.out; have := HJ18.out; have := HK4.out; omega
         case rel => exact ⟨(wrap64 (x5_4 + 1)), ze, H', ⟨by have := HJ3.out; have := HK2.out; have := HJ18.out; have := HK4.out; omega⟩, ⟨zk⟩, ⟨zk⟩, ⟨zb⟩⟩
def z0I.f (k : Nat) (l0_0 : List ByteArray) (l0_1 : List (z1J)) (l0_2 : List (S81)) (a1 : Int) : Option (Int) := (z0d.f k l0_0 l0_1 l0_2).bind fun t291 => (if t291 = 0 then (if a1 < 0 then (some 8) else (if a1 ≥ (l0_2.length : Int) then (some 8) else (some 0))) else (some t291))
theorem z0I.mono : ∀ a0 a1 a2 a3 k, LeO (z0I.f k a0 a1 a2 a3) (z0I.f (k + 1) a0 a1 a2 a3) := by
 intro a0 a1 a2 a3 k
 unfold z0I.f
 repeat' first
   | (with_reducible exact z0d.mono _ _ _ _)
   | (with_reducible exact LeO.refl _)
   | (with_reducible exact LeO.none _)
   | (with_reducible refine LeO.ite ?_ ?_)
   | (with_reducible refine LeO.bind ?_ (fun _ => ?_))
set_option maxHeartbeats 8000000 in
set_option maxRecDepth 100000 in
theorem z0I.calls (k : Nat) (z0U : Option Addr) (c0_0 : Nat) (l0_0 : List ByteArray) (z0X : Option Addr) (c0_1 : Nat) (l0_1 : List (z1J)) (z2c : Option Addr) (c0_2 : Nat) (l0_2 : List (S81)) (a1 : Int) (r : Int) (w : World) (hr0_0 : Kd.C Kd.string w z0U l0_0.length l0_0) (hc0_0 : l0_0.length ≤ c0_0) (hr0_1 : Kd.C z5a w z0X l0_1.length l0_1) (hc0_1 : l0_1.length ≤ c0_1) (hr0_2 : Kd.C k81 w z2c l0_2.length l0_2) (hc0_2 : l0_2.length ≤ c0_2) (h : z0I.f k l0_0 l0_1 l0_2 a1 = some r) :
  Calls Tryz.prog 54 #[.agg #[.slice z0U l0_0.length c0_0, .slice z0X l0_1.length c0_1, .slice z2c l0_2.length c0_2], .int .i64 a1] w fun e w' => e = .returned (.int .i64 r) ∧ Below w.heap.size w w' := by
 have hu28 := Tryz.underlying28
 have z2g := z0a.mk hr0_0
 have z1g := z0a.mk hc0_0
 clear hr0_0 hc0_0
 have z2x := z0a.mk hr0_1
 have z1j := z0a.mk hc0_1
 clear hr0_1 hc0_1
 have z3X := z0a.mk hr0_2
 have z2T := z0a.mk hc0_2
 clear hr0_2 hc0_2
 have HB := z0a.mk (Below.refl w.heap.size w)
 have H : ((z0d.f k l0_0 l0_1 l0_2).bind fun t291 => (if t291 = 0 then (if a1 < 0 then (some 8) else (if a1 ≥ (l0_2.length : Int) then (some 8) else (some 0))) else (some t291))) = some r := h
 clear h
 replace H := Option.bind_eq_some_iff.mp H
 obtain ⟨t291, A30, H⟩ := H
 replace H : (if t291 = 0 then (if a1 < 0 then (some 8) else (if a1 ≥ (l0_2.length : Int) then (some 8) else (some 0))) else (some t291)) = some r := H
 have A3 := z0a.mk A30
 clear A30
 by_cases c4 : t291 = 0
 rotate_left
 ·rw [if_neg c4] at H
  have c4b0 : (t291 == 0) = false := beq_eq_false_iff_ne.mpr c4
  have c4b1 : (t291 != 0) = true := bne_iff_ne.mpr c4
  obtain rfl := Option.some.inj H
  go_enter Tryz.func54, Tryz.ntmps54
  go_wp2_with (first | ((with_reducible refine z0o (N := 2) rfl ?_); refine zo (cs := #[.slice z0U l0_0.length c0_0, .slice z0X l0_1.length c0_1, .slice z2c l0_2.length c0_2]) (t := 28) ?_; intro w1K hg w18 hbox hb; have z8J := z0a.mk hbox; have w1L := zG HB hg; have w1M := zG HB hg; replace HB := zB HB hb; clear hb hbox hg; obtain ⟨z6A, z8e, z8f, z6B, z8g, z8h⟩ := zc3 w18 z8J.out) | ((with_reducible refine z0m (f := 37) rfl ?_); refine z1a (some 7) rfl rfl Tryz.func37 (by kernel_rfl) rfl #[.agg #[.slice z0U l0_0.length c0_0, .slice z0X l0_1.length c0_1, .slice z2c l0_2.length c0_2]] rfl zq ?_; (with_reducible refine (z0d.calls k _ _ l0_0 _ _ l0_1 _ _ l0_2 t291 _ ?z0M z1g.out ?z0Q z1j.out ?z1z z2T.out A3.out).mono ?_); (case z0M => exact zs); (case z0Q => exact zs); (case z1z => exact zs); rintro e w20 ⟨rfl, hb⟩; refine ⟨_, rfl, ?_⟩; replace z8J := zK z8J hb; replace HB := zB HB hb; (try clear hb)))
  go_ret
  exact ⟨zr, zb⟩
 rw [if_pos c4] at H
 have c4b0 : (t291 == 0) = true := beq_iff_eq.mpr c4
 have c4b1 : (t291 != 0) = false := bne_eq_false_iff_eq.mpr c4
 clear c4
 by_cases c5 : a1 < 0
 ·rw [if_pos c5] at H
  have c5b0 : decide (a1 < 0) = true := decide_eq_true c5
  clear c5
  obtain rfl := Option.some.inj H
  go_enter Tryz.func54, Tryz.ntmps54
  go_wp2_with (first | ((with_reducible refine z0o (N := 2) rfl ?_); refine zo (cs := #[.slice z0U l0_0.length c0_0, .slice z0X l0_1.length c0_1, .slice z2c l0_2.length c0_2]) (t := 28) ?_; intro w1K hg w6 hbox hb; have z8J := z0a.mk hbox; have w1L := zG HB hg; have w1M := zG HB hg; replace HB := zB HB hb; clear hb hbox hg; obtain ⟨z4b, z4c, z5U, z4d, z4e, z5V⟩ := zc3 w6 z8J.out) | ((with_reducible refine z0m (f := 37) rfl ?_); refine z1a (some 7) rfl rfl Tryz.func37 (by kernel_rfl) rfl #[.agg #[.slice z0U l0_0.length c0_0, .slice z0X l0_1.length c0_1, .slice z2c l0_2.length c0_2]] rfl zq ?_; (with_reducible refine (z0d.calls k _ _ l0_0 _ _ l0_1 _ _ l0_2 t291 _ ?z0M z1g.out ?z0Q z1j.out ?z1z z2T.out A3.out).mono ?_); (case z0M => exact zs); (case z0Q => exact zs); (case z1z => exact zs); rintro e w8 ⟨rfl, hb⟩; refine ⟨_, rfl, ?_⟩; replace z8J := zK z8J hb; replace HB := zB HB hb; (try clear hb)))
  go_ret
  exact ⟨zr, zb⟩
 rw [if_neg c5] at H
 have c5b0 : decide (a1 < 0) = false := decide_eq_false c5
 clear c5
 by_cases c9 : a1 ≥ (l0_2.length : Int)
 ·rw [if_pos c9] at H
  have c9b0 : decide ((l0_2.length : Int) ≤ a1) = true := decide_eq_true c9
  clear c9
  obtain rfl := Option.some.inj H
  go_enter Tryz.func54, Tryz.ntmps54
  go_wp2_with (first | ((with_reducible refine z0o (N := 2) rfl ?_); refine zo (cs := #[.slice z0U l0_0.length c0_0, .slice z0X l0_1.length c0_1, .slice z2c l0_2.length c0_2]) (t := 28) ?_; intro w1K hg w10 hbox hb; have z8J := z0a.mk hbox; have w1L := zG HB hg; have w1M := zG HB hg; replace HB := zB HB hb; clear hb hbox hg; obtain ⟨z3M, z6J, z6K, z3N, z6L, z6M⟩ := zc3 w10 z8J.out) | ((with_reducible refine z0m (f := 37) rfl ?_); refine z1a (some 7) rfl rfl Tryz.func37 (by kernel_rfl) rfl #[.agg #[.slice z0U l0_0.length c0_0, .slice z0X l0_1.length c0_1, .slice z2c l0_2.length c0_2]] rfl zq ?_; (with_reducible refine (z0d.calls k _ _ l0_0 _ _ l0_1 _ _ l0_2 t291 _ ?z0M z1g.out ?z0Q z1j.out ?z1z z2T.out A3.out).mono ?_); (case z0M => exact zs); (case z0Q => exact zs); (case z1z => exact zs); rintro e w12 ⟨rfl, hb⟩; refine ⟨_, rfl, ?_⟩; replace z8J := zK z8J hb; replace HB := zB HB hb; (try clear hb); obtain ⟨z9l, z9m, y5T, z9n, z9o, y5U⟩ := zc3 w12 z8J.out))
  go_ret
  exact ⟨zr, zb⟩
 rw [if_neg c9] at H
 have c9b0 : decide ((l0_2.length : Int) ≤ a1) = false := decide_eq_false c9
 clear c9
 obtain rfl := Option.some.inj H
 go_enter Tryz.func54, Tryz.ntmps54
 go_wp2_with (first | ((with_reducible refine z0o (N := 2) rfl ?_); refine zo (cs := #[.slice z0U l0_0.length c0_0, .slice z0X l0_1.length c0_1, .slice z2c l0_2.length c0_2]) (t := 28) ?_; intro w1K hg w14 hbox hb; have z8J := z0a.mk hbox; have w1L := zG HB hg; have w1M := zG HB hg; replace HB := zB HB hb; clear hb hbox hg; obtain ⟨y8s, y8t, y8u, y8v, y8w, y8x⟩ := zc3 w14 z8J.out) | ((with_reducible refine z0m (f := 37) rfl ?_); refine z1a (some 7) rfl rfl Tryz.func37 (by kernel_rfl) rfl #[.agg #[.slice z0U l0_0.length c0_0, .slice z0X l0_1.length c0_1, .slice z2c l0_2.length c0_2]] rfl zq ?_; (with_reducible refine (z0d.calls k _ _ l0_0 _ _ l0_1 _ _ l0_2 t291 _ ?z0M z1g.out ?z0Q z1j.out ?z1z z2T.out A3.out).mono ?_); (case z0M => exact zs); (case z0Q => exact zs); (case z1z => exact zs); rintro e w16 ⟨rfl, hb⟩; refine ⟨_, rfl, ?_⟩; replace z8J := zK z8J hb; replace HB := zB HB hb; (try clear hb); obtain ⟨y2d, y5J, y8y, y2e, y5K, y8z⟩ := zc3 w16 z8J.out))
 go_ret
 exact ⟨zr, zb⟩
end Go.Proofs.YtplkoabikliagaaGreatDoor.K
