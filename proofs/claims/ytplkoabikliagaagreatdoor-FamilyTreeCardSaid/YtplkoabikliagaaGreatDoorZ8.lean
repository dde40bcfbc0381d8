/- Part 8 of a proof: walks and plain laws, merged by wip/tools/pack.py. -/
import Derived.Test.YtplkoabikliagaaGreatDoorRows
import Derived.Test.YtplkoabikliagaaGreatDoorZ6
import Derived.Test.YtplkoabikliagaaGreatDoorZ7
import Derived.WalkKit
import Derived.ProofKit
import Derived.OpenShut
import Derived.ShutString
import Derived.ChangeOld
import Derived.Below
import Derived.SizedLaws
import Derived.LaidHandle
import Derived.Lay
namespace Go.Proofs.YtplkoabikliagaaGreatDoor.familyTree
open Go.ChangeShapes Go.WideShapes Go.ChangeAt Go.RowKit
theorem own : ownKnob Tryz.prog.godebug = none := by kernel_rfl
theorem laidOut : laidOutB Tryz.prog = true := by kernel_rfl
set_option maxRecDepth 100000 in
theorem y6A (os : Os) (args : Array Value) : laidMetH Tryz.prog Rows.familyTreeRow.laid ((World.laidAll Tryz.prog os Rows.familyTreeRow.laid).forCall (fun _ _ => 0) ⟨#[], args, []⟩).memory :=
 laidMetH_of_parts (laidMet_laidAll args (by kernel_rfl) (by kernel_rfl)) (by kernel_rfl)
set_option maxRecDepth 100000 in
theorem lifted (os : Os) (started : os.Started) (H : Type) (enc : TypeId × Value → H) :
  ReturnsInHanded {} Tryz.checked os 3 .any (fun w args => (Rows.familyTreeSpec.pre enc Tryz.prog Tryz.f3 Rows.familyTreeRow.domain false w args ∧ laidMetH Tryz.prog Rows.familyTreeRow.laid w) ∧ sizedMet enc Tryz.prog Tryz.f3 (OpenSpec.ofChange Rows.familyTreeSpec) false w args) (Rows.familyTreeSpec.post enc Tryz.prog Tryz.f3 false true false false) := by
 refine returnsInHanded_of_change_and (C := Tryz.checked) (X := fun w _ => laidMetH Tryz.prog Rows.familyTreeRow.laid w) (fun _ _ _ hh h => h.of_heap hh) own started (by kernel_rfl) Tryz.func3
  (ChangeSpec.witness_at (enc := enc) (C := Tryz.checked) (os := os) (X := fun w _ => laidMetH Tryz.prog Rows.familyTreeRow.laid w) false (World.laidAll Tryz.prog os Rows.familyTreeRow.laid) #[.agg #[.slice none 0 0, .slice none 0 0, .slice none 0 0], .int .i64 0, .int .i64 0] 8 (World.laidAll_os _ _ _) (by kernel_rfl) (by kernel_rfl) (by kernel_rfl) (by kernel_rfl) (by kernel_rfl) (y6A os _)) ?_
 intro W base args ds gs before hval0 hW hcnd hsz0 _ _
 have hval : ∀ (j : Nat) t v, Tryz.f3.params[j]? = some t → args[j]? = some v → Value.okWide Tryz.prog W .any base t v := hval0
 have hW' := hW
 obtain ⟨p, q, hA0, hV, rfl, hfz, hnd⟩ := hW
 have hA : DataW.TrodAll enc Tryz.prog W 0 (fun _ => true) true Tryz.f3.params.toList args.toList ds p := hA0
 rw [Tryz.params3] at hA hval
 obtain ⟨v0, vs0, d0, ds0, p0, q0, hargs, rfl, rfl, h0, r0⟩ := trodAll_cons hA
 obtain ⟨v1, vs1, d1, ds1, p1, q1, rfl, rfl, rfl, h1, r1⟩ := trodAll_cons r0
 obtain ⟨v2, vs2, d2, ds2, p2, q2, rfl, rfl, rfl, h2, r2⟩ := trodAll_cons r1
 obtain ⟨rfl, rfl, rfl⟩ := trodAll_nil r2
 obtain rfl : args = #[v0, v1, v2] := by cases args; simp_all
 obtain ⟨rfl, rfl⟩ := trodVars_none hV
 obtain ⟨cs, rfl, hcs⟩ := okWide_struct Tryz.underlying28 (hval 0 28 v0 rfl rfl)
 obtain ⟨a1, rfl, rfl, rfl, w1⟩ := open_int Tryz.underlying3 (hval 1 3 v1 rfl rfl) h1
 obtain ⟨a2, rfl, rfl, rfl, w2⟩ := open_int Tryz.underlying3 (hval 2 3 v2 rfl rfl) h2
 have k0 := h0
 have lt0 : ∀ x ∈ p0, x.block < W.heap.size := by
  obtain ⟨m, hm⟩ := k0
  exact DataW.trod_lt m _ _ _ hm
 obtain ⟨fuel, hf⟩ := h0
 obtain ⟨x, hx, hVx⟩ := K.x7t.2 enc W 0 (fun _ => true) true fuel _ _ hf
 obtain ⟨A0, c0, A1, c1, A2, c2, hc, l0, g0, l1, g1, l2, g2⟩ := K.x6N hx
 have hcs' : cs.toList = [.slice A0 x.f0.f0.length c0, .slice A1 x.f0.f1.length c1, .slice A2 x.f1.length c2] := hc
 obtain rfl : cs = #[.slice A0 x.f0.f0.length c0, .slice A1 x.f0.f1.length c1, .slice A2 x.f1.length c2] := by
  rw [← Array.toList_inj]; exact hcs'
 clear hA0 hval0 hsz0 hval
 obtain ⟨k, haw, hk⟩ := K.y4a x a1 a2 hVx
 have hcall : Calls Tryz.prog 3 #[.agg #[.slice A0 x.f0.f0.length c0, .slice A1 x.f0.f1.length c1, .slice A2 x.f1.length c2], .int .i64 a1, .int .i64 a2] W fun e w' => e = .returned (.bool true) ∧ Below W.heap.size W w' := by
  rcases hk with hla | ⟨hla, p, e1, n, e2, L, e3, m, e4, s, e5, q1, q2, q3, q4, q5, q6, q7, q8, q9, q10, q11, q12⟩
  ·exact K.y1p k A0 c0 x.f0.f0 A1 c1 x.f0.f1 A2 c2 x.f1 a1 a2 W g0 l0 g1 l1 g2 l2 haw hla
  ·exact K.y3T k A0 c0 x.f0.f0 A1 c1 x.f0.f1 A2 c2 x.f1 a1 a2 W g0 l0 g1 l1 g2 l2 haw hla p e1 q1 q2 n e2 q3 q4 L e3 q5 q6 m e4 q7 q8 s e5 q9 q10 q11 q12
 refine hcall.mono fun e W' he => ?_
 obtain ⟨he, bel⟩ := he
 subst he
 exact ⟨_, rfl, _, _, _, [], _, [], hW', trodAll_mk1 (shut_bool Tryz.underlying4 _), (trodAll_cons_mk (Below.trod laidOut (by kernel_rfl) (of_decide_eq_true (by kernel_rfl)) k0 bel lt0) (trodAll_cons_mk (shut_int Tryz.underlying3 w1) (trodAll_cons_mk (shut_int Tryz.underlying3 w2) trodAll_mk0))), rfl, bel.frame _, fun h => by cases h⟩
theorem named_ : Tryz.pinned.checked.prog.funcNamed Rows.familyTreeRow.func = some 3 := by kernel_rfl
theorem closed_ : joinedFacts Tryz.pinned.checked.prog 3 Tryz.f3 Rows.familyTreeSpec Rows.familyTreeRow = true := by kernel_rfl
theorem inst_ : Tryz.f3.isInstance Tryz.pinned.checked.prog Rows.familyTreeRow.origin Rows.familyTreeRow.targs := of_decide_eq_true (by kernel_rfl)
theorem wrap_ : Tryz.f3.isWrapper Tryz.pinned.checked.prog Rows.familyTreeRow.wrapper Rows.familyTreeRow.mainSum := by
 unfold Func.isWrapper; first | (rw [if_pos (by decide +kernel)]; kernel_rfl) | (rw [if_neg (by decide +kernel)]; exact ⟨rfl, rfl⟩)
theorem over : Rows.familyTreeRow.holds Tryz.pinned (OpenSpec.ofChange Rows.familyTreeSpec) :=
 OpenClaim.holds_of_wide 3 Tryz.f3 rfl rfl rfl rfl rfl rfl rfl ⟨rfl, rfl, rfl, rfl, rfl⟩ rfl rfl rfl rfl rfl named_ Tryz.func3 closed_
  inst_ wrap_
  (fun os started H enc _ => lifted os started H enc)
theorem proved : Rows.FamilyTreeSaid := over
end Go.Proofs.YtplkoabikliagaaGreatDoor.familyTree
