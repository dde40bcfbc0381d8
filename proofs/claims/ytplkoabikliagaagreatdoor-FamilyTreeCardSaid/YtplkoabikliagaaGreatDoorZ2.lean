/- Part 2 of a proof: walks and plain laws, merged by wip/tools/pack.py. -/
import Derived.Test.YtplkoabikliagaaGreatDoorZ1
import Derived.Shelf.Strings.BuilderX
import Derived.Lib.Builder
import Derived.Lib.AppendStr
import Derived.Lib.UnsafeStr
import Derived.Lib.Walk
import Derived.Laws.Externs
import Derived.Handy
import Derived.Maps.OwnOps
namespace Go.Proofs.YtplkoabikliagaaGreatDoor.K
open Go.RowKit Go.Proofs.YtplkoabikliagaaGreatDoorW.PrintWords Go.Proofs.YtplkoabikliagaaGreatDoorW.PrintLast Go.Proofs.YtplkoabikliagaaGreatDoorW.PrintMore
open Go.Proofs.YtplkoabikliagaaGreatDoor.L
def z3j.f (l0_0 : List ByteArray) (l0_1 : List z1J) (a1 : Int) : Option (Int × Int × Int × Int) :=
 (z0T.f l0_0 l0_1).bind fun e => if e = 0 then
  (match l0_1.find? (fun x => decide (x.f0 = a1)) with
  | none => some (0, 0, 0, 5)
  | some x => some (x.f0, x.f1, x.f2, 0)) else some (0, 0, 0, e)
set_option maxRecDepth 100000 in
theorem y4z (x0 x1 x2 r : Int) (b : Nat) (w : World) (hc : w.cell? ⟨b, 0, none⟩ = some (.int .i32 r)) (hb : b < w.heap.size) :
  Calls Tryz.prog 211 #[.agg #[.int .i32 x0, .int .u32 x1, .int .u32 x2], .pointer (some ⟨b, 0, none⟩)] w fun e w' => e = .returned (.bool (decide (x0 = r))) ∧ Below w.heap.size w w' := by
 have hu := Tryz.underlying145
 have hc' : ∀ o, (w.alloc o).cell? ⟨b, 0, none⟩ = some (.int .i32 r) := fun o => (World.cell?_of_block (w := w) (Below.heap_alloc _ _ _ hb)).trans hc
 go_enter Tryz.func211, Tryz.ntmps211
 go_wp2
 go_ret
 exact ⟨rfl, (Below.refl _ _).alloc (Nat.le_refl _) _⟩
def x2s (r : Int) : List z1J → Nat → Int
 | [], _ => -1
 | x :: l, k => if x.f0 = r then k else x2s r l (k + 1)
set_option maxHeartbeats 4000000 in
set_option maxRecDepth 100000 in
theorem y1b (A : Option Addr) (c : Nat) (l : List z1J) (r : Int) (b : Nat) (w : World) (hr : Kd.C z5a w A l.length l) (hlen : l.length ≤ 128) (hc : w.cell? ⟨b, 0, none⟩ = some (.int .i32 r)) (hb : b < w.heap.size) :
  Calls Tryz.prog 210 #[.slice A l.length c, .func (.func 211) #[] #[.pointer (some ⟨b, 0, none⟩)]] w fun e w' => e = .returned (.int .i64 (x2s r l 0)) ∧ Below w.heap.size w w' := by
 have HR := z0a.mk hr
 clear hr
 have HC := z0a.mk hc
 clear hc
 go_enter Tryz.func210, Tryz.ntmps210
 go_wp2
 go_loopw [8] (fun i wr => ∃ k : Nat, k ≤ l.length ∧ i = .int .i64 k ∧ z0a (Below w.heap.size w wr) ∧ z0a (x2s r l 0 = x2s r (l.drop k) k)) (fun i _ => l.length - (intOf i).toNat)
 case atStart => exact ⟨0, Nat.zero_le _, rfl, ⟨Below.refl _ _⟩, ⟨rfl⟩⟩
 case round =>
  obtain ⟨k, hk, rfl, HB, HI⟩ := hrel
  by_cases hlt : k < l.length
  ·obtain ⟨ad, hA, hc0, hc1, hc2⟩ := z9k (Kd.z0t HR.out HB.out) (k : Int) (by omega) (by omega)
   subst hA
   rw [Int.toNat_natCast] at hc0 hc1 hc2
   obtain ⟨x, hx⟩ : ∃ x, x = z0R l (k : Int) := ⟨_, rfl⟩
   rw [← hx] at hc0 hc1 hc2
   have hcons : l.drop k = x :: l.drop (k + 1) := by
    rw [hx, List.drop_eq_getElem_cons hlt]
    simp [z0R, List.getD_eq_getElem?_getD, hlt]
   have hF := HI.out
   rw [hcons, x2s] at hF
   have HF := z0a.mk hF
   have hs := HB.out.size
   have hcc := (HB.out.cell (p := ⟨b, 0, none⟩) hb).trans HC.out
   have HCC := z0a.mk hcc
   clear hF hcons HI hx hcc
   by_cases he : x.f0 = r
   ·have hd : decide (x.f0 = r) = true := decide_eq_true he
    have HE := z0a.mk he
    clear he
    go_wp2_with (go_at_call 211; refine (y4z x.f0 x.f1 x.f2 r b _ HCC.out (by omega)).mono ?_; rintro e w1 ⟨rfl, hb1⟩; have HB1 := z0a.mk hb1; clear hb1)
    go_ret
    refine ⟨by rw [HF.out, if_pos HE.out]; rfl, HB.out.trans (HB1.out.mono hs)⟩
   ·have hd : decide (x.f0 = r) = false := decide_eq_false he
    have HE := z0a.mk he
    clear he
    go_wp2_with (go_at_call 211; refine (y4z x.f0 x.f1 x.f2 r b _ HCC.out (by omega)).mono ?_; rintro e w1 ⟨rfl, hb1⟩; have HB1 := z0a.mk hb1; clear hb1)
    go_roundw
    case rel => exact ⟨k + 1, by omega, by go_num, ⟨HB.out.trans (HB1.out.mono hs)⟩, ⟨by rw [HF.out, if_neg HE.out]⟩⟩
    case measure => simp [intOf]; omega
  ·have hke : k = l.length := by omega
   have hF := HI.out
   rw [hke] at hF
   simp [x2s] at hF
   have HF := z0a.mk hF
   clear hF HI hke
   go_wp2
   go_ret
   exact ⟨by rw [HF.out]; rfl, HB.out⟩
theorem y6Y (r : Int) : ∀ (l : List z1J) (k : Nat), (l.find? (fun x => decide (x.f0 = r)) = none ∧ x2s r l k = -1) ∨ ∃ j, j < l.length ∧ x2s r l k = ((k + j : Nat) : Int) ∧ l.find? (fun x => decide (x.f0 = r)) = some (z0R l (j : Int))
 | [], k => .inl ⟨rfl, rfl⟩
 | x :: l, k => by
  by_cases h : x.f0 = r
  ·refine .inr ⟨0, by simp, ?_, ?_⟩
   ·simp [x2s, h]
   ·simp [h, z0R]
  ·rcases y6Y r l (k + 1) with ⟨h1, h2⟩ | ⟨j, hj, h2, h3⟩
   ·exact .inl ⟨by simp [h, h1], by simp [x2s, h, h2]⟩
   ·refine .inr ⟨j + 1, by simpa using hj, ?_, ?_⟩
    ·simp only [x2s, h, if_false, h2]
     congr 1; omega
    ·simp only [List.find?_cons, h, decide_false, h3]
     simp [z0R, List.getD_eq_getElem?_getD]
theorem y5f {fs : List ByteArray} {ls : List z1J} (h : z0T.f fs ls = some 0) : ls.length ≤ 128 := by
 unfold z0T.f at h
 by_cases h1 : fs.length > 24
 ·rw [if_pos h1] at h; simp at h
 rw [if_neg h1] at h
 by_cases h2 : ls.length < 1
 ·rw [if_pos h2] at h; simp at h
 rw [if_neg h2] at h
 by_cases h3 : ls.length > 128
 ·rw [if_pos h3] at h; simp at h
 omega
theorem x1c {s : ByteArray} (h : z2u.f s = some true) : s.size ≤ 32 := by
 unfold z2u.f at h
 by_cases h1 : s.toList = ([] : List UInt8)
 ·rw [if_pos h1] at h; simp at h
 ·rw [if_neg h1] at h
  by_cases h2 : (s.size : Int) ≤ 32
  ·omega
  ·rw [if_neg h2] at h; simp at h
theorem z9d : ∀ (l seen : List ByteArray), z3i seen l = some true → ∀ s ∈ l, s.size ≤ 32
 | [], _, _, s, hs => by simp at hs
 | f :: r, seen, h, s, hs => by
  unfold z3i at h
  cases hf : z2u.f f with
  | none => rw [hf] at h; simp at h
  | some b =>
   rw [hf] at h
   cases b with
   | false => simp at h
   | true =>
    simp only [Option.bind_some, if_true] at h
    by_cases hm : y1a seen f = true
    ·rw [if_pos hm] at h; simp at h
    ·rw [if_neg hm] at h
     rcases List.mem_cons.1 hs with rfl | hs
     ·exact x1c hf
     ·exact z9d r _ h s hs
theorem y1N {fs : List ByteArray} {ls : List z1J} (h : z0T.f fs ls = some 0) : z3i [] fs = some true ∧ z2N fs ls [] ls = some true := by
 unfold z0T.f at h
 by_cases h1 : fs.length > 24
 ·rw [if_pos h1] at h; simp at h
 rw [if_neg h1] at h
 by_cases h2 : ls.length < 1
 ·rw [if_pos h2] at h; simp at h
 rw [if_neg h2] at h
 by_cases h3 : ls.length > 128
 ·rw [if_pos h3] at h; simp at h
 rw [if_neg h3] at h
 cases hf : z3i [] fs with
 | none => rw [hf] at h; simp at h
 | some b =>
  rw [hf] at h
  cases b with
  | false => simp at h
  | true =>
   simp only [Option.bind_some, if_true] at h
   cases hl : z2N fs ls [] ls with
   | none => rw [hl] at h; simp at h
   | some c =>
    rw [hl] at h
    cases c with
    | false => simp at h
    | true => exact ⟨rfl, rfl⟩
theorem y4i {fs : List ByteArray} {ls : List z1J} (h : z0T.f fs ls = some 0) : fs.length ≤ 24 := by
 unfold z0T.f at h
 by_cases h1 : fs.length > 24
 ·rw [if_pos h1] at h; simp at h
 omega
set_option maxHeartbeats 4000000 in
set_option maxRecDepth 100000 in
theorem z3j.calls (z0U : Option Addr) (c0_0 : Nat) (l0_0 : List ByteArray) (z0X : Option Addr) (c0_1 : Nat) (l0_1 : List z1J) (a1 : Int) (r1 : Int) (r2 : Int) (r3 : Int) (r4 : Int) (w : World) (hr0_0 : Kd.C Kd.string w z0U l0_0.length l0_0) (hc0_0 : l0_0.length ≤ c0_0) (hr0_1 : Kd.C z5a w z0X l0_1.length l0_1) (hc0_1 : l0_1.length ≤ c0_1) (h : z3j.f l0_0 l0_1 a1 = some (r1, r2, r3, r4)) :
  Calls Tryz.prog 174 #[.agg #[.slice z0U l0_0.length c0_0, .slice z0X l0_1.length c0_1], .int .i32 a1] w fun e w' => e = .returned (.tuple #[.agg #[.int .i32 r1, .int .u32 r2, .int .u32 r3], .int .i64 r4]) ∧ Below w.heap.size w w' := by
 have HR0 := z0a.mk hr0_0
 have HR1 := z0a.mk hr0_1
 clear hr0_0 hr0_1
 have hu25 := Tryz.underlying25
 have hu99 := Tryz.underlying145
 have HS := z0a.mk (St.start w)
 unfold z3j.f at h
 cases hfc : z0T.f l0_0 l0_1 with
 | none => rw [hfc] at h; simp at h
 | some q =>
  rw [hfc] at h
  simp only [Option.bind_some] at h
  have HFC := z0a.mk hfc
  clear hfc
  by_cases hq : q = 0
  ·subst hq
   rw [if_pos rfl] at h
   have hlen := y5f HFC.out
   have hix := y6Y a1 l0_1 0
   have H := z0a.mk h
   have HIX := z0a.mk hix
   clear h hix
   rcases HIX.out with ⟨hf, hi⟩ | ⟨j, hj, hi, hf⟩
   ·rw [hf] at H
    have H' := H.out
    simp only [Option.some.injEq, Prod.mk.injEq] at H'
    obtain ⟨rfl, rfl, rfl, rfl⟩ := H'
    clear H HIX hf
    have HI := z0a.mk hi
    clear hi
    go_enter Tryz.func174, Tryz.ntmps174
    go_wp2_with (first | ((with_reducible refine z0o (N := 2) rfl ?_); refine z2t HS.out rfl (cs := #[.slice z0U l0_0.length c0_0, .slice z0X l0_1.length c0_1]) (t := 25) ?hr ?_; (case hr => first | (go_simp; done) | (go_simp; rfl)); clear HS; intro g2 w_g2 hs hb; have HS := z0a.mk hs; clear hs hb; (try clear hc_g2 hf_g2); obtain ⟨hc_g2, hf_g2⟩ := HS.out.cell 0 rfl) | ((with_reducible refine z0o (N := 3) rfl ?_); refine z2t HS.out rfl (cs := #[.int .i32 a1]) (t := 21) ?hr ?_; (case hr => first | (go_simp; done) | (go_simp; rfl)); clear HS; intro g3 w_g3 hs hb; have HS := z0a.mk hs; clear hs hb; (try clear hc_g3 hf_g3); obtain ⟨hc_g3, hf_g3⟩ := HS.out.cell 0 rfl; (try clear hc_g2 hf_g2); obtain ⟨hc_g2, hf_g2⟩ := HS.out.cell 1 rfl) | ((with_reducible refine z0o (N := 4) rfl ?_); refine z2t HS.out rfl (cs := #[.int .i32 0, .int .u32 0, .int .u32 0]) (t := 145) ?hr ?_; (case hr => first | (go_simp; done) | (go_simp; rfl)); clear HS; intro g4 w_g4 hs hb; have HS := z0a.mk hs; clear hs hb; (try clear hc_g4 hf_g4); obtain ⟨hc_g4, hf_g4⟩ := HS.out.cell 0 rfl; (try clear hc_g3 hf_g3); obtain ⟨hc_g3, hf_g3⟩ := HS.out.cell 1 rfl; (try clear hc_g2 hf_g2); obtain ⟨hc_g2, hf_g2⟩ := HS.out.cell 2 rfl) | (go_at_call 78; refine (z0T.calls _ _ _ _ _ _ _ _ (Kd.z0t HR0.out HS.out.below) hc0_0 (Kd.z0t HR1.out HS.out.below) hc0_1 HFC.out).mono ?_; rintro e w1 ⟨rfl, hb⟩; have hs := HS.out.down hb; clear HS; have HS := z0a.mk hs; clear hs hb; (try clear hc_g4 hf_g4); obtain ⟨hc_g4, hf_g4⟩ := HS.out.cell 0 rfl; (try clear hc_g3 hf_g3); obtain ⟨hc_g3, hf_g3⟩ := HS.out.cell 1 rfl; (try clear hc_g2 hf_g2); obtain ⟨hc_g2, hf_g2⟩ := HS.out.cell 2 rfl) | (go_at_call 210; refine (y1b z0X c0_1 l0_1 a1 g3 _ (Kd.z0t HR1.out HS.out.below) hlen ((hc_g3 0).trans rfl) (HS.out.lt 1 rfl)).mono ?_; rintro e w2 ⟨he, hb⟩; have hs := HS.out.down hb; clear HS; have HS := z0a.mk hs; clear hs hb; (try clear hc_g4 hf_g4); obtain ⟨hc_g4, hf_g4⟩ := HS.out.cell 0 rfl; (try clear hc_g3 hf_g3); obtain ⟨hc_g3, hf_g3⟩ := HS.out.cell 1 rfl; (try clear hc_g2 hf_g2); obtain ⟨hc_g2, hf_g2⟩ := HS.out.cell 2 rfl; (rw [HI.out] at he; subst he)))
    have HE := ((HS.out.put 0 rfl 0 (.int .i32 (0))).put 0 rfl 1 (.int .u32 (0))).put 0 rfl 2 (.int .u32 (0))
    refine bodyPost_ret (y0o (t := 145) (cs := #[.int .i32 (0), .int .u32 (0), .int .u32 (0)]) rfl _ _ g4 (fr := (0, 0)) _ rfl (HE.get 0 rfl) hu99 rfl (by kernel_rfl)) rfl ⟨rfl, HE.below⟩
   ·rw [hf] at H
    have H' := H.out
    simp only [Option.some.injEq, Prod.mk.injEq] at H'
    obtain ⟨rfl, rfl, rfl, rfl⟩ := H'
    rw [Nat.zero_add] at hi
    clear H HIX hf
    have HI := z0a.mk hi
    clear hi
    go_enter Tryz.func174, Tryz.ntmps174
    go_wp2_with (first | ((with_reducible refine z0o (N := 2) rfl ?_); refine z2t HS.out rfl (cs := #[.slice z0U l0_0.length c0_0, .slice z0X l0_1.length c0_1]) (t := 25) ?hr ?_; (case hr => first | (go_simp; done) | (go_simp; rfl)); clear HS; intro g2 w_g2 hs hb; have HS := z0a.mk hs; clear hs hb; (try clear hc_g2 hf_g2); obtain ⟨hc_g2, hf_g2⟩ := HS.out.cell 0 rfl) | ((with_reducible refine z0o (N := 3) rfl ?_); refine z2t HS.out rfl (cs := #[.int .i32 a1]) (t := 21) ?hr ?_; (case hr => first | (go_simp; done) | (go_simp; rfl)); clear HS; intro g3 w_g3 hs hb; have HS := z0a.mk hs; clear hs hb; (try clear hc_g3 hf_g3); obtain ⟨hc_g3, hf_g3⟩ := HS.out.cell 0 rfl; (try clear hc_g2 hf_g2); obtain ⟨hc_g2, hf_g2⟩ := HS.out.cell 1 rfl) | ((with_reducible refine z0o (N := 4) rfl ?_); refine z2t HS.out rfl (cs := #[.int .i32 0, .int .u32 0, .int .u32 0]) (t := 145) ?hr ?_; (case hr => first | (go_simp; done) | (go_simp; rfl)); clear HS; intro g4 w_g4 hs hb; have HS := z0a.mk hs; clear hs hb; (try clear hc_g4 hf_g4); obtain ⟨hc_g4, hf_g4⟩ := HS.out.cell 0 rfl; (try clear hc_g3 hf_g3); obtain ⟨hc_g3, hf_g3⟩ := HS.out.cell 1 rfl; (try clear hc_g2 hf_g2); obtain ⟨hc_g2, hf_g2⟩ := HS.out.cell 2 rfl) | (go_at_call 78; refine (z0T.calls _ _ _ _ _ _ _ _ (Kd.z0t HR0.out HS.out.below) hc0_0 (Kd.z0t HR1.out HS.out.below) hc0_1 HFC.out).mono ?_; rintro e w1 ⟨rfl, hb⟩; have hs := HS.out.down hb; clear HS; have HS := z0a.mk hs; clear hs hb; (try clear hc_g4 hf_g4); obtain ⟨hc_g4, hf_g4⟩ := HS.out.cell 0 rfl; (try clear hc_g3 hf_g3); obtain ⟨hc_g3, hf_g3⟩ := HS.out.cell 1 rfl; (try clear hc_g2 hf_g2); obtain ⟨hc_g2, hf_g2⟩ := HS.out.cell 2 rfl) | (go_at_call 210; refine (y1b z0X c0_1 l0_1 a1 g3 _ (Kd.z0t HR1.out HS.out.below) hlen ((hc_g3 0).trans rfl) (HS.out.lt 1 rfl)).mono ?_; rintro e w2 ⟨he, hb⟩; have hs := HS.out.down hb; clear HS; have HS := z0a.mk hs; clear hs hb; (try clear hc_g4 hf_g4); obtain ⟨hc_g4, hf_g4⟩ := HS.out.cell 0 rfl; (try clear hc_g3 hf_g3); obtain ⟨hc_g3, hf_g3⟩ := HS.out.cell 1 rfl; (try clear hc_g2 hf_g2); obtain ⟨hc_g2, hf_g2⟩ := HS.out.cell 2 rfl; (rw [HI.out] at he; subst he; obtain ⟨ad, hA, hx0, hx1, hx2⟩ := z9k (Kd.z0t HR1.out HS.out.below) (j : Int) (by omega) (by omega); subst hA; rw [Int.toNat_natCast] at hx0 hx1 hx2)))
    have HE := ((HS.out.put 0 rfl 0 (.int .i32 ((z0R l0_1 (j : Int)).f0))).put 0 rfl 1 (.int .u32 ((z0R l0_1 (j : Int)).f1))).put 0 rfl 2 (.int .u32 ((z0R l0_1 (j : Int)).f2))
    refine bodyPost_ret (y0o (t := 145) (cs := #[.int .i32 ((z0R l0_1 (j : Int)).f0), .int .u32 ((z0R l0_1 (j : Int)).f1), .int .u32 ((z0R l0_1 (j : Int)).f2)]) rfl _ _ g4 (fr := (0, 0)) _ rfl (HE.get 0 rfl) hu99 rfl (by kernel_rfl)) rfl ⟨rfl, HE.below⟩
  ·rw [if_neg hq] at h
   simp only [Option.some.injEq, Prod.mk.injEq] at h
   obtain ⟨rfl, rfl, rfl, rfl⟩ := h
   have hq1 : (q == 0) = false := by simpa using hq
   have hq2 : (q != 0) = true := by simpa using hq
   clear hq
   go_enter Tryz.func174, Tryz.ntmps174
   go_wp2_with (first | ((with_reducible refine z0o (N := 2) rfl ?_); refine z2t HS.out rfl (cs := #[.slice z0U l0_0.length c0_0, .slice z0X l0_1.length c0_1]) (t := 25) ?hr ?_; (case hr => first | (go_simp; done) | (go_simp; rfl)); clear HS; intro g2 w_g2 hs hb; have HS := z0a.mk hs; clear hs hb; (try clear hc_g2 hf_g2); obtain ⟨hc_g2, hf_g2⟩ := HS.out.cell 0 rfl) | ((with_reducible refine z0o (N := 3) rfl ?_); refine z2t HS.out rfl (cs := #[.int .i32 a1]) (t := 21) ?hr ?_; (case hr => first | (go_simp; done) | (go_simp; rfl)); clear HS; intro g3 w_g3 hs hb; have HS := z0a.mk hs; clear hs hb; (try clear hc_g3 hf_g3); obtain ⟨hc_g3, hf_g3⟩ := HS.out.cell 0 rfl; (try clear hc_g2 hf_g2); obtain ⟨hc_g2, hf_g2⟩ := HS.out.cell 1 rfl) | ((with_reducible refine z0o (N := 4) rfl ?_); refine z2t HS.out rfl (cs := #[.int .i32 0, .int .u32 0, .int .u32 0]) (t := 145) ?hr ?_; (case hr => first | (go_simp; done) | (go_simp; rfl)); clear HS; intro g4 w_g4 hs hb; have HS := z0a.mk hs; clear hs hb; (try clear hc_g4 hf_g4); obtain ⟨hc_g4, hf_g4⟩ := HS.out.cell 0 rfl; (try clear hc_g3 hf_g3); obtain ⟨hc_g3, hf_g3⟩ := HS.out.cell 1 rfl; (try clear hc_g2 hf_g2); obtain ⟨hc_g2, hf_g2⟩ := HS.out.cell 2 rfl) | (go_at_call 78; refine (z0T.calls _ _ _ _ _ _ _ _ (Kd.z0t HR0.out HS.out.below) hc0_0 (Kd.z0t HR1.out HS.out.below) hc0_1 HFC.out).mono ?_; rintro e w1 ⟨rfl, hb⟩; have hs := HS.out.down hb; clear HS; have HS := z0a.mk hs; clear hs hb; (try clear hc_g4 hf_g4); obtain ⟨hc_g4, hf_g4⟩ := HS.out.cell 0 rfl; (try clear hc_g3 hf_g3); obtain ⟨hc_g3, hf_g3⟩ := HS.out.cell 1 rfl; (try clear hc_g2 hf_g2); obtain ⟨hc_g2, hf_g2⟩ := HS.out.cell 2 rfl))
   have HE := ((HS.out.put 0 rfl 0 (.int .i32 (0))).put 0 rfl 1 (.int .u32 (0))).put 0 rfl 2 (.int .u32 (0))
   refine bodyPost_ret (y0o (t := 145) (cs := #[.int .i32 (0), .int .u32 (0), .int .u32 (0)]) rfl _ _ g4 (fr := (0, 0)) _ rfl (HE.get 0 rfl) hu99 rfl (by kernel_rfl)) rfl ⟨rfl, HE.below⟩
end Go.Proofs.YtplkoabikliagaaGreatDoor.K
namespace Go.Proofs.YtplkoabikliagaaGreatDoor.K
open Go.RowKit Go.Proofs.YtplkoabikliagaaGreatDoorW.PrintWords Go.Proofs.YtplkoabikliagaaGreatDoorW.PrintLast Go.Proofs.YtplkoabikliagaaGreatDoorW.PrintMore
attribute [local go_sem] z1o z1p z1B z1C z1b z1c z1q z1r
set_option linter.unusedVariables false
set_option linter.unusedSimpArgs false
def z3L.f (l0_0 : List ByteArray) (l0_1 : List (z1J)) (a1 : Int) : Option (Bool) := (z3j.f l0_0 l0_1 a1).bind fun bt106 => (some (bt106.2.2.2 == 0))
set_option maxHeartbeats 8000000 in
set_option maxRecDepth 100000 in
theorem z3L.calls (z0U : Option Addr) (c0_0 : Nat) (l0_0 : List ByteArray) (z0X : Option Addr) (c0_1 : Nat) (l0_1 : List (z1J)) (a1 : Int) (r : Bool) (w : World) (hr0_0 : Kd.C Kd.string w z0U l0_0.length l0_0) (hc0_0 : l0_0.length ≤ c0_0) (hr0_1 : Kd.C z5a w z0X l0_1.length l0_1) (hc0_1 : l0_1.length ≤ c0_1) (h : z3L.f l0_0 l0_1 a1 = some r) :
  Calls Tryz.prog 171 #[.agg #[.slice z0U l0_0.length c0_0, .slice z0X l0_1.length c0_1], .int .i32 a1] w fun e w' => e = .returned (.bool r) ∧ Below w.heap.size w w' := by
 have hu25 := Tryz.underlying25
 have hu145 := Tryz.underlying145
 have z2g := z0a.mk hr0_0
 have z1g := z0a.mk hc0_0
 clear hr0_0 hc0_0
 have z2x := z0a.mk hr0_1
 have z1j := z0a.mk hc0_1
 clear hr0_1 hc0_1
 have HB := z0a.mk (Below.refl w.heap.size w)
 have H : ((z3j.f l0_0 l0_1 a1).bind fun bt106 => (some (bt106.2.2.2 == 0))) = some r := h
 clear h
 replace H := Option.bind_eq_some_iff.mp H
 obtain ⟨⟨t106, t107, t108, t109⟩, A30, H⟩ := H
 replace H : (some (t109 == 0)) = some r := H
 have A3 := z0a.mk A30
 clear A30
 obtain rfl := Option.some.inj H
 go_enter Tryz.func171, Tryz.ntmps171
 go_wp2_with (first | ((with_reducible refine z0o (N := 2) rfl ?_); refine zo (cs := #[.slice z0U l0_0.length c0_0, .slice z0X l0_1.length c0_1]) (t := 25) ?_; intro gb105 hg w4 hbox hb; have y7S := z0a.mk hbox; have GW105 := zG HB hg; have GE105 := zG HB hg; replace HB := zB HB hb; clear hb hbox hg; obtain ⟨y6Z, y7a, y7b, y7c⟩ := zc2 w4 y7S.out) | ((with_reducible refine z0m (f := 174) rfl ?_); refine z1a (some 10) rfl rfl Tryz.func174 (by kernel_rfl) rfl #[.agg #[.slice z0U l0_0.length c0_0, .slice z0X l0_1.length c0_1], .int .i32 a1] rfl zq ?_; (with_reducible refine (z3j.calls _ _ l0_0 _ _ l0_1 a1 t106 t107 t108 t109 _ ?z0M z1g.out ?z0Q z1j.out A3.out).mono ?_); (case z0M => exact zs); (case z0Q => exact zs); rintro e w6 ⟨rfl, hb⟩; refine ⟨_, rfl, ?_⟩; replace y7S := zK y7S hb; replace HB := zB HB hb; (try clear hb)) | ((with_reducible refine z0o (N := 5) rfl ?_); refine zo (cs := #[.int .i32 0, .int .u32 0, .int .u32 0]) (t := 145) ?_; intro gb110 hg w7 hbox hb; have BK110 := z0a.mk hbox; have GW110 := zG HB hg; have GE110 := zG HB hg; have x2t := zN y7S hg; have x2u := zM y7S hg; replace y7S := zK y7S hb; replace HB := zB HB hb; clear hb hbox hg; have hnb8 := x2u.out; have hnc8 := x2t.out; obtain ⟨z5l, z5m, z9e, z5n, z5o, z9f⟩ := zc3 w7 BK110.out))
 go_ret
 exact ⟨zr, zb⟩
end Go.Proofs.YtplkoabikliagaaGreatDoor.K
namespace Go.Proofs.YtplkoabikliagaaGreatDoor.K
open Go.RowKit Go.Shelf
set_option linter.unusedVariables false
theorem y7d : (Tryz.prog.info? 108).map (·.size) = some 2 := by kernel_rfl
theorem liesBuilder : liesAt Tryz.prog Tryz.prog.depth 108 (2 / Tryz.prog.cellsOf 108) 0 108 1 = true := by kernel_rfl
theorem infoByte : (Tryz.prog.info? 5).map (fun i => (i.zero, i.size, i.bytes)) = some (some (.int .u8 0), 1, 1) := by kernel_rfl
set_option maxHeartbeats 1000000 in
set_option maxRecDepth 100000 in
theorem z9g (b : Nat) (w : World) (h0 : w.cell? ⟨b, 0, none⟩ = some (.pointer (some ⟨b, 0, none⟩))) :
  Calls Tryz.prog 96 #[.pointer (some ⟨b, 0, none⟩)] w fun e w' => e = .returned (.tuple #[]) ∧ w' = w := by
 obtain ⟨j, hj, _⟩ := Option.map_eq_some_iff.1 y7d
 have hu := Tryz.underlying108
 go_enter Tryz.func96, Tryz.ntmps96
 go_wp2
 rw [Lib.run_neq_ptr_same w _ Tryz.underlying105 hj]
 go_wp2
 go_end0
 exact ⟨rfl, rfl⟩
set_option maxHeartbeats 1000000 in
set_option maxRecDepth 100000 in
theorem z7Y (b : Nat) (w : World) (h0 : w.cell? ⟨b, 0, none⟩ = some (.pointer none)) (hsh : w.shape? b = some (108, 2)) (hfz : w.frozen? ⟨b, 0, none⟩ = false) :
  Calls Tryz.prog 96 #[.pointer (some ⟨b, 0, none⟩)] w fun e w' => e = .returned (.tuple #[]) ∧ w' = w.setCell ⟨b, 0, none⟩ (.pointer (some ⟨b, 0, none⟩)) := by
 obtain ⟨j, hj, hjs⟩ := Option.map_eq_some_iff.1 y7d
 have hu := Tryz.underlying108
 go_enter Tryz.func96, Tryz.ntmps96
 go_wp2
 rw [Lib.run_to_unsafe w ⟨b, 0, none⟩ Tryz.underlying105 Tryz.underlying199 hj (by rw [hjs]; decide) hsh (Nat.zero_lt_succ 1)]
 simp only [Result.andThen]
 rw [Oper.upon_value]
 go_wp2
 rw [run_callFunc_extern Tryz.func128 (by kernel_rfl) (by kernel_rfl) (by kernel_rfl) (e := Extern.AbiNoEscape.same) (by kernel_rfl)]
 rw [Lib.run_noEscape]
 simp only [Result.andThen]
 rw [Oper.upon_value]
 go_wp2
 rw [Lib.run_from_unsafe w ⟨b, 0, none⟩ Tryz.underlying199 Tryz.underlying105 hj hsh liesBuilder]
 simp only [Result.andThen]
 rw [Oper.upon_value]
 go_wp2
 go_end0
 exact ⟨rfl, rfl⟩
theorem y5g (B b : Nat) (bs : List Value) (w : World) (h : Lib.IsBuilder 108 5 B b bs w) :
  Calls Tryz.prog 96 #[.pointer (some ⟨b, 0, none⟩)] w fun e w' => e = .returned (.tuple #[]) ∧ (Lib.BuilderAt 108 5 B b (.pointer (some ⟨b, 0, none⟩)) bs w' ∧ Below B w w') := by
 rcases h with h | h
 ·refine (z7Y b w h.cell0 h.shape h.frozen0).mono ?_
  rintro e w' ⟨rfl, rfl⟩
  exact ⟨rfl, h.used _, (Below.refl B w).setCell (p := ⟨b, 0, none⟩) h.1 _⟩
 ·refine (z9g b w h.cell0).mono ?_
  rintro e w' ⟨rfl, rfl⟩
  exact ⟨rfl, h, Below.refl B _⟩
set_option maxHeartbeats 2000000 in
set_option maxRecDepth 100000 in
theorem z7Z (B b : Nat) (bs : List Value) (s : ByteArray) (w : World) (h : Lib.IsBuilder 108 5 B b bs w) (hlen : bs.length + s.size ≤ 140737488355328) (hBw : B ≤ w.heap.size) :
  Calls Tryz.prog 62 #[.pointer (some ⟨b, 0, none⟩), .string s] w fun e w' => e = .returned (.tuple #[.int .i64 s.size, .nilIface]) ∧ (Lib.BuilderAt 108 5 B b (.pointer (some ⟨b, 0, none⟩)) (bs ++ Lib.strCells s) w' ∧ Below B w w') := by
 obtain ⟨i0, hi, hz0, hz1, hz2⟩ := info_parts infoByte
 have hu := Tryz.underlying108
 go_enter Tryz.func62, Tryz.ntmps62
 go_wp2_with (go_at_call 96; refine (y5g B b bs _ h).mono ?_)
 rintro e w1 ⟨rfl, h1, hb1⟩
 obtain ⟨hB, v, hbk, hown, hne⟩ := h1
 have c0 : w1.cell? ⟨b, 0, none⟩ = some (.pointer (some ⟨b, 0, none⟩)) := by rw [Lib.cell_of_heap hbk]; rfl
 have c1 : w1.cell? ⟨b, 1, none⟩ = some v := by rw [Lib.cell_of_heap hbk]; rfl
 go_wp2_with (at_builtin; refine Lib.wpList_append_own_string _ rfl _ _ 106 9 rfl B 5 i0 Tryz.underlying106 Tryz.underlying9 hi hz0 hz1 hz2 _ _ _ rfl hown s rfl ?c3 ?c4 ?c5 ?_)
 case c3 => unfold maxLen; omega
 case c4 => omega
 case c5 => have := hb1.size; omega
 intro v' w2 hown' hgrow _
 have hlt : b < w1.heap.size := by
  rcases Nat.lt_or_ge b w1.heap.size with h' | h'
  ·exact h'
  ·simp [Array.getElem?_eq_none h'] at hbk
 have hb2 : w2.heap[b]? = some (.cells #[.pointer (some ⟨b, 0, none⟩), v] 108 (0, 0)) := by
  rw [hgrow.block b hlt (fun e => hne e.symm)]
  exact hbk
 have d0 : w2.cell? ⟨b, 0, none⟩ = some (.pointer (some ⟨b, 0, none⟩)) := by rw [Lib.cell_of_heap hb2]; rfl
 have d1 : w2.cell? ⟨b, 1, none⟩ = some v := by rw [Lib.cell_of_heap hb2]; rfl
 have f1 : w2.frozen? ⟨b, 1, none⟩ = false := Lib.frozen_of_heap hb2 1
 obtain ⟨ao, n', cap, rfl⟩ : ∃ ao n' cap, v' = .slice ao n' cap := by
  rcases hown'.2 with ⟨hv, _⟩ | ⟨g, cap, cur, hv, _⟩
  ·exact ⟨_, _, _, hv⟩
  ·exact ⟨_, _, _, hv⟩
 go_wp2
 go_ret2
 refine ⟨rfl, ?_, ?_⟩
 ·exact Lib.BuilderAt.put (T := 108) (e := 5) hB hb2 (bs' := bs ++ Lib.strCells s) (by simpa [Lib.strCells_length] using hown') (by decide)
 ·exact (hb1.grown hgrow (by have := hb1.size; omega) (fun k hk => (hown.lt k hk).1)).setCell (p := ⟨b, 1, none⟩) hB _
end Go.Proofs.YtplkoabikliagaaGreatDoor.K
namespace Go.Proofs.YtplkoabikliagaaGreatDoor.K
open Go.RowKit Go.Proofs.YtplkoabikliagaaGreatDoorW.PrintWords Go.Proofs.YtplkoabikliagaaGreatDoorW.PrintLast Go.Proofs.YtplkoabikliagaaGreatDoorW.PrintMore
open Go.Proofs.YtplkoabikliagaaGreatDoor.L
def y4j (x : Int) (k : Nat) : Bool := Go.bits .and .u32 (x / 2 ^ k) 1 == 1
def y0t (p m : Int) : Nat → List ByteArray → List UInt8
 | _, [] => []
 | k, f :: r => (if y4j p k = true then 43 :: f.data.toList else if y4j m k = true then 45 :: f.data.toList else []) ++ y0t p m (k + 1) r
def z2J.f (l0_0 : List ByteArray) (l0_1 : List z1J) (a1 : Int) (a2 : Int) : Option (ByteArray × Int) :=
 (z0T.f l0_0 l0_1).bind fun e => if e = 0 then (z2d.f l0_0 l0_1 a1 a2).bind fun b => if b = true then some (⟨(y0t a1 a2 0 l0_0).toArray⟩, 0) else some (⟨#[]⟩, 20) else some (⟨#[]⟩, e)
set_option maxHeartbeats 8000000 in
set_option maxRecDepth 100000 in
theorem z2J.calls (z0U : Option Addr) (c0_0 : Nat) (l0_0 : List ByteArray) (z0X : Option Addr) (c0_1 : Nat) (l0_1 : List z1J) (a1 : Int) (a2 : Int) (r1 : ByteArray) (r2 : Int) (w : World) (hr0_0 : Kd.C Kd.string w z0U l0_0.length l0_0) (hc0_0 : l0_0.length ≤ c0_0) (hr0_1 : Kd.C z5a w z0X l0_1.length l0_1) (hc0_1 : l0_1.length ≤ c0_1) (h : z2J.f l0_0 l0_1 a1 a2 = some (r1, r2)) :
  Calls Tryz.prog 175 #[.agg #[.slice z0U l0_0.length c0_0, .slice z0X l0_1.length c0_1], .int .u32 a1, .int .u32 a2] w fun e w' => e = .returned (.tuple #[.string r1, .int .i64 r2]) ∧ Below w.heap.size w w' := by
 have HR0 := z0a.mk hr0_0
 have HR1 := z0a.mk hr0_1
 clear hr0_0 hr0_1
 have hu25 := Tryz.underlying25
 have hu69 := Tryz.underlying108
 have HS := z0a.mk (St.start w)
 unfold z2J.f at h
 cases hfc : z0T.f l0_0 l0_1 with
 | none => rw [hfc] at h; simp at h
 | some q =>
  rw [hfc] at h
  simp only [Option.bind_some] at h
  have HFC := z0a.mk hfc
  clear hfc
  by_cases hq : q = 0
  ·subst hq
   rw [if_pos rfl] at h
   cases hw : z2d.f l0_0 l0_1 a1 a2 with
   | none => rw [hw] at h; simp at h
   | some q2 =>
    rw [hw] at h
    simp only [Option.bind_some] at h
    have HW := z0a.mk hw
    clear hw
    cases q2 with
    | false =>
     simp only [Bool.false_eq_true, if_false, Option.some.injEq, Prod.mk.injEq] at h
     obtain ⟨rfl, rfl⟩ := h
     go_enter Tryz.func175, Tryz.ntmps175
     go_wp2_with (first | ((with_reducible refine z0o (N := 3) rfl ?_); refine z2t HS.out rfl (cs := #[.slice z0U l0_0.length c0_0, .slice z0X l0_1.length c0_1]) (t := 25) ?hr ?_; (case hr => first | (go_simp; done) | (go_simp; rfl)); clear HS; intro g3 w_g3 hs hb; have HS := z0a.mk hs; clear hs hb; (try clear hc_g3 hf_g3); obtain ⟨hc_g3, hf_g3⟩ := HS.out.cell 0 rfl) | (go_at_call 78; refine (z0T.calls _ _ _ _ _ _ _ _ (Kd.z0t HR0.out HS.out.below) hc0_0 (Kd.z0t HR1.out HS.out.below) hc0_1 HFC.out).mono ?_; rintro e w1 ⟨rfl, hb⟩; have hs := HS.out.down hb; clear HS; have HS := z0a.mk hs; clear hs hb; (try clear hc_g3 hf_g3); obtain ⟨hc_g3, hf_g3⟩ := HS.out.cell 0 rfl) | (go_at_call 112; refine (z2d.calls _ _ _ _ _ _ _ _ false _ (Kd.z0t HR0.out HS.out.below) hc0_0 (Kd.z0t HR1.out HS.out.below) hc0_1 HW.out).mono ?_; rintro e w2 ⟨rfl, hb⟩; have hs := HS.out.down hb; clear HS; have HS := z0a.mk hs; clear hs hb; (try clear hc_g3 hf_g3); obtain ⟨hc_g3, hf_g3⟩ := HS.out.cell 0 rfl))
     go_ret2
     exact ⟨rfl, HS.out.below⟩
    | true =>
     simp only [if_true, Option.some.injEq, Prod.mk.injEq] at h
     obtain ⟨hr1, rfl⟩ := h
     have HR := z0a.mk hr1
     clear hr1
     have hlen := y4i HFC.out
     go_enter Tryz.func175, Tryz.ntmps175
     go_wp2_with (first | ((with_reducible refine z0o (N := 3) rfl ?_); refine z2t HS.out rfl (cs := #[.slice z0U l0_0.length c0_0, .slice z0X l0_1.length c0_1]) (t := 25) ?hr ?_; (case hr => first | (go_simp; done) | (go_simp; rfl)); clear HS; intro g3 w_g3 hs hb; have HS := z0a.mk hs; clear hs hb; (try clear hc_g3 hf_g3); obtain ⟨hc_g3, hf_g3⟩ := HS.out.cell 0 rfl) | (go_at_call 78; refine (z0T.calls _ _ _ _ _ _ _ _ (Kd.z0t HR0.out HS.out.below) hc0_0 (Kd.z0t HR1.out HS.out.below) hc0_1 HFC.out).mono ?_; rintro e w1 ⟨rfl, hb⟩; have hs := HS.out.down hb; clear HS; have HS := z0a.mk hs; clear hs hb; (try clear hc_g3 hf_g3); obtain ⟨hc_g3, hf_g3⟩ := HS.out.cell 0 rfl) | (go_at_call 112; refine (z2d.calls _ _ _ _ _ _ _ _ true _ (Kd.z0t HR0.out HS.out.below) hc0_0 (Kd.z0t HR1.out HS.out.below) hc0_1 HW.out).mono ?_; rintro e w2 ⟨rfl, hb⟩; have hs := HS.out.down hb; clear HS; have HS := z0a.mk hs; clear hs hb; (try clear hc_g3 hf_g3); obtain ⟨hc_g3, hf_g3⟩ := HS.out.cell 0 rfl) | ((with_reducible refine z0o (N := 9) rfl ?_); refine z2t HS.out rfl (cs := #[.pointer none, .slice none 0 0]) (t := 108) ?hr ?_; (case hr => first | (go_simp; done) | (go_simp; rfl)); clear HS; intro g9 w_g9 hs hb; have HS := z0a.mk hs; clear hs hb; (try clear hc_g9 hf_g9); obtain ⟨hc_g9, hf_g9⟩ := HS.out.cell 0 rfl; (try clear hc_g3 hf_g3); obtain ⟨hc_g3, hf_g3⟩ := HS.out.cell 1 rfl))
     have hlt39 : g3 < g9 := by have := HS.out.apart; simpa using this
     have hsm := z9d _ _ (y1N HFC.out).1
     have HSM := z0a.mk hsm
     clear hsm
     have HSTA := HS
     obtain ⟨wo, hwo⟩ : ∃ wo : World, wo = w_g9 := ⟨_, rfl⟩
     subst hwo
     go_loopw [25] (fun i wr => ∃ k : Nat, ∃ acc : List UInt8, k ≤ l0_0.length ∧ acc.length ≤ 33 * k ∧ i = .int .i64 k ∧ z0a (Lib.IsBuilder 108 5 g9 g9 (Lib.byteCells acc) wr) ∧ z0a (Below g9 wo wr) ∧ z0a (acc ++ y0t a1 a2 k (l0_0.drop k) = y0t a1 a2 0 l0_0)) (fun i _ => l0_0.length - (intOf i).toNat)
     case atStart =>
      refine ⟨0, [], Nat.zero_le _, by simp, rfl, ⟨.inl ⟨Nat.le_refl _, .slice none 0 0, HS.out.get 0 rfl, World.ownsRow_nil _ _ _ _, by simp [Value.ownBlock]⟩⟩, ⟨Below.refl _ _⟩, ⟨by simp⟩⟩
     case round =>
      obtain ⟨k, acc, hk, hacc, rfl, HI, HBW, HT⟩ := hrel
      have hc3 : ∀ j, wr.cell? ⟨g3, j, none⟩ = #[Value.slice z0U l0_0.length c0_0, Value.slice z0X l0_1.length c0_1][j]? := fun j => (HBW.out.cell (p := ⟨g3, j, none⟩) hlt39).trans (hc_g3 j)
      have hge := HSTA.out.ge 0 rfl
      have hb0 : Below w.heap.size w wr := HSTA.out.below.trans (HBW.out.mono hge)
      have HB0 := z0a.mk hb0
      have hs9 : g9 < wr.heap.size := Nat.lt_of_lt_of_le (HSTA.out.lt 0 rfl) HBW.out.size
      clear hb0 hc_g3 hf_g3 hc_g9 hf_g9
      by_cases hlt : k < l0_0.length
      ·obtain ⟨ad, hA, hcell⟩ := Kd.z7V (Kd.z0t HR0.out HB0.out) (k : Int) (by omega) (by omega)
       subst hA
       rw [Int.toNat_natCast] at hcell
       obtain ⟨s, hs⟩ : ∃ s, s = z7Q ByteArray.empty l0_0 (k : Int) := ⟨_, rfl⟩
       rw [← hs] at hcell
       have hcons : l0_0.drop k = s :: l0_0.drop (k + 1) := by
        rw [hs, List.drop_eq_getElem_cons hlt]
        simp [z7Q, List.getD_eq_getElem?_getD, hlt]
       have hsz : s.size ≤ 32 := HSM.out s (List.mem_of_mem_drop (by rw [hcons]; exact List.mem_cons_self))
       have hT := HT.out
       rw [hcons, y0t] at hT
       have HT2 := z0a.mk hT
       clear hT HT hs hcons
       have HL := z0a.mk (show ∀ c : UInt8, (Lib.byteCells acc).length + ((⟨#[c]⟩ : ByteArray) ++ s).size ≤ 140737488355328 from fun c => by
        have e : ((⟨#[c]⟩ : ByteArray) ++ s).size = 1 + s.size := by rw [ByteArray.size_append]; rfl
        rw [Lib.byteCells_length, e]
        omega)
       by_cases hp : y4j a1 k = true
       ·have HP := z0a.mk hp
        unfold y4j at hp
        go_wp2_with (go_at_call 62; go_loud (with_reducible refine (z7Z g9 g9 (Lib.byteCells acc) ((⟨#[43]⟩ : ByteArray) ++ s) _ HI.out (HL.out _) (by omega)).mono ?_); rintro e w3 ⟨rfl, hI3, hb3⟩; have HI3 := z0a.mk hI3; have HB3 := z0a.mk hb3; clear hI3 hb3)
        go_roundw
        case rel =>
         refine ⟨k + 1, acc ++ 43 :: s.data.toList, by omega, by simp; have : s.data.size = s.size := rfl; omega, by go_num, ⟨.inr ?_⟩, ⟨HBW.out.trans HB3.out⟩, ⟨?_⟩⟩
         ·have := HI3.out
          rw [Lib.byteCells_append]
          exact this
         ·have := HT2.out
          rw [if_pos HP.out] at this
          simpa using this
        case measure => simp [intOf]; omega
       ·have hp' : y4j a1 k = false := by simpa using hp
        have HP := z0a.mk hp
        unfold y4j at hp'
        clear hp
        by_cases hm : y4j a2 k = true
        ·have HM := z0a.mk hm
         unfold y4j at hm
         go_wp2_with (go_at_call 62; go_loud (with_reducible refine (z7Z g9 g9 (Lib.byteCells acc) ((⟨#[45]⟩ : ByteArray) ++ s) _ HI.out (HL.out _) (by omega)).mono ?_); rintro e w3 ⟨rfl, hI3, hb3⟩; have HI3 := z0a.mk hI3; have HB3 := z0a.mk hb3; clear hI3 hb3)
         go_roundw
         case rel =>
          refine ⟨k + 1, acc ++ 45 :: s.data.toList, by omega, by simp; have : s.data.size = s.size := rfl; omega, by go_num, ⟨.inr ?_⟩, ⟨HBW.out.trans HB3.out⟩, ⟨?_⟩⟩
          ·have := HI3.out
           rw [Lib.byteCells_append]
           exact this
          ·have := HT2.out
           rw [if_neg HP.out, if_pos HM.out] at this
           simpa using this
         case measure => simp [intOf]; omega
        ·have hm' : y4j a2 k = false := by simpa using hm
         have HM := z0a.mk hm
         unfold y4j at hm'
         clear hm
         go_wp2
         go_roundw
         case rel =>
          refine ⟨k + 1, acc, by omega, by omega, by go_num, ⟨HI.out⟩, ⟨HBW.out⟩, ⟨?_⟩⟩
          have := HT2.out
          rw [if_neg HP.out, if_neg HM.out] at this
          simpa using this
         case measure => simp [intOf]; omega
      ·have hke : k = l0_0.length := by omega
       have hT := HT.out
       rw [hke] at hT
       simp [y0t] at hT
       rw [← hT] at HR
       clear hT HT hke
       go_wp2_with (go_at_call 64; refine (Tryz.Builder_String_any g9 g9 acc _ HI.out (by omega)).mono ?_; rintro e w3 ⟨rfl, hb⟩)
       go_ret2
       exact ⟨by rw [← HR.out]; rfl, HB0.out.trans (hb.mono hge)⟩
  ·rw [if_neg hq] at h
   simp only [Option.some.injEq, Prod.mk.injEq] at h
   obtain ⟨rfl, rfl⟩ := h
   have hq1 : (q == 0) = false := by simpa using hq
   have hq2 : (q != 0) = true := by simpa using hq
   clear hq
   go_enter Tryz.func175, Tryz.ntmps175
   go_wp2_with (first | ((with_reducible refine z0o (N := 3) rfl ?_); refine z2t HS.out rfl (cs := #[.slice z0U l0_0.length c0_0, .slice z0X l0_1.length c0_1]) (t := 25) ?hr ?_; (case hr => first | (go_simp; done) | (go_simp; rfl)); clear HS; intro g3 w_g3 hs hb; have HS := z0a.mk hs; clear hs hb; (try clear hc_g3 hf_g3); obtain ⟨hc_g3, hf_g3⟩ := HS.out.cell 0 rfl) | (go_at_call 78; refine (z0T.calls _ _ _ _ _ _ _ _ (Kd.z0t HR0.out HS.out.below) hc0_0 (Kd.z0t HR1.out HS.out.below) hc0_1 HFC.out).mono ?_; rintro e w1 ⟨rfl, hb⟩; have hs := HS.out.down hb; clear HS; have HS := z0a.mk hs; clear hs hb; (try clear hc_g3 hf_g3); obtain ⟨hc_g3, hf_g3⟩ := HS.out.cell 0 rfl))
   go_ret2
   exact ⟨rfl, HS.out.below⟩
end Go.Proofs.YtplkoabikliagaaGreatDoor.K
namespace Go.Proofs.YtplkoabikliagaaGreatDoor.K
open Go.RowKit Go.Proofs.YtplkoabikliagaaGreatDoorW.PrintWords Go.Proofs.YtplkoabikliagaaGreatDoorW.PrintLast Go.Proofs.YtplkoabikliagaaGreatDoorW.PrintMore
attribute [local go_sem] z1o z1p z1B z1C z1b z1c z1q z1r
set_option linter.unusedVariables false
set_option linter.unusedSimpArgs false
def z4X.f (l0_0 : List ByteArray) (l0_1 : List (z1J)) (a1 : Int) (a2 : Int) : Option (Bool) := (z2J.f l0_0 l0_1 a1 a2).bind fun bt112 => (some (bt112.2 == 0))
set_option maxHeartbeats 8000000 in
set_option maxRecDepth 100000 in
theorem z4X.calls (z0U : Option Addr) (c0_0 : Nat) (l0_0 : List ByteArray) (z0X : Option Addr) (c0_1 : Nat) (l0_1 : List (z1J)) (a1 : Int) (a2 : Int) (r : Bool) (w : World) (hr0_0 : Kd.C Kd.string w z0U l0_0.length l0_0) (hc0_0 : l0_0.length ≤ c0_0) (hr0_1 : Kd.C z5a w z0X l0_1.length l0_1) (hc0_1 : l0_1.length ≤ c0_1) (h : z4X.f l0_0 l0_1 a1 a2 = some r) :
  Calls Tryz.prog 172 #[.agg #[.slice z0U l0_0.length c0_0, .slice z0X l0_1.length c0_1], .int .u32 a1, .int .u32 a2] w fun e w' => e = .returned (.bool r) ∧ Below w.heap.size w w' := by
 have hu25 := Tryz.underlying25
 have z2g := z0a.mk hr0_0
 have z1g := z0a.mk hc0_0
 clear hr0_0 hc0_0
 have z2x := z0a.mk hr0_1
 have z1j := z0a.mk hc0_1
 clear hr0_1 hc0_1
 have HB := z0a.mk (Below.refl w.heap.size w)
 have H : ((z2J.f l0_0 l0_1 a1 a2).bind fun bt112 => (some (bt112.2 == 0))) = some r := h
 clear h
 replace H := Option.bind_eq_some_iff.mp H
 obtain ⟨⟨t112, t113⟩, A40, H⟩ := H
 replace H : (some (t113 == 0)) = some r := H
 have A4 := z0a.mk A40
 clear A40
 obtain rfl := Option.some.inj H
 go_enter Tryz.func172, Tryz.ntmps172
 go_wp2_with (first | ((with_reducible refine z0o (N := 3) rfl ?_); refine zo (cs := #[.slice z0U l0_0.length c0_0, .slice z0X l0_1.length c0_1]) (t := 25) ?_; intro gb111 hg w5 hbox hb; have x8B := z0a.mk hbox; have GW111 := zG HB hg; have GE111 := zG HB hg; replace HB := zB HB hb; clear hb hbox hg; obtain ⟨z8a, z8b, z8c, z8d⟩ := zc2 w5 x8B.out) | ((with_reducible refine z0m (f := 175) rfl ?_); refine z1a (some 13) rfl rfl Tryz.func175 (by kernel_rfl) rfl #[.agg #[.slice z0U l0_0.length c0_0, .slice z0X l0_1.length c0_1], .int .u32 a1, .int .u32 a2] rfl zq ?_; (with_reducible refine (z2J.calls _ _ l0_0 _ _ l0_1 a1 a2 t112 t113 _ ?z0M z1g.out ?z0Q z1j.out A4.out).mono ?_); (case z0M => exact zs); (case z0Q => exact zs); rintro e w7 ⟨rfl, hb⟩; refine ⟨_, rfl, ?_⟩; replace x8B := zK x8B hb; replace HB := zB HB hb; (try clear hb)))
 go_ret
 exact ⟨zr, zb⟩
def z2B.f (l0_0 : List ByteArray) (l0_1 : List (z1J)) (a1 : Int) (a2 : Int) (a3 : Int) : Option (Bool) := if a1 = 0 then ((z4X.f l0_0 l0_1 a2 a3).bind fun t115 => (some t115)) else ((z3L.f l0_0 l0_1 a1).bind fun t116 => (if t116 = true then (some ((Go.bits .or .u32 a2 a3) == 0)) else (some false)))
set_option maxHeartbeats 8000000 in
set_option maxRecDepth 100000 in
theorem z2B.calls (z0U : Option Addr) (c0_0 : Nat) (l0_0 : List ByteArray) (z0X : Option Addr) (c0_1 : Nat) (l0_1 : List (z1J)) (a1 : Int) (a2 : Int) (a3 : Int) (r : Bool) (w : World) (hr0_0 : Kd.C Kd.string w z0U l0_0.length l0_0) (hc0_0 : l0_0.length ≤ c0_0) (hr0_1 : Kd.C z5a w z0X l0_1.length l0_1) (hc0_1 : l0_1.length ≤ c0_1) (h : z2B.f l0_0 l0_1 a1 a2 a3 = some r) :
  Calls Tryz.prog 142 #[.agg #[.slice z0U l0_0.length c0_0, .slice z0X l0_1.length c0_1], .int .i32 a1, .int .u32 a2, .int .u32 a3] w fun e w' => e = .returned (.bool r) ∧ Below w.heap.size w w' := by
 have hu25 := Tryz.underlying25
 have z2g := z0a.mk hr0_0
 have z1g := z0a.mk hc0_0
 clear hr0_0 hc0_0
 have z2x := z0a.mk hr0_1
 have z1j := z0a.mk hc0_1
 clear hr0_1 hc0_1
 have HB := z0a.mk (Below.refl w.heap.size w)
 have H : (if a1 = 0 then ((z4X.f l0_0 l0_1 a2 a3).bind fun t115 => (some t115)) else ((z3L.f l0_0 l0_1 a1).bind fun t116 => (if t116 = true then (some ((Go.bits .or .u32 a2 a3) == 0)) else (some false)))) = some r := h
 clear h
 by_cases c5 : a1 = 0
 ·rw [if_pos c5] at H
  have c5b0 : (a1 == 0) = true := beq_iff_eq.mpr c5
  have c5b1 : (a1 != 0) = false := bne_eq_false_iff_eq.mpr c5
  clear c5
  replace H := Option.bind_eq_some_iff.mp H
  obtain ⟨t115, A60, H⟩ := H
  replace H : (some t115) = some r := H
  have A6 := z0a.mk A60
  clear A60
  obtain rfl := Option.some.inj H
  go_enter Tryz.func142, Tryz.ntmps142
  go_wp2_with (first | ((with_reducible refine z0o (N := 4) rfl ?_); refine zo (cs := #[.slice z0U l0_0.length c0_0, .slice z0X l0_1.length c0_1]) (t := 25) ?_; intro w2D hg w7 hbox hb; have y1O := z0a.mk hbox; have w2E := zG HB hg; have w2F := zG HB hg; replace HB := zB HB hb; clear hb hbox hg; obtain ⟨y1c, y4A, y1d, y4B⟩ := zc2 w7 y1O.out) | ((with_reducible refine z0m (f := 172) rfl ?_); refine z1a (some 23) rfl rfl Tryz.func172 (by kernel_rfl) rfl #[.agg #[.slice z0U l0_0.length c0_0, .slice z0X l0_1.length c0_1], .int .u32 a2, .int .u32 a3] rfl zq ?_; (with_reducible refine (z4X.calls _ _ l0_0 _ _ l0_1 a2 a3 t115 _ ?z0M z1g.out ?z0Q z1j.out A6.out).mono ?_); (case z0M => exact zs); (case z0Q => exact zs); rintro e w9 ⟨rfl, hb⟩; refine ⟨_, rfl, ?_⟩; replace y1O := zK y1O hb; replace HB := zB HB hb; (try clear hb)))
  go_ret
  exact ⟨zr, zb⟩
 rw [if_neg c5] at H
 have c5b0 : (a1 == 0) = false := beq_eq_false_iff_ne.mpr c5
 have c5b1 : (a1 != 0) = true := bne_iff_ne.mpr c5
 replace H := Option.bind_eq_some_iff.mp H
 obtain ⟨t116, A100, H⟩ := H
 replace H : (if t116 = true then (some ((Go.bits .or .u32 a2 a3) == 0)) else (some false)) = some r := H
 have A10 := z0a.mk A100
 clear A100
 by_cases c11 : t116 = true
 ·subst c11
  have H1 : (some ((Go.bits .or .u32 a2 a3) == 0)) = some r := by rw [if_pos rfl] at H; exact H
  clear H
  have H := H1
  clear H1
  obtain rfl := Option.some.inj H
  go_enter Tryz.func142, Tryz.ntmps142
  go_wp2_with (first | ((with_reducible refine z0o (N := 4) rfl ?_); refine zo (cs := #[.slice z0U l0_0.length c0_0, .slice z0X l0_1.length c0_1]) (t := 25) ?_; intro w2D hg w12 hbox hb; have y1O := z0a.mk hbox; have w2E := zG HB hg; have w2F := zG HB hg; replace HB := zB HB hb; clear hb hbox hg; obtain ⟨z9l, z9m, z9n, z9o⟩ := zc2 w12 y1O.out) | ((with_reducible refine z0m (f := 171) rfl ?_); refine z1a (some 13) rfl rfl Tryz.func171 (by kernel_rfl) rfl #[.agg #[.slice z0U l0_0.length c0_0, .slice z0X l0_1.length c0_1], .int .i32 a1] rfl zq ?_; (with_reducible refine (z3L.calls _ _ l0_0 _ _ l0_1 a1 true _ ?z0M z1g.out ?z0Q z1j.out A10.out).mono ?_); (case z0M => exact zs); (case z0Q => exact zs); rintro e w14 ⟨rfl, hb⟩; refine ⟨_, rfl, ?_⟩; replace y1O := zK y1O hb; replace HB := zB HB hb; (try clear hb)))
  go_ret
  exact ⟨zr, zb⟩
 replace c11 := Bool.eq_false_iff.mpr c11
 subst c11
 have H1 : (some false) = some r := by rw [if_neg (show ¬ (false = true) by decide)] at H; exact H
 clear H
 have H := H1
 clear H1
 obtain rfl := Option.some.inj H
 go_enter Tryz.func142, Tryz.ntmps142
 go_wp2_with (first | ((with_reducible refine z0o (N := 4) rfl ?_); refine zo (cs := #[.slice z0U l0_0.length c0_0, .slice z0X l0_1.length c0_1]) (t := 25) ?_; intro w2D hg w15 hbox hb; have y1O := z0a.mk hbox; have w2E := zG HB hg; have w2F := zG HB hg; replace HB := zB HB hb; clear hb hbox hg; obtain ⟨z5Y, z6y, z5Z, z6z⟩ := zc2 w15 y1O.out) | ((with_reducible refine z0m (f := 171) rfl ?_); refine z1a (some 13) rfl rfl Tryz.func171 (by kernel_rfl) rfl #[.agg #[.slice z0U l0_0.length c0_0, .slice z0X l0_1.length c0_1], .int .i32 a1] rfl zq ?_; (with_reducible refine (z3L.calls _ _ l0_0 _ _ l0_1 a1 false _ ?z0M z1g.out ?z0Q z1j.out A10.out).mono ?_); (case z0M => exact zs); (case z0Q => exact zs); rintro e w17 ⟨rfl, hb⟩; refine ⟨_, rfl, ?_⟩; replace y1O := zK y1O hb; replace HB := zB HB hb; (try clear hb)))
 go_ret
 exact ⟨zr, zb⟩
def z5w.f (l0_0 : List ByteArray) (l0_1 : List (z1J)) (a1_0 : Int) (a1_1 : Int) (a1_2 : Int) (a1_3 : Int) (a2 : Int) : Option (Bool) := if a1_0 = 0 then (if a1_1 < 0 then (some false) else (if a1_1 ≥ a2 then (some false) else ((z2B.f l0_0 l0_1 a1_0 a1_2 a1_3).bind fun t119 => (some t119)))) else (if a1_1 = 0 then ((z2B.f l0_0 l0_1 a1_0 a1_2 a1_3).bind fun t120 => (some t120)) else (some false))
set_option maxHeartbeats 8000000 in
set_option maxRecDepth 100000 in
theorem z5w.calls (z0U : Option Addr) (c0_0 : Nat) (l0_0 : List ByteArray) (z0X : Option Addr) (c0_1 : Nat) (l0_1 : List (z1J)) (a1_0 : Int) (a1_1 : Int) (a1_2 : Int) (a1_3 : Int) (a2 : Int) (r : Bool) (w : World) (hr0_0 : Kd.C Kd.string w z0U l0_0.length l0_0) (hc0_0 : l0_0.length ≤ c0_0) (hr0_1 : Kd.C z5a w z0X l0_1.length l0_1) (hc0_1 : l0_1.length ≤ c0_1) (h : z5w.f l0_0 l0_1 a1_0 a1_1 a1_2 a1_3 a2 = some r) :
  Calls Tryz.prog 143 #[.agg #[.slice z0U l0_0.length c0_0, .slice z0X l0_1.length c0_1], .agg #[.int .i32 a1_0, .int .i64 a1_1, .int .u32 a1_2, .int .u32 a1_3], .int .i64 a2] w fun e w' => e = .returned (.bool r) ∧ Below w.heap.size w w' := by
 have hu25 := Tryz.underlying25
 have hu56 := Tryz.underlying56
 have z2g := z0a.mk hr0_0
 have z1g := z0a.mk hc0_0
 clear hr0_0 hc0_0
 have z2x := z0a.mk hr0_1
 have z1j := z0a.mk hc0_1
 clear hr0_1 hc0_1
 have HB := z0a.mk (Below.refl w.heap.size w)
 have H : (if a1_0 = 0 then (if a1_1 < 0 then (some false) else (if a1_1 ≥ a2 then (some false) else ((z2B.f l0_0 l0_1 a1_0 a1_2 a1_3).bind fun t119 => (some t119)))) else (if a1_1 = 0 then ((z2B.f l0_0 l0_1 a1_0 a1_2 a1_3).bind fun t120 => (some t120)) else (some false))) = some r := h
 clear h
 by_cases c4 : a1_0 = 0
 rotate_left
 ·rw [if_neg c4] at H
  have c4b0 : (a1_0 == 0) = false := beq_eq_false_iff_ne.mpr c4
  have c4b1 : (a1_0 != 0) = true := bne_iff_ne.mpr c4
  by_cases c22 : a1_1 = 0
  rotate_left
  ·rw [if_neg c22] at H
   have c22b0 : (a1_1 == 0) = false := beq_eq_false_iff_ne.mpr c22
   have c22b1 : (a1_1 != 0) = true := bne_iff_ne.mpr c22
   obtain rfl := Option.some.inj H
   go_enter Tryz.func143, Tryz.ntmps143
   go_wp2_with (first | ((with_reducible refine z0o (N := 3) rfl ?_); refine zo (cs := #[.slice z0U l0_0.length c0_0, .slice z0X l0_1.length c0_1]) (t := 25) ?_; intro x6R hg w30 hbox hb; have z4u := z0a.mk hbox; have x6S := zG HB hg; have x6T := zG HB hg; replace HB := zB HB hb; clear hb hbox hg) | ((with_reducible refine z0o (N := 4) rfl ?_); refine zo (cs := #[.int .i32 a1_0, .int .i64 a1_1, .int .u32 a1_2, .int .u32 a1_3]) (t := 56) ?_; intro x6U hg w31 hbox hb; have y0u := z0a.mk hbox; have x6V := zG HB hg; have x6W := zG HB hg; have z4w := zN z4u hg; have z4x := zM z4u hg; replace z4u := zK z4u hb; replace HB := zB HB hb; clear hb hbox hg; have hnb32 := z4x.out; have hnc32 := z4w.out; obtain ⟨y7T, y7U, y7V, x8C, y7W, y7X, y7Y, x8D⟩ := zc4 w31 y0u.out))
   go_ret
   exact ⟨zr, zb⟩
  rw [if_pos c22] at H
  have c22b0 : (a1_1 == 0) = true := beq_iff_eq.mpr c22
  have c22b1 : (a1_1 != 0) = false := bne_eq_false_iff_eq.mpr c22
  clear c22
  replace H := Option.bind_eq_some_iff.mp H
  obtain ⟨t120, A230, H⟩ := H
  replace H : (some t120) = some r := H
  have A23 := z0a.mk A230
  clear A230
  obtain rfl := Option.some.inj H
  go_enter Tryz.func143, Tryz.ntmps143
  go_wp2_with (first | ((with_reducible refine z0o (N := 3) rfl ?_); refine zo (cs := #[.slice z0U l0_0.length c0_0, .slice z0X l0_1.length c0_1]) (t := 25) ?_; intro x6R hg w24 hbox hb; have z4u := z0a.mk hbox; have x6S := zG HB hg; have x6T := zG HB hg; replace HB := zB HB hb; clear hb hbox hg) | ((with_reducible refine z0o (N := 4) rfl ?_); refine zo (cs := #[.int .i32 a1_0, .int .i64 a1_1, .int .u32 a1_2, .int .u32 a1_3]) (t := 56) ?_; intro x6U hg w25 hbox hb; have y0u := z0a.mk hbox; have x6V := zG HB hg; have x6W := zG HB hg; have z4w := zN z4u hg; have z4x := zM z4u hg; replace z4u := zK z4u hb; replace HB := zB HB hb; clear hb hbox hg; have hnb26 := z4x.out; have hnc26 := z4w.out; obtain ⟨y1P, y5h, y5i, y5j, y1Q, y5k, y5l, y5m⟩ := zc4 w25 y0u.out; obtain ⟨y1R, y5n, y1S, y5o⟩ := zc2 w25 z4u.out) | ((with_reducible refine z0m (f := 142) rfl ?_); refine z1a (some 38) rfl rfl Tryz.func142 (by kernel_rfl) rfl #[.agg #[.slice z0U l0_0.length c0_0, .slice z0X l0_1.length c0_1], .int .i32 a1_0, .int .u32 a1_2, .int .u32 a1_3] rfl zq ?_; (with_reducible refine (z2B.calls _ _ l0_0 _ _ l0_1 a1_0 a1_2 a1_3 t120 _ ?z0M z1g.out ?z0Q z1j.out A23.out).mono ?_); (case z0M => exact zs); (case z0Q => exact zs); rintro e w29 ⟨rfl, hb⟩; refine ⟨_, rfl, ?_⟩; replace z4u := zK z4u hb; replace y0u := zK y0u hb; replace HB := zB HB hb; (try clear hb)))
  go_ret
  exact ⟨zr, zb⟩
 rw [if_pos c4] at H
 have c4b0 : (a1_0 == 0) = true := beq_iff_eq.mpr c4
 have c4b1 : (a1_0 != 0) = false := bne_eq_false_iff_eq.mpr c4
 clear c4
 by_cases c5 : a1_1 < 0
 ·rw [if_pos c5] at H
  have c5b0 : decide (a1_1 < 0) = true := decide_eq_true c5
  clear c5
  obtain rfl := Option.some.inj H
  go_enter Tryz.func143, Tryz.ntmps143
  go_wp2_with (first | ((with_reducible refine z0o (N := 3) rfl ?_); refine zo (cs := #[.slice z0U l0_0.length c0_0, .slice z0X l0_1.length c0_1]) (t := 25) ?_; intro x6R hg w6 hbox hb; have z4u := z0a.mk hbox; have x6S := zG HB hg; have x6T := zG HB hg; replace HB := zB HB hb; clear hb hbox hg) | ((with_reducible refine z0o (N := 4) rfl ?_); refine zo (cs := #[.int .i32 a1_0, .int .i64 a1_1, .int .u32 a1_2, .int .u32 a1_3]) (t := 56) ?_; intro x6U hg w7 hbox hb; have y0u := z0a.mk hbox; have x6V := zG HB hg; have x6W := zG HB hg; have z4w := zN z4u hg; have z4x := zM z4u hg; replace z4u := zK z4u hb; replace HB := zB HB hb; clear hb hbox hg; have hnb8 := z4x.out; have hnc8 := z4w.out; obtain ⟨z5l, z5m, z9e, hcz9_3, z5n, z5o, z9f, hfz9_3⟩ := zc4 w7 y0u.out))
  go_ret
  exact ⟨zr, zb⟩
 rw [if_neg c5] at H
 have c5b0 : decide (a1_1 < 0) = false := decide_eq_false c5
 clear c5
 by_cases c10 : a1_1 ≥ a2
 ·rw [if_pos c10] at H
  have c10b0 : decide (a2 ≤ a1_1) = true := decide_eq_true c10
  clear c10
  obtain rfl := Option.some.inj H
  go_enter Tryz.func143, Tryz.ntmps143
  go_wp2_with (first | ((with_reducible refine z0o (N := 3) rfl ?_); refine zo (cs := #[.slice z0U l0_0.length c0_0, .slice z0X l0_1.length c0_1]) (t := 25) ?_; intro x6R hg w11 hbox hb; have z4u := z0a.mk hbox; have x6S := zG HB hg; have x6T := zG HB hg; replace HB := zB HB hb; clear hb hbox hg) | ((with_reducible refine z0o (N := 4) rfl ?_); refine zo (cs := #[.int .i32 a1_0, .int .i64 a1_1, .int .u32 a1_2, .int .u32 a1_3]) (t := 56) ?_; intro x6U hg w12 hbox hb; have y0u := z0a.mk hbox; have x6V := zG HB hg; have x6W := zG HB hg; have z4w := zN z4u hg; have z4x := zM z4u hg; replace z4u := zK z4u hb; replace HB := zB HB hb; clear hb hbox hg; have hnb13 := z4x.out; have hnc13 := z4w.out; obtain ⟨y1T, y7Z, x2v, hcz14_3, y1U, y8a, x2w, hfz14_3⟩ := zc4 w12 y0u.out))
  go_ret
  exact ⟨zr, zb⟩
 rw [if_neg c10] at H
 have c10b0 : decide (a2 ≤ a1_1) = false := decide_eq_false c10
 clear c10
 replace H := Option.bind_eq_some_iff.mp H
 obtain ⟨t119, A150, H⟩ := H
 replace H : (some t119) = some r := H
 have A15 := z0a.mk A150
 clear A150
 obtain rfl := Option.some.inj H
 go_enter Tryz.func143, Tryz.ntmps143
 go_wp2_with (first | ((with_reducible refine z0o (N := 3) rfl ?_); refine zo (cs := #[.slice z0U l0_0.length c0_0, .slice z0X l0_1.length c0_1]) (t := 25) ?_; intro x6R hg w16 hbox hb; have z4u := z0a.mk hbox; have x6S := zG HB hg; have x6T := zG HB hg; replace HB := zB HB hb; clear hb hbox hg) | ((with_reducible refine z0o (N := 4) rfl ?_); refine zo (cs := #[.int .i32 a1_0, .int .i64 a1_1, .int .u32 a1_2, .int .u32 a1_3]) (t := 56) ?_; intro x6U hg w17 hbox hb; have y0u := z0a.mk hbox; have x6V := zG HB hg; have x6W := zG HB hg; have z4w := zN z4u hg; have z4x := zM z4u hg; replace z4u := zK z4u hb; replace HB := zB HB hb; clear hb hbox hg; have hnb18 := z4x.out; have hnc18 := z4w.out; obtain ⟨z6A, z8e, z8f, y8b, z6B, z8g, z8h, y8c⟩ := zc4 w17 y0u.out; obtain ⟨z5x, z6a, z5y, z6b⟩ := zc2 w17 z4u.out) | ((with_reducible refine z0m (f := 142) rfl ?_); refine z1a (some 38) rfl rfl Tryz.func142 (by kernel_rfl) rfl #[.agg #[.slice z0U l0_0.length c0_0, .slice z0X l0_1.length c0_1], .int .i32 a1_0, .int .u32 a1_2, .int .u32 a1_3] rfl zq ?_; (with_reducible refine (z2B.calls _ _ l0_0 _ _ l0_1 a1_0 a1_2 a1_3 t119 _ ?z0M z1g.out ?z0Q z1j.out A15.out).mono ?_); (case z0M => exact zs); (case z0Q => exact zs); rintro e w21 ⟨rfl, hb⟩; refine ⟨_, rfl, ?_⟩; replace z4u := zK z4u hb; replace y0u := zK y0u hb; replace HB := zB HB hb; (try clear hb)))
 go_ret
 exact ⟨zr, zb⟩
def z0A.l0 : Nat → List Bool → Bool → Int → Int → Option (Int)
 | 0, _, _, _, _ => none
 | k + 1, x0, x1, x7, x8 => if x8 < x7 then (if 0 ≤ x8 then (if x8 < (x0.length : Int) then (if (x1 == (z7Q false x0 x8)) = true then (some x8) else (z0A.l0 k x0 x1 x7 (wrap64 (x8 + 1)))) else (none)) else (none)) else (some (-1))
def z0A.f (k : Nat) (l0 : List Bool) (a1 : Bool) : Option (Int) := z0A.l0 k l0 a1 (l0.length : Int) 0
theorem z0A.z1t : ∀ k, (∀ y0 y1 y2 y3, LeO (z0A.l0 k y0 y1 y2 y3) (z0A.l0 (k + 1) y0 y1 y2 y3))
 | 0 => fun _ _ _ _ r h => by simp [z0A.l0] at h
 | k + 1 => by
  have ih0 := z0A.z1t k
  ·intro y0 y1 y2 y3
   unfold z0A.l0
   repeat' first
   | (with_reducible exact ih0 _ _ _ _)
   | (with_reducible exact LeO.refl _)
   | (with_reducible exact LeO.none _)
   | (with_reducible refine LeO.ite ?_ ?_)
   | (with_reducible refine LeO.bind ?_ (fun _ => ?_))
theorem z0A.mono : ∀ a0 a1 k, LeO (z0A.f k a0 a1) (z0A.f (k + 1) a0 a1) := by
 intro a0 a1 k
 have ih0 := z0A.z1t k
 unfold z0A.f
 repeat' first
   | (with_reducible exact ih0 _ _ _ _)
   | (with_reducible exact LeO.refl _)
   | (with_reducible exact LeO.none _)
   | (with_reducible refine LeO.ite ?_ ?_)
   | (with_reducible refine LeO.bind ?_ (fun _ => ?_))
set_option maxHeartbeats 8000000 in
set_option maxRecDepth 100000 in
theorem z0A.calls (k : Nat) (A0 : Option Addr) (c0 : Nat) (l0 : List Bool) (a1 : Bool) (r : Int) (w : World) (hr0 : Kd.C Kd.bool w A0 l0.length l0) (hc0 : l0.length ≤ c0) (h : z0A.f k l0 a1 = some r) :
  Calls Tryz.prog 241 #[.slice A0 l0.length c0, .bool a1] w fun e w' => e = .returned (.int .i64 r) ∧ z1v w w' := by
 have HR0 := z0a.mk hr0
 have HC0 := z0a.mk hc0
 clear hr0 hc0
 have H : (z0A.l0 k l0 a1 (l0.length : Int) 0) = some r := h
 clear h
 have H' := z0a.mk H
 clear H
 go_enter Tryz.func241, Tryz.ntmps241
 go_wp2
 go_loopg [8] k (fun kq v8 w' => ∃ (x8_1 : Int), v8 = .int .i64 x8_1 ∧ z0a (z0A.l0 kq l0 a1 (l0.length : Int) x8_1 = some r) ∧ z0a (kq ≤ k) ∧ z1v w w')
 case atStart => exact ⟨(0), ze, H', ⟨Nat.le_refl _⟩, by repeat (first | exact z1v.refl _ | apply z1v.step)⟩
 case round =>
  clear H'
  obtain ⟨x8_1, rfl, HA, HK1, ⟨m1, rfl⟩⟩ := hrel
  cases gk with
  | zero => exact absurd HA.out (by simp [z0A.l0])
  | succ k1 =>
   have H := HA.out
   clear HA
   simp only [z0A.l0] at H
   by_cases c3 : x8_1 < (l0.length : Int)
   rotate_left
   ·rw [if_neg c3] at H
    have c3b0 : decide (x8_1 < (l0.length : Int)) = false := decide_eq_false c3
    clear c3
    obtain rfl := Option.some.inj H
    go_wp2
    go_ret
    exact ⟨ze, zd⟩
   rw [if_pos c3] at H
   have c3b0 : decide (x8_1 < (l0.length : Int)) = true := decide_eq_true c3
   clear c3
   by_cases c4 : 0 ≤ x8_1
   rotate_left
   ·rw [if_neg c4] at H
    exact absurd H (by simp)
   rw [if_pos c4] at H
   have c4b0 : decide (0 ≤ x8_1) = true := decide_eq_true c4
   clear c4
   by_cases c5 : x8_1 < (l0.length : Int)
   rotate_left
   ·rw [if_neg c5] at H
    exact absurd H (by simp)
   rw [if_pos c5] at H
   have c5b0 : decide (x8_1 < (l0.length : Int)) = true := decide_eq_true c5
   clear c5
   by_cases c6 : (a1 == (z7Q false l0 x8_1)) = true
   ·rw [if_pos c6] at H
    have c6b0 : (a1 == (z7Q false l0 x8_1)) = true := c6
    (try (have c6b1 : decide (a1 = (z7Q false l0 x8_1)) = true := by simpa using c6))
    (try (have c6b2 : (a1 == (z7Q false l0 x8_1)) = true := by simpa using c6))
    clear c6
    obtain rfl := Option.some.inj H
    have p121 : 0 ≤ (x8_1 : Int) := za
    have q121 : x8_1 < (l0.length : Int) := za
    obtain ⟨ad121, e121, x8E⟩ := Kd.y4S HR0.out x8_1 p121 q121
    cases e121
    replace p121 := eq_true p121
    replace q121 := eq_true q121
    go_wp2
    go_ret
    exact ⟨ze, zd⟩
   rw [if_neg c6] at H
   have c6b0 : (a1 == (z7Q false l0 x8_1)) = false := by simpa using c6
   (try (have c6b1 : decide (a1 = (z7Q false l0 x8_1)) = false := by simpa using c6))
   (try (have c6b2 : (a1 == (z7Q false l0 x8_1)) = false := by simpa using c6))
   (try (have c6b3 : ¬ (a1 = (z7Q false l0 x8_1)) := by simpa using c6))
   clear c6
   have H' := z0a.mk H
   clear H
   have p121 : 0 ≤ (x8_1 : Int) := za
   have q121 : x8_1 < (l0.length : Int) := za
   obtain ⟨ad121, e121, x8E⟩ := Kd.y4S HR0.out x8_1 p121 q121
   cases e121
   replace p121 := eq_true p121
   replace q121 := eq_true q121
   go_wp2
   go_roundg k1
   case measure => have := HK1.out; omega
   case rel => exact ⟨(wrap64 (x8_1 + 1)), ze, H', ⟨by have := HK1.out; omega⟩, by repeat (first | exact z1v.refl _ | apply z1v.step)⟩
def z0J.f (k : Nat) (l0 : List Bool) (a1 : Bool) : Option (Bool) := (z0A.f k l0 a1).bind fun t122 => (some (decide (t122 ≥ 0)))
theorem z0J.mono : ∀ a0 a1 k, LeO (z0J.f k a0 a1) (z0J.f (k + 1) a0 a1) := by
 intro a0 a1 k
 unfold z0J.f
 repeat' first
   | (with_reducible exact z0A.mono _ _ _)
   | (with_reducible exact LeO.refl _)
   | (with_reducible exact LeO.none _)
   | (with_reducible refine LeO.ite ?_ ?_)
   | (with_reducible refine LeO.bind ?_ (fun _ => ?_))
set_option maxHeartbeats 8000000 in
set_option maxRecDepth 100000 in
theorem z0J.calls (k : Nat) (A0 : Option Addr) (c0 : Nat) (l0 : List Bool) (a1 : Bool) (r : Bool) (w : World) (hr0 : Kd.C Kd.bool w A0 l0.length l0) (hc0 : l0.length ≤ c0) (h : z0J.f k l0 a1 = some r) :
  Calls Tryz.prog 209 #[.slice A0 l0.length c0, .bool a1] w fun e w' => e = .returned (.bool r) ∧ z1v w w' := by
 have HR0 := z0a.mk hr0
 have HC0 := z0a.mk hc0
 clear hr0 hc0
 have H : ((z0A.f k l0 a1).bind fun t122 => (some (decide (t122 ≥ 0)))) = some r := h
 clear h
 replace H := Option.bind_eq_some_iff.mp H
 obtain ⟨t122, A30, H⟩ := H
 replace H : (some (decide (t122 ≥ 0))) = some r := H
 have A3 := z0a.mk A30
 clear A30
 obtain rfl := Option.some.inj H
 go_enter Tryz.func209, Tryz.ntmps209
 go_wp2_with (first | ((with_reducible refine z0m (f := 241) rfl ?_); refine z1a (some 7) rfl rfl Tryz.func241 (by kernel_rfl) rfl #[.slice A0 l0.length c0, .bool a1] rfl zq ?_; (with_reducible refine (z0A.calls k _ _ l0 a1 t122 _ ?z0M ?z4Y A3.out).mono ?_); (case z0M => repeat (first | exact HR0.out | (with_reducible refine Kd.z3F ?_ _) | (with_reducible refine Kd.z3G ?_ _) | (with_reducible refine Kd.z3x ?_))); (case z4Y => exact HC0.out); rintro e w' ⟨rfl, ⟨nd, rfl⟩⟩; refine ⟨_, rfl, ?_⟩))
 go_ret
 exact ⟨ze, zd⟩
mutual
def z0h.j0 : Nat → Int → Bool → List (S58) → Option (Bool)
 | 0, _, _, _ => none
 | k + 1, x3, x17, x2x => if x17 = true then (some false) else (if 0 ≤ x3 then (if (x3 : Int).toNat ≤ 281474976710656 then (z0h.l0 k x3 (List.replicate (x3 : Int).toNat false) x2x (x2x.length : Int) 0) else (none)) else (none))
def z0h.l0 : Nat → Int → List Bool → List (S58) → Int → Int → Option (Bool)
 | 0, _, _, _, _, _ => none
 | k + 1, x3, x4, x21, x22, x23 => if x23 < x22 then (if 0 ≤ x23 then (if x23 < (x21.length : Int) then (if ((z0g x21 x23).f0) = 6 then (z0h.j2 k x3 x4 x23 x21 x22 x23 ((z0g x21 x23).f0) (((z0g x21 x23).f0) == 6) ((z0g x21 x23).f0) ((z0g x21 x23).f1) ((z0g x21 x23).f2) ((z0g x21 x23).f3) ((z0g x21 x23).f4)) else (z0h.j2 k x3 x4 x23 x21 x22 x23 ((z0g x21 x23).f0) (((z0g x21 x23).f0) == 7) ((z0g x21 x23).f0) ((z0g x21 x23).f1) ((z0g x21 x23).f2) ((z0g x21 x23).f3) ((z0g x21 x23).f4))) else (none)) else (none)) else (if 1 ≤ (x4.length : Int) then ((z0J.f k (x4.drop 1) false).bind fun t131 => (some (!t131))) else (none))
def z0h.j5 : Nat → Int → List Bool → Int → List (S58) → Int → Int → Int → Int → Int → Int → List Int → Option (Bool)
 | 0, _, _, _, _, _, _, _, _, _, _, _ => none
 | k + 1, x3, x4, x5, x21, x22, x23, z2W, z3k, z3a, z3b, z2U => if z3k = 0 then (if (Go.bits .or .u32 z3a z3b) = 0 then (z0h.j6 k x3 x4 x5 x21 x22 x23 false z2W z3k z3a z3b z2U) else (z0h.j6 k x3 x4 x5 x21 x22 x23 (z2W != 3) z2W z3k z3a z3b z2U)) else (if z2W = 2 then (if (Go.bits .or .u32 z3a z3b) = 0 then (z0h.j6 k x3 x4 x5 x21 x22 x23 false z2W z3k z3a z3b z2U) else (z0h.j6 k x3 x4 x5 x21 x22 x23 (z2W != 3) z2W z3k z3a z3b z2U)) else (z0h.j6 k x3 x4 x5 x21 x22 x23 true z2W z3k z3a z3b z2U))
def z0h.j6 : Nat → Int → List Bool → Int → List (S58) → Int → Int → Bool → Int → Int → Int → Int → List Int → Option (Bool)
 | 0, _, _, _, _, _, _, _, _, _, _, _, _ => none
 | k + 1, x3, x4, x5, x21, x22, x23, x70, z2W, z3k, z3a, z3b, z2U => if x70 = true then (some false) else (z0h.l1 k x3 x4 x5 x21 x22 x23 z2U (z2U.length : Int) 0)
def z0h.l1 : Nat → Int → List Bool → Int → List (S58) → Int → Int → List Int → Int → Int → Option (Bool)
 | 0, _, _, _, _, _, _, _, _, _ => none
 | k + 1, x3, x4, x5, x21, x22, x23, x72, x73, x74 => if x74 < x73 then (if 0 ≤ x74 then (if x74 < (x72.length : Int) then (if (rd x72 x74) ≤ x5 then (some false) else (if (rd x72 x74) ≥ x3 then (some false) else (if 0 ≤ (rd x72 x74) then (if (rd x72 x74) < (x4.length : Int) then (if z7Q false x4 (rd x72 x74) = true then (some false) else (z0h.l1 k x3 (x4.set ((rd x72 x74) : Int).toNat true) x5 x21 x22 x23 x72 x73 (wrap64 (x74 + 1)))) else (none)) else (none)))) else (none)) else (none)) else (z0h.l0 k x3 x4 x21 x22 (wrap64 (x23 + 1)))
def z0h.j2 : Nat → Int → List Bool → Int → List (S58) → Int → Int → Int → Bool → Int → Int → Int → Int → List Int → Option (Bool)
 | 0, _, _, _, _, _, _, _, _, _, _, _, _, _ => none
 | k + 1, x3, x4, x5, x21, x22, x23, x29, x30, z2W, z3k, z3a, z3b, z2U => if x30 = true then (z0h.j5 k x3 x4 x5 x21 x22 x23 z2W z3k z3a z3b z2U) else (if x29 = 8 then (z0h.j3 k x3 x4 x5 x21 x22 x23 x29 (x29 == 8) z2W z3k z3a z3b z2U) else (z0h.j3 k x3 x4 x5 x21 x22 x23 x29 (x29 == 9) z2W z3k z3a z3b z2U))
def z0h.j3 : Nat → Int → List Bool → Int → List (S58) → Int → Int → Int → Bool → Int → Int → Int → Int → List Int → Option (Bool)
 | 0, _, _, _, _, _, _, _, _, _, _, _, _, _ => none
 | k + 1, x3, x4, x5, x21, x22, x23, x29, x33, z2W, z3k, z3a, z3b, z2U => if x33 = true then (if (z2U.length : Int) = 1 then (z0h.j5 k x3 x4 x5 x21 x22 x23 z2W z3k z3a z3b z2U) else (some false)) else (if x29 = 1 then (z0h.j4 k x3 x4 x5 x21 x22 x23 (x29 == 1) z2W z3k z3a z3b z2U) else (if x29 = 2 then (z0h.j4 k x3 x4 x5 x21 x22 x23 (x29 == 2) z2W z3k z3a z3b z2U) else (if x29 = 3 then (z0h.j4 k x3 x4 x5 x21 x22 x23 (x29 == 3) z2W z3k z3a z3b z2U) else (if x29 = 4 then (z0h.j4 k x3 x4 x5 x21 x22 x23 (x29 == 4) z2W z3k z3a z3b z2U) else (z0h.j4 k x3 x4 x5 x21 x22 x23 (x29 == 5) z2W z3k z3a z3b z2U)))))
def z0h.j4 : Nat → Int → List Bool → Int → List (S58) → Int → Int → Bool → Int → Int → Int → Int → List Int → Option (Bool)
 | 0, _, _, _, _, _, _, _, _, _, _, _, _ => none
 | k + 1, x3, x4, x5, x21, x22, x23, x40, z2W, z3k, z3a, z3b, z2U => if x40 = true then (if (z2U.length : Int) = 0 then (z0h.j5 k x3 x4 x5 x21 x22 x23 z2W z3k z3a z3b z2U) else (some false)) else (some false)
end
def z0h.f (k : Nat) (l0_0 : List (S58)) : Option (Bool) := if (l0_0.length : Int) < 1 then (z0h.j0 k (l0_0.length : Int) true l0_0) else (z0h.j0 k (l0_0.length : Int) (decide ((l0_0.length : Int) > 256)) l0_0)
theorem z0h.z1t : ∀ k, (∀ y0 y1 y2, LeO (z0h.j0 k y0 y1 y2) (z0h.j0 (k + 1) y0 y1 y2)) ∧ (∀ y0 y1 y2 y3 y4, LeO (z0h.l0 k y0 y1 y2 y3 y4) (z0h.l0 (k + 1) y0 y1 y2 y3 y4)) ∧ (∀ y0 y1 y2 y3 y4 y5 y6 y7 y8 y9 y10, LeO (z0h.j5 k y0 y1 y2 y3 y4 y5 y6 y7 y8 y9 y10) (z0h.j5 (k + 1) y0 y1 y2 y3 y4 y5 y6 y7 y8 y9 y10)) ∧ (∀ y0 y1 y2 y3 y4 y5 y6 y7 y8 y9 y10 y11, LeO (z0h.j6 k y0 y1 y2 y3 y4 y5 y6 y7 y8 y9 y10 y11) (z0h.j6 (k + 1) y0 y1 y2 y3 y4 y5 y6 y7 y8 y9 y10 y11)) ∧ (∀ y0 y1 y2 y3 y4 y5 y6 y7 y8, LeO (z0h.l1 k y0 y1 y2 y3 y4 y5 y6 y7 y8) (z0h.l1 (k + 1) y0 y1 y2 y3 y4 y5 y6 y7 y8)) ∧ (∀ y0 y1 y2 y3 y4 y5 y6 y7 y8 y9 y10 y11 y12, LeO (z0h.j2 k y0 y1 y2 y3 y4 y5 y6 y7 y8 y9 y10 y11 y12) (z0h.j2 (k + 1) y0 y1 y2 y3 y4 y5 y6 y7 y8 y9 y10 y11 y12)) ∧ (∀ y0 y1 y2 y3 y4 y5 y6 y7 y8 y9 y10 y11 y12, LeO (z0h.j3 k y0 y1 y2 y3 y4 y5 y6 y7 y8 y9 y10 y11 y12) (z0h.j3 (k + 1) y0 y1 y2 y3 y4 y5 y6 y7 y8 y9 y10 y11 y12)) ∧ (∀ y0 y1 y2 y3 y4 y5 y6 y7 y8 y9 y10 y11, LeO (z0h.j4 k y0 y1 y2 y3 y4 y5 y6 y7 y8 y9 y10 y11) (z0h.j4 (k + 1) y0 y1 y2 y3 y4 y5 y6 y7 y8 y9 y10 y11))
 | 0 => ⟨fun _ _ _ r h => by simp [z0h.j0] at h, fun _ _ _ _ _ r h => by simp [z0h.l0] at h, fun _ _ _ _ _ _ _ _ _ _ _ r h => by simp [z0h.j5] at h, fun _ _ _ _ _ _ _ _ _ _ _ _ r h => by simp [z0h.j6] at h, fun _ _ _ _ _ _ _ _ _ r h => by simp [z0h.l1] at h, fun _ _ _ _ _ _ _ _ _ _ _ _ _ r h => by simp [z0h.j2] at h, fun _ _ _ _ _ _ _ _ _ _ _ _ _ r h => by simp [z0h.j3] at h, fun _ _ _ _ _ _ _ _ _ _ _ _ r h => by simp [z0h.j4] at h⟩
 | k + 1 => by
  obtain ⟨ih0, ih1, ih2, ih3, ih4, ih5, ih6, ih7⟩ := z0h.z1t k
  refine ⟨?_, ?_, ?_, ?_, ?_, ?_, ?_, ?_⟩
  ·intro y0 y1 y2
   unfold z0h.j0
   repeat' first
   | (with_reducible exact ih0 _ _ _)
   | (with_reducible exact ih1 _ _ _ _ _)
   | (with_reducible exact ih2 _ _ _ _ _ _ _ _ _ _ _)
   | (with_reducible exact ih3 _ _ _ _ _ _ _ _ _ _ _ _)
   | (with_reducible exact ih4 _ _ _ _ _ _ _ _ _)
   | (with_reducible exact ih5 _ _ _ _ _ _ _ _ _ _ _ _ _)
   | (with_reducible exact ih6 _ _ _ _ _ _ _ _ _ _ _ _ _)
   | (with_reducible exact ih7 _ _ _ _ _ _ _ _ _ _ _ _)
   | (with_reducible exact z0J.mono _ _ _)
   | (with_reducible exact LeO.refl _)
   | (with_reducible exact LeO.none _)
   | (with_reducible refine LeO.ite ?_ ?_)
   | (with_reducible refine LeO.bind ?_ (fun _ => ?_))
  ·intro y0 y1 y2 y3 y4
   unfold z0h.l0
   repeat' first
   | (with_reducible exact ih0 _ _ _)
   | (with_reducible exact ih1 _ _ _ _ _)
   | (with_reducible exact ih2 _ _ _ _ _ _ _ _ _ _ _)
   | (with_reducible exact ih3 _ _ _ _ _ _ _ _ _ _ _ _)
   | (with_reducible exact ih4 _ _ _ _ _ _ _ _ _)
   | (with_reducible exact ih5 _ _ _ _ _ _ _ _ _ _ _ _ _)
   | (with_reducible exact ih6 _ _ _ _ _ _ _ _ _ _ _ _ _)
   | (with_reducible exact ih7 _ _ _ _ _ _ _ _ _ _ _ _)
   | (with_reducible exact z0J.mono _ _ _)
   | (with_reducible exact LeO.refl _)
   | (with_reducible exact LeO.none _)
   | (with_reducible refine LeO.ite ?_ ?_)
   | (with_reducible refine LeO.bind ?_ (fun _ => ?_))
  ·intro y0 y1 y2 y3 y4 y5 y6 y7 y8 y9 y10
   unfold z0h.j5
   repeat' first
   | (with_reducible exact ih0 _ _ _)
   | (with_reducible exact ih1 _ _ _ _ _)
   | (with_reducible exact ih2 _ _ _ _ _ _ _ _ _ _ _)
   | (with_reducible exact ih3 _ _ _ _ _ _ _ _ _ _ _ _)
   | (with_reducible exact ih4 _ _ _ _ _ _ _ _ _)
   | (with_reducible exact ih5 _ _ _ _ _ _ _ _ _ _ _ _ _)
   | (with_reducible exact ih6 _ _ _ _ _ _ _ _ _ _ _ _ _)
   | (with_reducible exact ih7 _ _ _ _ _ _ _ _ _ _ _ _)
   | (with_reducible exact z0J.mono _ _ _)
   | (with_reducible exact LeO.refl _)
   | (with_reducible exact LeO.none _)
   | (with_reducible refine LeO.ite ?_ ?_)
   | (with_reducible refine LeO.bind ?_ (fun _ => ?_))
  ·intro y0 y1 y2 y3 y4 y5 y6 y7 y8 y9 y10 y11
   unfold z0h.j6
   repeat' first
   | (with_reducible exact ih0 _ _ _)
   | (with_reducible exact ih1 _ _ _ _ _)
   | (with_reducible exact ih2 _ _ _ _ _ _ _ _ _ _ _)
   | (with_reducible exact ih3 _ _ _ _ _ _ _ _ _ _ _ _)
   | (with_reducible exact ih4 _ _ _ _ _ _ _ _ _)
   | (with_reducible exact ih5 _ _ _ _ _ _ _ _ _ _ _ _ _)
   | (with_reducible exact ih6 _ _ _ _ _ _ _ _ _ _ _ _ _)
   | (with_reducible exact ih7 _ _ _ _ _ _ _ _ _ _ _ _)
   | (with_reducible exact z0J.mono _ _ _)
   | (with_reducible exact LeO.refl _)
   | (with_reducible exact LeO.none _)
   | (with_reducible refine LeO.ite ?_ ?_)
   | (with_reducible refine LeO.bind ?_ (fun _ => ?_))
  ·intro y0 y1 y2 y3 y4 y5 y6 y7 y8
   unfold z0h.l1
   repeat' first
   | (with_reducible exact ih0 _ _ _)
   | (with_reducible exact ih1 _ _ _ _ _)
   | (with_reducible exact ih2 _ _ _ _ _ _ _ _ _ _ _)
   | (with_reducible exact ih3 _ _ _ _ _ _ _ _ _ _ _ _)
   | (with_reducible exact ih4 _ _ _ _ _ _ _ _ _)
   | (with_reducible exact ih5 _ _ _ _ _ _ _ _ _ _ _ _ _)
   | (with_reducible exact ih6 _ _ _ _ _ _ _ _ _ _ _ _ _)
   | (with_reducible exact ih7 _ _ _ _ _ _ _ _ _ _ _ _)
   | (with_reducible exact z0J.mono _ _ _)
   | (with_reducible exact LeO.refl _)
   | (with_reducible exact LeO.none _)
   | (with_reducible refine LeO.ite ?_ ?_)
   | (with_reducible refine LeO.bind ?_ (fun _ => ?_))
  ·intro y0 y1 y2 y3 y4 y5 y6 y7 y8 y9 y10 y11 y12
   unfold z0h.j2
   repeat' first
   | (with_reducible exact ih0 _ _ _)
   | (with_reducible exact ih1 _ _ _ _ _)
   | (with_reducible exact ih2 _ _ _ _ _ _ _ _ _ _ _)
   | (with_reducible exact ih3 _ _ _ _ _ _ _ _ _ _ _ _)
   | (with_reducible exact ih4 _ _ _ _ _ _ _ _ _)
   | (with_reducible exact ih5 _ _ _ _ _ _ _ _ _ _ _ _ _)
   | (with_reducible exact ih6 _ _ _ _ _ _ _ _ _ _ _ _ _)
   | (with_reducible exact ih7 _ _ _ _ _ _ _ _ _ _ _ _)
   | (with_reducible exact z0J.mono _ _ _)
   | (with_reducible exact LeO.refl _)
   | (with_reducible exact LeO.none _)
   | (with_reducible refine LeO.ite ?_ ?_)
   | (with_reducible refine LeO.bind ?_ (fun _ => ?_))
  ·intro y0 y1 y2 y3 y4 y5 y6 y7 y8 y9 y10 y11 y12
   unfold z0h.j3
   repeat' first
   | (with_reducible exact ih0 _ _ _)
   | (with_reducible exact ih1 _ _ _ _ _)
   | (with_reducible exact ih2 _ _ _ _ _ _ _ _ _ _ _)
   | (with_reducible exact ih3 _ _ _ _ _ _ _ _ _ _ _ _)
   | (with_reducible exact ih4 _ _ _ _ _ _ _ _ _)
   | (with_reducible exact ih5 _ _ _ _ _ _ _ _ _ _ _ _ _)
   | (with_reducible exact ih6 _ _ _ _ _ _ _ _ _ _ _ _ _)
   | (with_reducible exact ih7 _ _ _ _ _ _ _ _ _ _ _ _)
   | (with_reducible exact z0J.mono _ _ _)
   | (with_reducible exact LeO.refl _)
   | (with_reducible exact LeO.none _)
   | (with_reducible refine LeO.ite ?_ ?_)
   | (with_reducible refine LeO.bind ?_ (fun _ => ?_))
  ·intro y0 y1 y2 y3 y4 y5 y6 y7 y8 y9 y10 y11
   unfold z0h.j4
   repeat' first
   | (with_reducible exact ih0 _ _ _)
   | (with_reducible exact ih1 _ _ _ _ _)
   | (with_reducible exact ih2 _ _ _ _ _ _ _ _ _ _ _)
   | (with_reducible exact ih3 _ _ _ _ _ _ _ _ _ _ _ _)
   | (with_reducible exact ih4 _ _ _ _ _ _ _ _ _)
   | (with_reducible exact ih5 _ _ _ _ _ _ _ _ _ _ _ _ _)
   | (with_reducible exact ih6 _ _ _ _ _ _ _ _ _ _ _ _ _)
   | (with_reducible exact ih7 _ _ _ _ _ _ _ _ _ _ _ _)
   | (with_reducible exact z0J.mono _ _ _)
   | (with_reducible exact LeO.refl _)
   | (with_reducible exact LeO.none _)
   | (with_reducible refine LeO.ite ?_ ?_)
   | (with_reducible refine LeO.bind ?_ (fun _ => ?_))
theorem z0h.mono : ∀ a0 k, LeO (z0h.f k a0) (z0h.f (k + 1) a0) := by
 intro a0 k
 obtain ⟨ih0, ih1, ih2, ih3, ih4, ih5, ih6, ih7⟩ := z0h.z1t k
 unfold z0h.f
 repeat' first
   | (with_reducible exact ih0 _ _ _)
   | (with_reducible exact ih1 _ _ _ _ _)
   | (with_reducible exact ih2 _ _ _ _ _ _ _ _ _ _ _)
   | (with_reducible exact ih3 _ _ _ _ _ _ _ _ _ _ _ _)
   | (with_reducible exact ih4 _ _ _ _ _ _ _ _ _)
   | (with_reducible exact ih5 _ _ _ _ _ _ _ _ _ _ _ _ _)
   | (with_reducible exact ih6 _ _ _ _ _ _ _ _ _ _ _ _ _)
   | (with_reducible exact ih7 _ _ _ _ _ _ _ _ _ _ _ _)
   | (with_reducible exact z0J.mono _ _ _)
   | (with_reducible exact LeO.refl _)
   | (with_reducible exact LeO.none _)
   | (with_reducible refine LeO.ite ?_ ?_)
   | (with_reducible refine LeO.bind ?_ (fun _ => ?_))
set_option maxHeartbeats 8000000 in
set_option maxRecDepth 100000 in
theorem z0h.calls (k : Nat) (z0U : Option Addr) (c0_0 : Nat) (l0_0 : List (S58)) (r : Bool) (w : World) (hr0_0 : Kd.C k58 w z0U l0_0.length l0_0) (hc0_0 : l0_0.length ≤ c0_0) (h : z0h.f k l0_0 = some r) :
  Calls Tryz.prog 173 #[.agg #[.slice z0U l0_0.length c0_0]] w fun e w' => e = .returned (.bool r) ∧ Below w.heap.size w w' := by
 have hu49 := Tryz.underlying49
 have hu58 := Tryz.underlying58
 have z2g := z0a.mk hr0_0
 have z1g := z0a.mk hc0_0
 clear hr0_0 hc0_0
 have HB := z0a.mk (Below.refl w.heap.size w)
 have H : (if (l0_0.length : Int) < 1 then (z0h.j0 k (l0_0.length : Int) true l0_0) else (z0h.j0 k (l0_0.length : Int) (decide ((l0_0.length : Int) > 256)) l0_0)) = some r := h
 clear h
 have HC2 := z0a.mk H
 clear H
 go_enter Tryz.func173, Tryz.ntmps173
 go_upto_region 2 with (first | ((with_reducible refine z0o (N := 1) rfl ?_); refine zo (cs := #[.slice z0U l0_0.length c0_0]) (t := 49) ?_; intro y5p hg w3 hbox hb; have z6c := z0a.mk hbox; have GW123 := zG HB hg; have GE123 := zG HB hg; replace HB := zB HB hb; clear hb hbox hg; obtain ⟨z4U, z4V⟩ := zc1 w3 z6c.out))
 (try simp only [Act.put, List.setIfInBounds_toArray, List.set_cons_zero, List.set_cons_succ])
 go_cut [17] (fun v17 wc => ∃ (kq : Nat) (x17_1 : Bool), v17 = .bool x17_1 ∧ z0a (z0h.j0 kq (l0_0.length : Int) x17_1 l0_0 = some r) ∧ z0a (kq ≤ k) ∧ z0a (wc.heap[y5p]? = some (.cells #[(.slice z0U l0_0.length c0_0)] 49 (0, 0))) ∧ z0a (Below w.heap.size w wc))
 case first =>
  have H := HC2.out
  clear HC2
  by_cases c5 : (l0_0.length : Int) < 1
  ·rw [if_pos c5] at H
   have c5b0 : decide ((l0_0.length : Int) < 1) = true := decide_eq_true c5
   have c5b1 : decide (l0_0.length < 1) = true := decide_eq_true (by omega)
   clear c5
   (first | rw [c5b0] | (simp only [z0V, z0W]; rw [c5b0]) | skip)
   have H' := z0a.mk H
   clear H
   go_wp2
   go_meet
   case rel => exact ⟨_, (true), ze, H', ⟨zl⟩, ⟨zk⟩, ⟨zb⟩⟩
  rw [if_neg c5] at H
  have c5b0 : decide ((l0_0.length : Int) < 1) = false := decide_eq_false c5
  have c5b1 : decide (l0_0.length < 1) = false := decide_eq_false (by omega)
  clear c5
  (first | rw [c5b0] | (simp only [z0V, z0W]; rw [c5b0]) | skip)
  have H' := z0a.mk H
  clear H
  go_wp2
  go_meet
  case rel => exact ⟨_, (decide ((l0_0.length : Int) > 256)), ze, H', ⟨zl⟩, ⟨zk⟩, ⟨zb⟩⟩
 case rest =>
  clear HC2
  try clear z4U
  try clear z4V
  obtain ⟨kq, x17_1, rfl, HA, HJ1, z6c, HB⟩ := hcut
  cases kq with
  | zero => exact absurd HA.out (by simp [z0h.j0])
  | succ kj1 =>
   have H := HA.out
   clear HA
   simp only [z0h.j0] at H
   by_cases c6 : x17_1 = true
   ·subst c6
    have H1 : (some false) = some r := by rw [if_pos rfl] at H; exact H
    clear H
    have H := H1
    clear H1
    obtain rfl := Option.some.inj H
    go_wp2
    go_ret
    exact ⟨zr, zb⟩
   replace c6 := Bool.eq_false_iff.mpr c6
   subst c6
   have H1 : (if 0 ≤ (l0_0.length : Int) then (if ((l0_0.length : Int) : Int).toNat ≤ 281474976710656 then (z0h.l0 kj1 (l0_0.length : Int) (List.replicate ((l0_0.length : Int) : Int).toNat false) l0_0 (l0_0.length : Int) 0) else (none)) else (none)) = some r := by rw [if_neg (show ¬ (false = true) by decide)] at H; exact H
   clear H
   have H := H1
   clear H1
   by_cases c7 : 0 ≤ (l0_0.length : Int)
   rotate_left
   ·rw [if_neg c7] at H
    exact absurd H (by simp)
   rw [if_pos c7] at H
   have c7b0 := eq_true c7
   have c7b1 : decide (0 ≤ (l0_0.length : Int)) = true := decide_eq_true c7
   clear c7
   by_cases c8 : ((l0_0.length : Int) : Int).toNat ≤ 281474976710656
   rotate_left
   ·rw [if_neg c8] at H
    exact absurd H (by simp)
   rw [if_pos c8] at H
   have c8b0 := eq_true c8
   have c8b1 : decide (((l0_0.length : Int) : Int).toNat ≤ 281474976710656) = true := decide_eq_true c8
   clear c8
   obtain ⟨y124, hy124⟩ : ∃ y_ : List Bool, y_ = (List.replicate ((l0_0.length : Int) : Int).toNat false) := ⟨_, rfl⟩
   replace H : (z0h.l0 kj1 (l0_0.length : Int) y124 l0_0 (l0_0.length : Int) 0) = some r := by first | (rw [hy124]; with_reducible exact H) | (have H2_ := (Option.bind_some _ _).symm.trans H; rw [hy124]; with_reducible exact H2_) | (have H2_ := (Option.bind_some _ _).symm.trans H; with_reducible exact H2_) | with_reducible exact H | (rw [hy124]; exact H) | exact H
   have Ny124 := z0a.mk hy124
   clear hy124
   have H' := z0a.mk H
   clear H
   go_wp2_with (first | ((with_reducible refine z0o (N := 19) rfl ?_); refine Kd.x7H Kd.bool _ 4 rfl (N := 19) rfl 125 _ _ rfl (l0_0.length : Int) rfl rfl Tryz.underlying125 (.bool false) 1 w2C rfl (by decide) (by omega) false (ok := fun _ => True) (okp := fun _ => True) rfl (fun _ hk => hk) trivial (of_decide_eq_true (by first | (with_reducible assumption) | assumption)) (Nat.le_trans (Nat.mul_le_mul_right _ (of_decide_eq_true (by first | (with_reducible assumption) | assumption) : (l0_0.length : Int).toNat ≤ 281474976710656)) (by omega)) (Below.refl _ _) (Nat.le_refl _) ?_; intro v125 w9 ho10 hb hg_ hnew_; clear hg_ hnew_; (first | rw [← Ny124.out] at ho10 | (simp only [Int.reduceToNat] at ho10; rw [← Ny124.out] at ho10)); have HO126 := z0a.mk (Kd.z2n ho10 (z1x zb)); replace z6c := zK z6c hb; replace HB := zB HB hb; clear hb ho10; obtain ⟨z3M, z3N⟩ := zc1 w9 z6c.out))
   go_loopg [23] kj1 (fun kq v23 w' => ∃ (x4_2 : List Bool) (x23_2 : Int), v23 = .int .i64 x23_2 ∧ z0a (z0h.l0 kq (l0_0.length : Int) x4_2 l0_0 (l0_0.length : Int) x23_2 = some r) ∧ z0a (kq ≤ kj1) ∧ z0a (Kd.R Kd.bool 4 w' w.heap.size (fun _ => True) v125 x4_2) ∧ z0a (w'.heap[y5p]? = some (.cells #[(.slice z0U l0_0.length c0_0)] 49 (0, 0))) ∧ z0a (Below w.heap.size w w'))
   case atStart => exact ⟨(y124), (0), ze, H', ⟨Nat.le_refl _⟩, ⟨by (with_reducible repeat (first | apply Kd.z0Z | apply Kd.z0Y | apply Kd.z1n)); exact HO126.out⟩, ⟨zk⟩, ⟨zb⟩⟩
   case round =>
    clear H'
    try clear c6
    try clear c7
    try clear c7b0
    try clear c7b1
    try clear c8
    try clear c8b0
    try clear c8b1
    try clear z3M
    try clear z4U
    try clear z3N
    try clear z4V
    obtain ⟨x4_2, x23_2, rfl, HA, HK2, HO_4, z6c, HB⟩ := hrel
    cases gk with
    | zero => exact absurd HA.out (by simp [z0h.l0])
    | succ k2 =>
     have H := HA.out
     clear HA
     simp only [z0h.l0] at H
     by_cases c12 : x23_2 < (l0_0.length : Int)
     rotate_left
     ·rw [if_neg c12] at H
      have c12b0 : decide (x23_2 < (l0_0.length : Int)) = false := decide_eq_false c12
      clear c12
      by_cases c73 : 1 ≤ (x4_2.length : Int)
      rotate_left
      ·rw [if_neg c73] at H
       exact absurd H (by simp)
      rw [if_pos c73] at H
      have c73b0 := eq_true c73
      have c73b1 : decide (1 ≤ (x4_2.length : Int)) = true := decide_eq_true c73
      clear c73
      obtain ⟨y127, hy127⟩ : ∃ y_ : List Bool, y_ = (x4_2.drop 1) := ⟨_, rfl⟩
      replace H : ((z0J.f k2 y127 false).bind fun t131 => (some (!t131))) = some r := by first | (rw [hy127]; with_reducible exact H) | (have H2_ := (Option.bind_some _ _).symm.trans H; rw [hy127]; with_reducible exact H2_) | (have H2_ := (Option.bind_some _ _).symm.trans H; with_reducible exact H2_) | with_reducible exact H | (rw [hy127]; exact H) | exact H
      have Ny127 := z0a.mk hy127
      clear hy127
      replace H := Option.bind_eq_some_iff.mp H
      obtain ⟨t131, A740, H⟩ := H
      replace H : (some (!t131)) = some r := H
      have A74 := z0a.mk A740
      clear A740
      obtain rfl := Option.some.inj H
      obtain ⟨Ao76, co76, eo76⟩ := Kd.z2q HO_4.out
      subst eo76
      have q75 : (1 : Int) ≤ ((x4_2.length : Int) : Int) := za
      obtain ⟨i075, hi075, _, hsz75, _⟩ := info_parts w2C
      have hroom75 : x4_2.length ≤ co76 := (Kd.z1K HO_4.out).2.1
      have hC75 : Kd.C Kd.bool _ Ao76 x4_2.length x4_2 := (Kd.z1K HO_4.out).2.2
      have hcut75 := x6A (P := Tryz.prog) 125 4 .i64 Tryz.underlying125 hi075 1 hsz75 Ao76 x4_2.length co76 1 (by omega) q75
      have hr75 := Kd.w2q (m := (1 : Int).toNat) (c := co76) hC75 (by omega) hroom75
      obtain ⟨A75, hA75⟩ : ∃ A1, A1 = (if co76 = (1 : Int).toNat then Ao76 else (Ao76 : Option Addr).map (·.add ((1 : Int).toNat * 1))) := ⟨_, rfl⟩
      obtain ⟨c75, hc75⟩ : ∃ c1, c1 = co76 - (1 : Int).toNat := ⟨_, rfl⟩
      have hy75 : y127.length = x4_2.length - (1 : Int).toNat := (by rw [Ny127.out, List.length_drop] <;> omega)
      rw [show (x4_2).drop (1 : Int).toNat = y127 from Ny127.out.symm] at hr75
      replace hr75 : Kd.C Kd.bool _ A75 y127.length y127 := (by rw [hA75]; exact hr75)
      rw [← hy75, ← hA75, ← hc75] at hcut75
      have HR130 := z0a.mk hr75
      have HC130 := z0a.mk (show y127.length ≤ c75 from by rw [hy75, hc75]; exact Nat.sub_le_sub_right hroom75 _)
      clear hr75 hC75 hroom75 hi075 hsz75 hc75
      have KY75 := z0a.mk hy75
      have KA75 := z0a.mk hA75
      clear hy75 hA75
      have KL75 := z0a.mk (show 1 ≤ x4_2.length from by omega)
      replace q75 := eq_true q75
      go_wp2_with (first | ((with_reducible refine z0m (f := 209) rfl ?_); refine z1a (some 99) rfl rfl Tryz.func209 (by kernel_rfl) rfl #[.slice A75 y127.length c75, .bool false] rfl zq ?_; (with_reducible refine (z0J.calls k2 _ _ y127 false t131 _ ?z0M ?z4Y A74.out).mono ?_); (case z0M => repeat (first | exact (by repeat (first | (with_reducible exact HR130.out) | (with_reducible refine Kd.z3F ?_ _) | (with_reducible refine Kd.z3G ?_ _) | (with_reducible refine Kd.z3x ?_) | exact HR130.out)) | (with_reducible refine Kd.z3F ?_ _) | (with_reducible refine Kd.z3G ?_ _) | (with_reducible refine Kd.z3x ?_))); (case z4Y => exact HC130.out); rintro e w' ⟨rfl, ⟨nd, rfl⟩⟩; refine ⟨_, rfl, ?_⟩))
      go_ret
      exact ⟨zr, zb⟩
     rw [if_pos c12] at H
     have c12b0 : decide (x23_2 < (l0_0.length : Int)) = true := decide_eq_true c12
     clear c12
     by_cases c13 : 0 ≤ x23_2
     rotate_left
     ·rw [if_neg c13] at H
      exact absurd H (by simp)
     rw [if_pos c13] at H
     have c13b0 : decide (0 ≤ x23_2) = true := decide_eq_true c13
     clear c13
     by_cases c14 : x23_2 < (l0_0.length : Int)
     rotate_left
     ·rw [if_neg c14] at H
      exact absurd H (by simp)
     rw [if_pos c14] at H
     have c14b0 : decide (x23_2 < (l0_0.length : Int)) = true := decide_eq_true c14
     clear c14
     have HC15 := z0a.mk H
     clear H
     have p132 : 0 ≤ (x23_2 : Int) := za
     have q132 : x23_2 < (l0_0.length : Int) := za
     obtain ⟨ad132, y1e, c132_4, e132, z8i, z8j, z8k, z8l, z8m, x2y, x2z⟩ := z3y z2g.out x23_2 p132 q132
     cases e132
     replace z8i := zx HB z8i
     replace z8j := zx HB z8j
     replace z8k := zx HB z8k
     replace z8l := zx HB z8l
     replace z8m := zx HB z8m
     have y5q := z0a.mk x2z
     have HC132_4 := z0a.mk x2y
     clear x2z x2y
     replace p132 := eq_true p132
     replace q132 := eq_true q132
     go_upto_block 2 with (first | ((with_reducible refine z0o (N := 6) rfl ?_); refine zo (cs := #[.int .u8 0, .int .i32 0, .int .u32 0, .int .u32 0, .slice none 0 0]) (t := 58) ?_; intro z8n hg w16 hbox hb; have z5q := z0a.mk hbox; have GW133 := zG HB hg; have GE133 := zG HB hg; have z2m := zN z6c hg; have z3O := zM z6c hg; replace HO_4 := z0a.mk (Kd.z2f (by (with_reducible repeat (first | apply Kd.z0Z | apply Kd.z0Y | apply Kd.z1n)); exact HO_4.out) hb); replace z6c := zK z6c hb; replace HB := zB HB hb; clear hb hbox hg; have hnb17 := z3O.out; have hnc17 := z2m.out; obtain ⟨z4j, z4k, z4y, z9p, z9q, z4l, z4m, z4z, z9r, z9s⟩ := zc5 w16 z5q.out))
     (try simp only [Act.put, List.setIfInBounds_toArray, List.set_cons_zero, List.set_cons_succ])
     go_cut [] (fun wc => ∃ (kq : Nat), z0a (z0h.j5 kq (l0_0.length : Int) x4_2 x23_2 l0_0 (l0_0.length : Int) x23_2 ((z0g l0_0 x23_2).f0) ((z0g l0_0 x23_2).f1) ((z0g l0_0 x23_2).f2) ((z0g l0_0 x23_2).f3) ((z0g l0_0 x23_2).f4) = some r) ∧ z0a (kq ≤ k2) ∧ z0a (Kd.R Kd.bool 4 wc w.heap.size (fun _ => True) v125 x4_2) ∧ z0a (wc.heap[y5p]? = some (.cells #[(.slice (some ad132) l0_0.length c0_0)] 49 (0, 0))) ∧ z0a (wc.heap[z8n]? = some (.cells #[.int .u8 ((z0g l0_0 x23_2).f0), .int .i32 ((z0g l0_0 x23_2).f1), .int .u32 ((z0g l0_0 x23_2).f2), .int .u32 ((z0g l0_0 x23_2).f3), (.slice y1e ((z0g l0_0 x23_2).f4).length c132_4)] 58 (0, 0))) ∧ z0a (Below w.heap.size w wc))
     case first =>
      have H := HC15.out
      clear HC15
      have HC19 := z0a.mk H
      clear H
      go_upto_if 30 with (fail)
      go_cut [30] (fun v30 wc => ∃ (kq : Nat) (x30_18 : Bool), v30 = .bool x30_18 ∧ z0a (z0h.j2 kq (l0_0.length : Int) x4_2 x23_2 l0_0 (l0_0.length : Int) x23_2 ((z0g l0_0 x23_2).f0) x30_18 ((z0g l0_0 x23_2).f0) ((z0g l0_0 x23_2).f1) ((z0g l0_0 x23_2).f2) ((z0g l0_0 x23_2).f3) ((z0g l0_0 x23_2).f4) = some r) ∧ z0a (kq ≤ k2) ∧ z0a (Kd.R Kd.bool 4 wc w.heap.size (fun _ => True) v125 x4_2) ∧ z0a (wc.heap[y5p]? = some (.cells #[(.slice (some ad132) l0_0.length c0_0)] 49 (0, 0))) ∧ z0a (wc.heap[z8n]? = some (.cells #[.int .u8 ((z0g l0_0 x23_2).f0), .int .i32 ((z0g l0_0 x23_2).f1), .int .u32 ((z0g l0_0 x23_2).f2), .int .u32 ((z0g l0_0 x23_2).f3), (.slice y1e ((z0g l0_0 x23_2).f4).length c132_4)] 58 (0, 0))) ∧ z0a (Below w.heap.size w wc))
      case first =>
       have H := HC19.out
       clear HC19
       by_cases c20 : ((z0g l0_0 x23_2).f0) = 6
       rotate_left
       ·rw [if_neg c20] at H
        have c20b0 : (((z0g l0_0 x23_2).f0) == 6) = false := beq_eq_false_iff_ne.mpr c20
        have c20b1 : (((z0g l0_0 x23_2).f0) != 6) = true := bne_iff_ne.mpr c20
        (first | rw [c20b0] | (simp only [z0V, z0W]; rw [c20b0]) | skip)
        have H' := z0a.mk H
        clear H
        go_wp2
        go_meet
        case rel => exact ⟨_, ((((z0g l0_0 x23_2).f0) == 7)), ze, H', ⟨by have := HJ1.out; have := HK2.out; first | omega | exact Nat.le_refl _⟩, ⟨by (with_reducible repeat (first | apply Kd.z0Z | apply Kd.z0Y | apply Kd.z1n)); exact Kd.z3D (Kd.z7U (p := ⟨z8n, 4, none⟩) (Kd.z7U (p := ⟨z8n, 3, none⟩) (Kd.z7U (p := ⟨z8n, 2, none⟩) (Kd.z7U (p := ⟨z8n, 1, none⟩) (Kd.z7U (p := ⟨z8n, 0, none⟩) (Kd.y1A HO_4.out z5q.out (by decide)) (fun _ hk => hk.2) (.int .u8 ((z0g l0_0 x23_2).f0))) (fun _ hk => hk.2) (.int .i32 ((z0g l0_0 x23_2).f1))) (fun _ hk => hk.2) (.int .u32 ((z0g l0_0 x23_2).f2))) (fun _ hk => hk.2) (.int .u32 ((z0g l0_0 x23_2).f3))) (fun _ hk => hk.2) (.slice y1e ((z0g l0_0 x23_2).f4).length c132_4)) (fun _ hk => trivial)⟩, ⟨by (with_reducible repeat (first | refine z0c ?_ _ | refine z0e ?_ | refine z0b ?_ _)); refine z0n ?_ z2m.out _; (with_reducible repeat (first | refine z0c ?_ _ | refine z0e ?_ | refine z0b ?_ _)); refine z0n ?_ z2m.out _; (with_reducible repeat (first | refine z0c ?_ _ | refine z0e ?_ | refine z0b ?_ _)); refine z0n ?_ z2m.out _; (with_reducible repeat (first | refine z0c ?_ _ | refine z0e ?_ | refine z0b ?_ _)); refine z0n ?_ z2m.out _; (with_reducible repeat (first | refine z0c ?_ _ | refine z0e ?_ | refine z0b ?_ _)); refine z0n ?_ z2m.out _; (with_reducible repeat (first | refine z0c ?_ _ | refine z0e ?_ | refine z0b ?_ _)); exact z6c.out⟩, ⟨by (with_reducible repeat (first | refine z0c ?_ _ | refine z0e ?_ | refine z0b ?_ _)); refine z0N (cs := #[.int .u8 ((z0g l0_0 x23_2).f0), .int .i32 ((z0g l0_0 x23_2).f1), .int .u32 ((z0g l0_0 x23_2).f2), .int .u32 ((z0g l0_0 x23_2).f3), .slice none 0 0]) ?_ 4 _ rfl; (with_reducible repeat (first | refine z0c ?_ _ | refine z0e ?_ | refine z0b ?_ _)); refine z0N (cs := #[.int .u8 ((z0g l0_0 x23_2).f0), .int .i32 ((z0g l0_0 x23_2).f1), .int .u32 ((z0g l0_0 x23_2).f2), .int .u32 0, .slice none 0 0]) ?_ 3 _ rfl; (with_reducible repeat (first | refine z0c ?_ _ | refine z0e ?_ | refine z0b ?_ _)); refine z0N (cs := #[.int .u8 ((z0g l0_0 x23_2).f0), .int .i32 ((z0g l0_0 x23_2).f1), .int .u32 0, .int .u32 0, .slice none 0 0]) ?_ 2 _ rfl; (with_reducible repeat (first | refine z0c ?_ _ | refine z0e ?_ | refine z0b ?_ _)); refine z0N (cs := #[.int .u8 ((z0g l0_0 x23_2).f0), .int .i32 0, .int .u32 0, .int .u32 0, .slice none 0 0]) ?_ 1 _ rfl; (with_reducible repeat (first | refine z0c ?_ _ | refine z0e ?_ | refine z0b ?_ _)); refine z0N (cs := #[.int .u8 0, .int .i32 0, .int .u32 0, .int .u32 0, .slice none 0 0]) ?_ 0 _ rfl; (with_reducible repeat (first | refine z0c ?_ _ | refine z0e ?_ | refine z0b ?_ _)); exact z5q.out⟩, ⟨zb⟩⟩
       rw [if_pos c20] at H
       have c20b0 : (((z0g l0_0 x23_2).f0) == 6) = true := beq_iff_eq.mpr c20
       have c20b1 : (((z0g l0_0 x23_2).f0) != 6) = false := bne_eq_false_iff_eq.mpr c20
       clear c20
       (first | rw [c20b0] | (simp only [z0V, z0W]; rw [c20b0]) | skip)
       have H' := z0a.mk H
       clear H
       go_wp2
       go_meet
       case rel => exact ⟨_, ((((z0g l0_0 x23_2).f0) == 6)), ze, H', ⟨by have := HJ1.out; have := HK2.out; first | omega | exact Nat.le_refl _⟩, ⟨by (with_reducible repeat (first | apply Kd.z0Z | apply Kd.z0Y | apply Kd.z1n)); exact Kd.z3D (Kd.z7U (p := ⟨z8n, 4, none⟩) (Kd.z7U (p := ⟨z8n, 3, none⟩) (Kd.z7U (p := ⟨z8n, 2, none⟩) (Kd.z7U (p := ⟨z8n, 1, none⟩) (Kd.z7U (p := ⟨z8n, 0, none⟩) (Kd.y1A HO_4.out z5q.out (by decide)) (fun _ hk => hk.2) (.int .u8 ((z0g l0_0 x23_2).f0))) (fun _ hk => hk.2) (.int .i32 ((z0g l0_0 x23_2).f1))) (fun _ hk => hk.2) (.int .u32 ((z0g l0_0 x23_2).f2))) (fun _ hk => hk.2) (.int .u32 ((z0g l0_0 x23_2).f3))) (fun _ hk => hk.2) (.slice y1e ((z0g l0_0 x23_2).f4).length c132_4)) (fun _ hk => trivial)⟩, ⟨by (with_reducible repeat (first | refine z0c ?_ _ | refine z0e ?_ | refine z0b ?_ _)); refine z0n ?_ z2m.out _; (with_reducible repeat (first | refine z0c ?_ _ | refine z0e ?_ | refine z0b ?_ _)); refine z0n ?_ z2m.out _; (with_reducible repeat (first | refine z0c ?_ _ | refine z0e ?_ | refine z0b ?_ _)); refine z0n ?_ z2m.out _; (with_reducible repeat (first | refine z0c ?_ _ | refine z0e ?_ | refine z0b ?_ _)); refine z0n ?_ z2m.out _; (with_reducible repeat (first | refine z0c ?_ _ | refine z0e ?_ | refine z0b ?_ _)); refine z0n ?_ z2m.out _; (with_reducible repeat (first | refine z0c ?_ _ | refine z0e ?_ | refine z0b ?_ _)); exact z6c.out⟩, ⟨by (with_reducible repeat (first | refine z0c ?_ _ | refine z0e ?_ | refine z0b ?_ _)); refine z0N (cs := #[.int .u8 ((z0g l0_0 x23_2).f0), .int .i32 ((z0g l0_0 x23_2).f1), .int .u32 ((z0g l0_0 x23_2).f2), .int .u32 ((z0g l0_0 x23_2).f3), .slice none 0 0]) ?_ 4 _ rfl; (with_reducible repeat (first | refine z0c ?_ _ | refine z0e ?_ | refine z0b ?_ _)); refine z0N (cs := #[.int .u8 ((z0g l0_0 x23_2).f0), .int .i32 ((z0g l0_0 x23_2).f1), .int .u32 ((z0g l0_0 x23_2).f2), .int .u32 0, .slice none 0 0]) ?_ 3 _ rfl; (with_reducible repeat (first | refine z0c ?_ _ | refine z0e ?_ | refine z0b ?_ _)); refine z0N (cs := #[.int .u8 ((z0g l0_0 x23_2).f0), .int .i32 ((z0g l0_0 x23_2).f1), .int .u32 0, .int .u32 0, .slice none 0 0]) ?_ 2 _ rfl; (with_reducible repeat (first | refine z0c ?_ _ | refine z0e ?_ | refine z0b ?_ _)); refine z0N (cs := #[.int .u8 ((z0g l0_0 x23_2).f0), .int .i32 0, .int .u32 0, .int .u32 0, .slice none 0 0]) ?_ 1 _ rfl; (with_reducible repeat (first | refine z0c ?_ _ | refine z0e ?_ | refine z0b ?_ _)); refine z0N (cs := #[.int .u8 0, .int .i32 0, .int .u32 0, .int .u32 0, .slice none 0 0]) ?_ 0 _ rfl; (with_reducible repeat (first | refine z0c ?_ _ | refine z0e ?_ | refine z0b ?_ _)); exact z5q.out⟩, ⟨zb⟩⟩
      case rest =>
       clear HC19
       try clear c6
       try clear c7
       try clear c7b0
       try clear c7b1
       try clear c8
       try clear c8b0
       try clear c8b1
       try clear c12
       try clear c12b0
       try clear c13
       try clear c13b0
       try clear c14
       try clear c14b0
       try clear z3M
       try clear z4j
       try clear z4k
       try clear z4y
       try clear z9p
       try clear z9q
       try clear z4U
       try clear z3N
       try clear z4l
       try clear z4m
       try clear z4z
       try clear z9r
       try clear z9s
       try clear z4V
       try clear z8i
       try clear z8j
       try clear z8k
       try clear z8l
       try clear z8m
       try clear p132
       try clear q132
       obtain ⟨kq, x30_18, rfl, HA, HJ18, HO_4, z6c, z5q, HB⟩ := hcut
       cases kq with
       | zero => exact absurd HA.out (by simp [z0h.j2])
       | succ kj18 =>
        have H := HA.out
        clear HA
        simp only [z0h.j2] at H
        by_cases c21 : x30_18 = true
        ·subst c21
         have H1 : (z0h.j5 kj18 (l0_0.length : Int) x4_2 x23_2 l0_0 (l0_0.length : Int) x23_2 ((z0g l0_0 x23_2).f0) ((z0g l0_0 x23_2).f1) ((z0g l0_0 x23_2).f2) ((z0g l0_0 x23_2).f3) ((z0g l0_0 x23_2).f4)) = some r := by rw [if_pos rfl] at H; exact H
         clear H
         have H := H1
         clear H1
         have H' := z0a.mk H
         clear H
         go_wp2
         go_meet
         case rel => exact ⟨_, H', ⟨by have := HJ1.out; have := HK2.out; have := HJ18.out; first | omega | exact Nat.le_refl _⟩, ⟨by (with_reducible repeat (first | apply Kd.z0Z | apply Kd.z0Y | apply Kd.z1n)); exact HO_4.out⟩, ⟨zk⟩, ⟨zk⟩, ⟨zb⟩⟩
        replace c21 := Bool.eq_false_iff.mpr c21
        subst c21
        have H1 : (if ((z0g l0_0 x23_2).f0) = 8 then (z0h.j3 kj18 (l0_0.length : Int) x4_2 x23_2 l0_0 (l0_0.length : Int) x23_2 ((z0g l0_0 x23_2).f0) (((z0g l0_0 x23_2).f0) == 8) ((z0g l0_0 x23_2).f0) ((z0g l0_0 x23_2).f1) ((z0g l0_0 x23_2).f2) ((z0g l0_0 x23_2).f3) ((z0g l0_0 x23_2).f4)) else (z0h.j3 kj18 (l0_0.length : Int) x4_2 x23_2 l0_0 (l0_0.length : Int) x23_2 ((z0g l0_0 x23_2).f0) (((z0g l0_0 x23_2).f0) == 9) ((z0g l0_0 x23_2).f0) ((z0g l0_0 x23_2).f1) ((z0g l0_0 x23_2).f2) ((z0g l0_0 x23_2).f3) ((z0g l0_0 x23_2).f4))) = some r := by rw [if_neg (show ¬ (false = true) by decide)] at H; exact H
        clear H
        have H := H1
        clear H1
        have HC22 := z0a.mk H
        clear H
        go_upto_if 33 with (fail)
        go_cut [33] (fun v33 wc => ∃ (kq : Nat) (x33_21 : Bool), v33 = .bool x33_21 ∧ z0a (z0h.j3 kq (l0_0.length : Int) x4_2 x23_2 l0_0 (l0_0.length : Int) x23_2 ((z0g l0_0 x23_2).f0) x33_21 ((z0g l0_0 x23_2).f0) ((z0g l0_0 x23_2).f1) ((z0g l0_0 x23_2).f2) ((z0g l0_0 x23_2).f3) ((z0g l0_0 x23_2).f4) = some r) ∧ z0a (kq ≤ kj18) ∧ z0a (Kd.R Kd.bool 4 wc w.heap.size (fun _ => True) v125 x4_2) ∧ z0a (wc.heap[y5p]? = some (.cells #[(.slice (some ad132) l0_0.length c0_0)] 49 (0, 0))) ∧ z0a (wc.heap[z8n]? = some (.cells #[.int .u8 ((z0g l0_0 x23_2).f0), .int .i32 ((z0g l0_0 x23_2).f1), .int .u32 ((z0g l0_0 x23_2).f2), .int .u32 ((z0g l0_0 x23_2).f3), (.slice y1e ((z0g l0_0 x23_2).f4).length c132_4)] 58 (0, 0))) ∧ z0a (Below w.heap.size w wc))
        case first =>
         have H := HC22.out
         clear HC22
         by_cases c23 : ((z0g l0_0 x23_2).f0) = 8
         rotate_left
         ·rw [if_neg c23] at H
          have c23b0 : (((z0g l0_0 x23_2).f0) == 8) = false := beq_eq_false_iff_ne.mpr c23
          have c23b1 : (((z0g l0_0 x23_2).f0) != 8) = true := bne_iff_ne.mpr c23
          (first | rw [c23b0] | (simp only [z0V, z0W]; rw [c23b0]) | skip)
          have H' := z0a.mk H
          clear H
          go_wp2
          go_meet
          case rel => exact ⟨_, ((((z0g l0_0 x23_2).f0) == 9)), ze, H', ⟨by have := HJ1.out; have := HK2.out; have := HJ18.out; first | omega | exact Nat.le_refl _⟩, ⟨by (with_reducible repeat (first | apply Kd.z0Z | apply Kd.z0Y | apply Kd.z1n)); exact HO_4.out⟩, ⟨zk⟩, ⟨zk⟩, ⟨zb⟩⟩
         rw [if_pos c23] at H
         have c23b0 : (((z0g l0_0 x23_2).f0) == 8) = true := beq_iff_eq.mpr c23
         have c23b1 : (((z0g l0_0 x23_2).f0) != 8) = false := bne_eq_false_iff_eq.mpr c23
         clear c23
         (first | rw [c23b0] | (simp only [z0V, z0W]; rw [c23b0]) | skip)
         have H' := z0a.mk H
         clear H
         go_wp2
         go_meet
         case rel => exact ⟨_, ((((z0g l0_0 x23_2).f0) == 8)), ze, H', ⟨by have := HJ1.out; have := HK2.out; have := HJ18.out; first | omega | exact Nat.le_refl _⟩, ⟨by (with_reducible repeat (first | apply Kd.z0Z | apply Kd.z0Y | apply Kd.z1n)); exact HO_4.out⟩, ⟨zk⟩, ⟨zk⟩, ⟨zb⟩⟩
        case rest =>
         clear HC22
         try clear c6
         try clear c7
         try clear c7b0
         try clear c7b1
         try clear c8
         try clear c8b0
         try clear c8b1
         try clear c12
         try clear c12b0
         try clear c13
         try clear c13b0
         try clear c14
         try clear c14b0
         try clear c21
         try clear z3M
         try clear z4j
         try clear z4k
         try clear z4y
         try clear z9p
         try clear z9q
         try clear z4U
         try clear z3N
         try clear z4l
         try clear z4m
         try clear z4z
         try clear z9r
         try clear z9s
         try clear z4V
         try clear z8i
         try clear z8j
         try clear z8k
         try clear z8l
         try clear z8m
         try clear p132
         try clear q132
         obtain ⟨kq, x33_21, rfl, HA, HJ21, HO_4, z6c, z5q, HB⟩ := hcut
         cases kq with
         | zero => exact absurd HA.out (by simp [z0h.j3])
         | succ kj21 =>
          have H := HA.out
          clear HA
          simp only [z0h.j3] at H
          by_cases c24 : x33_21 = true
          ·subst c24
           have H1 : (if (((z0g l0_0 x23_2).f4).length : Int) = 1 then (z0h.j5 kj21 (l0_0.length : Int) x4_2 x23_2 l0_0 (l0_0.length : Int) x23_2 ((z0g l0_0 x23_2).f0) ((z0g l0_0 x23_2).f1) ((z0g l0_0 x23_2).f2) ((z0g l0_0 x23_2).f3) ((z0g l0_0 x23_2).f4)) else (some false)) = some r := by rw [if_pos rfl] at H; exact H
           clear H
           have H := H1
           clear H1
           by_cases c25 : (((z0g l0_0 x23_2).f4).length : Int) = 1
           rotate_left
           ·rw [if_neg c25] at H
            have c25b0 : ((((z0g l0_0 x23_2).f4).length : Int) == 1) = false := beq_eq_false_iff_ne.mpr c25
            have c25b1 : ((((z0g l0_0 x23_2).f4).length : Int) != 1) = true := bne_iff_ne.mpr c25
            obtain rfl := Option.some.inj H
            have hnb28 := z3O.out
            have hnc28 := z2m.out
            obtain ⟨z9t, z9u, z9v, x8F, x8G, z9w, z9x, z9y, x8H, x8I⟩ := zc5 wc z5q.out
            go_wp2
            go_ret
            exact ⟨zr, zb⟩
           rw [if_pos c25] at H
           have c25b0 : ((((z0g l0_0 x23_2).f4).length : Int) == 1) = true := beq_iff_eq.mpr c25
           have c25b1 : ((((z0g l0_0 x23_2).f4).length : Int) != 1) = false := bne_eq_false_iff_eq.mpr c25
           clear c25
           have H' := z0a.mk H
           clear H
           have hnb26 := z3O.out
           have hnc26 := z2m.out
           obtain ⟨y1P, y5h, y5i, y5j, x2A, y1Q, y5k, y5l, y5m, x2B⟩ := zc5 wc z5q.out
           go_wp2
           go_meet
           case rel => exact ⟨_, H', ⟨by have := HJ1.out; have := HK2.out; have := HJ18.out; have := HJ21.out; first | omega | exact Nat.le_refl _⟩, ⟨by (with_reducible repeat (first | apply Kd.z0Z | apply Kd.z0Y | apply Kd.z1n)); exact HO_4.out⟩, ⟨zk⟩, ⟨zk⟩, ⟨zb⟩⟩
          replace c24 := Bool.eq_false_iff.mpr c24
          subst c24
          have H1 : (if ((z0g l0_0 x23_2).f0) = 1 then (z0h.j4 kj21 (l0_0.length : Int) x4_2 x23_2 l0_0 (l0_0.length : Int) x23_2 (((z0g l0_0 x23_2).f0) == 1) ((z0g l0_0 x23_2).f0) ((z0g l0_0 x23_2).f1) ((z0g l0_0 x23_2).f2) ((z0g l0_0 x23_2).f3) ((z0g l0_0 x23_2).f4)) else (if ((z0g l0_0 x23_2).f0) = 2 then (z0h.j4 kj21 (l0_0.length : Int) x4_2 x23_2 l0_0 (l0_0.length : Int) x23_2 (((z0g l0_0 x23_2).f0) == 2) ((z0g l0_0 x23_2).f0) ((z0g l0_0 x23_2).f1) ((z0g l0_0 x23_2).f2) ((z0g l0_0 x23_2).f3) ((z0g l0_0 x23_2).f4)) else (if ((z0g l0_0 x23_2).f0) = 3 then (z0h.j4 kj21 (l0_0.length : Int) x4_2 x23_2 l0_0 (l0_0.length : Int) x23_2 (((z0g l0_0 x23_2).f0) == 3) ((z0g l0_0 x23_2).f0) ((z0g l0_0 x23_2).f1) ((z0g l0_0 x23_2).f2) ((z0g l0_0 x23_2).f3) ((z0g l0_0 x23_2).f4)) else (if ((z0g l0_0 x23_2).f0) = 4 then (z0h.j4 kj21 (l0_0.length : Int) x4_2 x23_2 l0_0 (l0_0.length : Int) x23_2 (((z0g l0_0 x23_2).f0) == 4) ((z0g l0_0 x23_2).f0) ((z0g l0_0 x23_2).f1) ((z0g l0_0 x23_2).f2) ((z0g l0_0 x23_2).f3) ((z0g l0_0 x23_2).f4)) else (z0h.j4 kj21 (l0_0.length : Int) x4_2 x23_2 l0_0 (l0_0.length : Int) x23_2 (((z0g l0_0 x23_2).f0) == 5) ((z0g l0_0 x23_2).f0) ((z0g l0_0 x23_2).f1) ((z0g l0_0 x23_2).f2) ((z0g l0_0 x23_2).f3) ((z0g l0_0 x23_2).f4)))))) = some r := by rw [if_neg (show ¬ (false = true) by decide)] at H; exact H
          clear H
          have H := H1
          clear H1
          have HC30 := z0a.mk H
          clear H
          go_upto_if 40 with (fail)
          go_cut [40] (fun v40 wc => ∃ (kq : Nat) (x40_29 : Bool), v40 = .bool x40_29 ∧ z0a (z0h.j4 kq (l0_0.length : Int) x4_2 x23_2 l0_0 (l0_0.length : Int) x23_2 x40_29 ((z0g l0_0 x23_2).f0) ((z0g l0_0 x23_2).f1) ((z0g l0_0 x23_2).f2) ((z0g l0_0 x23_2).f3) ((z0g l0_0 x23_2).f4) = some r) ∧ z0a (kq ≤ kj21) ∧ z0a (Kd.R Kd.bool 4 wc w.heap.size (fun _ => True) v125 x4_2) ∧ z0a (wc.heap[y5p]? = some (.cells #[(.slice (some ad132) l0_0.length c0_0)] 49 (0, 0))) ∧ z0a (wc.heap[z8n]? = some (.cells #[.int .u8 ((z0g l0_0 x23_2).f0), .int .i32 ((z0g l0_0 x23_2).f1), .int .u32 ((z0g l0_0 x23_2).f2), .int .u32 ((z0g l0_0 x23_2).f3), (.slice y1e ((z0g l0_0 x23_2).f4).length c132_4)] 58 (0, 0))) ∧ z0a (Below w.heap.size w wc))
          case first =>
           have H := HC30.out
           clear HC30
           by_cases c31 : ((z0g l0_0 x23_2).f0) = 1
           ·rw [if_pos c31] at H
            have c31b0 : (((z0g l0_0 x23_2).f0) == 1) = true := beq_iff_eq.mpr c31
            have c31b1 : (((z0g l0_0 x23_2).f0) != 1) = false := bne_eq_false_iff_eq.mpr c31
            clear c31
            (first | rw [c31b0] | (simp only [z0V, z0W]; rw [c31b0]) | skip)
            have H' := z0a.mk H
            clear H
            go_wp2
            go_meet
            case rel => exact ⟨_, ((((z0g l0_0 x23_2).f0) == 1)), ze, H', ⟨by have := HJ1.out; have := HK2.out; have := HJ18.out; have := HJ21.out; first | omega | exact Nat.le_refl _⟩, ⟨by (with_reducible repeat (first | apply Kd.z0Z | apply Kd.z0Y | apply Kd.z1n)); exact HO_4.out⟩, ⟨zk⟩, ⟨zk⟩, ⟨zb⟩⟩
           rw [if_neg c31] at H
           have c31b0 : (((z0g l0_0 x23_2).f0) == 1) = false := beq_eq_false_iff_ne.mpr c31
           have c31b1 : (((z0g l0_0 x23_2).f0) != 1) = true := bne_iff_ne.mpr c31
           (first | rw [c31b0] | (simp only [z0V, z0W]; rw [c31b0]) | skip)
           by_cases c32 : ((z0g l0_0 x23_2).f0) = 2
           ·rw [if_pos c32] at H
            have c32b0 : (((z0g l0_0 x23_2).f0) == 2) = true := beq_iff_eq.mpr c32
            have c32b1 : (((z0g l0_0 x23_2).f0) != 2) = false := bne_eq_false_iff_eq.mpr c32
            clear c32
            have H' := z0a.mk H
            clear H
            go_wp2
            go_meet
            case rel => exact ⟨_, ((((z0g l0_0 x23_2).f0) == 2)), ze, H', ⟨by have := HJ1.out; have := HK2.out; have := HJ18.out; have := HJ21.out; first | omega | exact Nat.le_refl _⟩, ⟨by (with_reducible repeat (first | apply Kd.z0Z | apply Kd.z0Y | apply Kd.z1n)); exact HO_4.out⟩, ⟨zk⟩, ⟨zk⟩, ⟨zb⟩⟩
           rw [if_neg c32] at H
           have c32b0 : (((z0g l0_0 x23_2).f0) == 2) = false := beq_eq_false_iff_ne.mpr c32
           have c32b1 : (((z0g l0_0 x23_2).f0) != 2) = true := bne_iff_ne.mpr c32
           by_cases c33 : ((z0g l0_0 x23_2).f0) = 3
           ·rw [if_pos c33] at H
            have c33b0 : (((z0g l0_0 x23_2).f0) == 3) = true := beq_iff_eq.mpr c33
            have c33b1 : (((z0g l0_0 x23_2).f0) != 3) = false := bne_eq_false_iff_eq.mpr c33
            clear c33
            have H' := z0a.mk H
            clear H
            go_wp2
            go_meet
            case rel => exact ⟨_, ((((z0g l0_0 x23_2).f0) == 3)), ze, H', ⟨by have := HJ1.out; have := HK2.out; have := HJ18.out; have := HJ21.out; first | omega | exact Nat.le_refl _⟩, ⟨by (with_reducible repeat (first | apply Kd.z0Z | apply Kd.z0Y | apply Kd.z1n)); exact HO_4.out⟩, ⟨zk⟩, ⟨zk⟩, ⟨zb⟩⟩
           rw [if_neg c33] at H
           have c33b0 : (((z0g l0_0 x23_2).f0) == 3) = false := beq_eq_false_iff_ne.mpr c33
           have c33b1 : (((z0g l0_0 x23_2).f0) != 3) = true := bne_iff_ne.mpr c33
           by_cases c34 : ((z0g l0_0 x23_2).f0) = 4
           rotate_left
           ·rw [if_neg c34] at H
            have c34b0 : (((z0g l0_0 x23_2).f0) == 4) = false := beq_eq_false_iff_ne.mpr c34
            have c34b1 : (((z0g l0_0 x23_2).f0) != 4) = true := bne_iff_ne.mpr c34
            have H' := z0a.mk H
            clear H
            go_wp2
            go_meet
            case rel => exact ⟨_, ((((z0g l0_0 x23_2).f0) == 5)), ze, H', ⟨by have := HJ1.out; have := HK2.out; have := HJ18.out; have := HJ21.out; first | omega | exact Nat.le_refl _⟩, ⟨by (with_reducible repeat (first | apply Kd.z0Z | apply Kd.z0Y | apply Kd.z1n)); exact HO_4.out⟩, ⟨zk⟩, ⟨zk⟩, ⟨zb⟩⟩
           rw [if_pos c34] at H
           have c34b0 : (((z0g l0_0 x23_2).f0) == 4) = true := beq_iff_eq.mpr c34
           have c34b1 : (((z0g l0_0 x23_2).f0) != 4) = false := bne_eq_false_iff_eq.mpr c34
           clear c34
           have H' := z0a.mk H
           clear H
           go_wp2
           go_meet
           case rel => exact ⟨_, ((((z0g l0_0 x23_2).f0) == 4)), ze, H', ⟨by have := HJ1.out; have := HK2.out; have := HJ18.out; have := HJ21.out; first | omega | exact Nat.le_refl _⟩, ⟨by (with_reducible repeat (first | apply Kd.z0Z | apply Kd.z0Y | apply Kd.z1n)); exact HO_4.out⟩, ⟨zk⟩, ⟨zk⟩, ⟨zb⟩⟩
          case rest =>
           clear HC30
           try clear c6
           try clear c7
           try clear c7b0
           try clear c7b1
           try clear c8
           try clear c8b0
           try clear c8b1
           try clear c12
           try clear c12b0
           try clear c13
           try clear c13b0
           try clear c14
           try clear c14b0
           try clear c21
           try clear c24
           try clear z3M
           try clear z4j
           try clear z4k
           try clear z4y
           try clear z9p
           try clear z9q
           try clear z4U
           try clear z3N
           try clear z4l
           try clear z4m
           try clear z4z
           try clear z9r
           try clear z9s
           try clear z4V
           try clear z8i
           try clear z8j
           try clear z8k
           try clear z8l
           try clear z8m
           try clear p132
           try clear q132
           obtain ⟨kq, x40_29, rfl, HA, HJ29, HO_4, z6c, z5q, HB⟩ := hcut
           cases kq with
           | zero => exact absurd HA.out (by simp [z0h.j4])
           | succ kj29 =>
            have H := HA.out
            clear HA
            simp only [z0h.j4] at H
            by_cases c35 : x40_29 = true
            rotate_left
            ·replace c35 := Bool.eq_false_iff.mpr c35
             subst c35
             have H1 : (some false) = some r := by rw [if_neg (show ¬ (false = true) by decide)] at H; exact H
             clear H
             have H := H1
             clear H1
             obtain rfl := Option.some.inj H
             go_wp2
             go_ret
             exact ⟨zr, zb⟩
            subst c35
            have H1 : (if (((z0g l0_0 x23_2).f4).length : Int) = 0 then (z0h.j5 kj29 (l0_0.length : Int) x4_2 x23_2 l0_0 (l0_0.length : Int) x23_2 ((z0g l0_0 x23_2).f0) ((z0g l0_0 x23_2).f1) ((z0g l0_0 x23_2).f2) ((z0g l0_0 x23_2).f3) ((z0g l0_0 x23_2).f4)) else (some false)) = some r := by rw [if_pos rfl] at H; exact H
            clear H
            have H := H1
            clear H1
            by_cases c36 : (((z0g l0_0 x23_2).f4).length : Int) = 0
            rotate_left
            ·rw [if_neg c36] at H
             have c36b0 : ((((z0g l0_0 x23_2).f4).length : Int) == 0) = false := beq_eq_false_iff_ne.mpr c36
             have c36b1 : ((((z0g l0_0 x23_2).f4).length : Int) != 0) = true := bne_iff_ne.mpr c36
             have c36b2 : ¬ (((z0g l0_0 x23_2).f4) = []) := fun h_ => c36 (by rw [h_]; rfl)
             obtain rfl := Option.some.inj H
             have hnb39 := z3O.out
             have hnc39 := z2m.out
             obtain ⟨hcz40_0, hcz40_1, hcz40_2, hcz40_3, hcz40_4, hfz40_0, hfz40_1, hfz40_2, hfz40_3, hfz40_4⟩ := zc5 wc z5q.out
             go_wp2
             go_ret
             exact ⟨zr, zb⟩
            rw [if_pos c36] at H
            have c36b0 : ((((z0g l0_0 x23_2).f4).length : Int) == 0) = true := beq_iff_eq.mpr c36
            have c36b1 : ((((z0g l0_0 x23_2).f4).length : Int) != 0) = false := bne_eq_false_iff_eq.mpr c36
            clear c36
            have H' := z0a.mk H
            clear H
            have hnb37 := z3O.out
            have hnc37 := z2m.out
            obtain ⟨z9z, y1V, y5r, y8d, y8e, z9A, y1W, y5s, y8f, y8g⟩ := zc5 wc z5q.out
            go_wp2
            go_meet
            case rel => exact ⟨_, H', ⟨by have := HJ1.out; have := HK2.out; have := HJ18.out; have := HJ21.out; have := HJ29.out; first | omega | exact Nat.le_refl _⟩, ⟨by (with_reducible repeat (first | apply Kd.z0Z | apply Kd.z0Y | apply Kd.z1n)); exact HO_4.out⟩, ⟨zk⟩, ⟨zk⟩, ⟨zb⟩⟩
     case rest =>
      clear HC15
      try clear c6
      try clear c7
      try clear c7b0
      try clear c7b1
      try clear c8
      try clear c8b0
      try clear c8b1
      try clear c12
      try clear c12b0
      try clear c13
      try clear c13b0
      try clear c14
      try clear c14b0
      try clear z3M
      try clear z4j
      try clear z4k
      try clear z4y
      try clear z9p
      try clear z9q
      try clear z4U
      try clear z3N
      try clear z4l
      try clear z4m
      try clear z4z
      try clear z9r
      try clear z9s
      try clear z4V
      try clear z8i
      try clear z8j
      try clear z8k
      try clear z8l
      try clear z8m
      try clear p132
      try clear q132
      obtain ⟨kq, HA, HJ14, HO_4, z6c, z5q, HB⟩ := hcut
      cases kq with
      | zero => exact absurd HA.out (by simp [z0h.j5])
      | succ kj14 =>
       have H := HA.out
       clear HA
       simp only [z0h.j5] at H
       have HC41 := z0a.mk H
       clear H
       go_upto_region 23 with (fail)
       go_cut [70] (fun v70 wc => ∃ (kq : Nat) (x70_40 : Bool), v70 = .bool x70_40 ∧ z0a (z0h.j6 kq (l0_0.length : Int) x4_2 x23_2 l0_0 (l0_0.length : Int) x23_2 x70_40 ((z0g l0_0 x23_2).f0) ((z0g l0_0 x23_2).f1) ((z0g l0_0 x23_2).f2) ((z0g l0_0 x23_2).f3) ((z0g l0_0 x23_2).f4) = some r) ∧ z0a (kq ≤ kj14) ∧ z0a (Kd.R Kd.bool 4 wc w.heap.size (fun _ => True) v125 x4_2) ∧ z0a (wc.heap[y5p]? = some (.cells #[(.slice (some ad132) l0_0.length c0_0)] 49 (0, 0))) ∧ z0a (wc.heap[z8n]? = some (.cells #[.int .u8 ((z0g l0_0 x23_2).f0), .int .i32 ((z0g l0_0 x23_2).f1), .int .u32 ((z0g l0_0 x23_2).f2), .int .u32 ((z0g l0_0 x23_2).f3), (.slice y1e ((z0g l0_0 x23_2).f4).length c132_4)] 58 (0, 0))) ∧ z0a (Below w.heap.size w wc))
       case first =>
        have H := HC41.out
        clear HC41
        by_cases c42 : ((z0g l0_0 x23_2).f1) = 0
        ·rw [if_pos c42] at H
         have c42b0 : (((z0g l0_0 x23_2).f1) == 0) = true := beq_iff_eq.mpr c42
         have c42b1 : (((z0g l0_0 x23_2).f1) != 0) = false := bne_eq_false_iff_eq.mpr c42
         clear c42
         (first | rw [c42b0] | (simp only [z0V, z0W]; rw [c42b0]) | skip)
         by_cases c43 : (Go.bits .or .u32 ((z0g l0_0 x23_2).f2) ((z0g l0_0 x23_2).f3)) = 0
         rotate_left
         ·rw [if_neg c43] at H
          have c43b0 : ((Go.bits .or .u32 ((z0g l0_0 x23_2).f2) ((z0g l0_0 x23_2).f3)) == 0) = false := beq_eq_false_iff_ne.mpr c43
          have c43b1 : ((Go.bits .or .u32 ((z0g l0_0 x23_2).f2) ((z0g l0_0 x23_2).f3)) != 0) = true := bne_iff_ne.mpr c43
          have H' := z0a.mk H
          clear H
          have hnb46 := z3O.out
          have hnc46 := z2m.out
          obtain ⟨x2C, x2D, x8J, x8K, x8L, x2E, x2F, x8M, x8N, x8O⟩ := zc5 wc z5q.out
          go_wp2
          go_meet
          case rel => exact ⟨_, ((((z0g l0_0 x23_2).f0) != 3)), ze, H', ⟨by have := HJ1.out; have := HK2.out; have := HJ14.out; first | omega | exact Nat.le_refl _⟩, ⟨by (with_reducible repeat (first | apply Kd.z0Z | apply Kd.z0Y | apply Kd.z1n)); exact HO_4.out⟩, ⟨zk⟩, ⟨zk⟩, ⟨zb⟩⟩
         rw [if_pos c43] at H
         have c43b0 : ((Go.bits .or .u32 ((z0g l0_0 x23_2).f2) ((z0g l0_0 x23_2).f3)) == 0) = true := beq_iff_eq.mpr c43
         have c43b1 : ((Go.bits .or .u32 ((z0g l0_0 x23_2).f2) ((z0g l0_0 x23_2).f3)) != 0) = false := bne_eq_false_iff_eq.mpr c43
         clear c43
         have H' := z0a.mk H
         clear H
         have hnb44 := z3O.out
         have hnc44 := z2m.out
         obtain ⟨x2G, x2H, x2I, x8P, x8Q, x2J, x2K, x2L, x8R, x8S⟩ := zc5 wc z5q.out
         go_wp2
         go_meet
         case rel => exact ⟨_, (false), ze, H', ⟨by have := HJ1.out; have := HK2.out; have := HJ14.out; first | omega | exact Nat.le_refl _⟩, ⟨by (with_reducible repeat (first | apply Kd.z0Z | apply Kd.z0Y | apply Kd.z1n)); exact HO_4.out⟩, ⟨zk⟩, ⟨zk⟩, ⟨zb⟩⟩
        rw [if_neg c42] at H
        have c42b0 : (((z0g l0_0 x23_2).f1) == 0) = false := beq_eq_false_iff_ne.mpr c42
        have c42b1 : (((z0g l0_0 x23_2).f1) != 0) = true := bne_iff_ne.mpr c42
        (first | rw [c42b0] | (simp only [z0V, z0W]; rw [c42b0]) | skip)
        by_cases c48 : ((z0g l0_0 x23_2).f0) = 2
        rotate_left
        ·rw [if_neg c48] at H
         have c48b0 : (((z0g l0_0 x23_2).f0) == 2) = false := beq_eq_false_iff_ne.mpr c48
         have c48b1 : (((z0g l0_0 x23_2).f0) != 2) = true := bne_iff_ne.mpr c48
         have H' := z0a.mk H
         clear H
         have hnb54 := z3O.out
         have hnc54 := z2m.out
         obtain ⟨x2M, x2N, x2O, x2P, x2Q, x2R, x2S, x2T, x2U, x2V⟩ := zc5 wc z5q.out
         go_wp2
         go_meet
         case rel => exact ⟨_, (true), ze, H', ⟨by have := HJ1.out; have := HK2.out; have := HJ14.out; first | omega | exact Nat.le_refl _⟩, ⟨by (with_reducible repeat (first | apply Kd.z0Z | apply Kd.z0Y | apply Kd.z1n)); exact HO_4.out⟩, ⟨zk⟩, ⟨zk⟩, ⟨zb⟩⟩
        rw [if_pos c48] at H
        have c48b0 : (((z0g l0_0 x23_2).f0) == 2) = true := beq_iff_eq.mpr c48
        have c48b1 : (((z0g l0_0 x23_2).f0) != 2) = false := bne_eq_false_iff_eq.mpr c48
        clear c48
        by_cases c49 : (Go.bits .or .u32 ((z0g l0_0 x23_2).f2) ((z0g l0_0 x23_2).f3)) = 0
        rotate_left
        ·rw [if_neg c49] at H
         have c49b0 : ((Go.bits .or .u32 ((z0g l0_0 x23_2).f2) ((z0g l0_0 x23_2).f3)) == 0) = false := beq_eq_false_iff_ne.mpr c49
         have c49b1 : ((Go.bits .or .u32 ((z0g l0_0 x23_2).f2) ((z0g l0_0 x23_2).f3)) != 0) = true := bne_iff_ne.mpr c49
         have H' := z0a.mk H
         clear H
         have hnb52 := z3O.out
         have hnc52 := z2m.out
         obtain ⟨y5t, y5u, x2W, x2X, x2Y, y5v, y5w, x2Z, x3a, x3b⟩ := zc5 wc z5q.out
         go_wp2
         go_meet
         case rel => exact ⟨_, ((((z0g l0_0 x23_2).f0) != 3)), ze, H', ⟨by have := HJ1.out; have := HK2.out; have := HJ14.out; first | omega | exact Nat.le_refl _⟩, ⟨by (with_reducible repeat (first | apply Kd.z0Z | apply Kd.z0Y | apply Kd.z1n)); exact HO_4.out⟩, ⟨zk⟩, ⟨zk⟩, ⟨zb⟩⟩
        rw [if_pos c49] at H
        have c49b0 : ((Go.bits .or .u32 ((z0g l0_0 x23_2).f2) ((z0g l0_0 x23_2).f3)) == 0) = true := beq_iff_eq.mpr c49
        have c49b1 : ((Go.bits .or .u32 ((z0g l0_0 x23_2).f2) ((z0g l0_0 x23_2).f3)) != 0) = false := bne_eq_false_iff_eq.mpr c49
        clear c49
        have H' := z0a.mk H
        clear H
        have hnb50 := z3O.out
        have hnc50 := z2m.out
        obtain ⟨y8h, y8i, y8j, x8T, x8U, y8k, y8l, y8m, x8V, x8W⟩ := zc5 wc z5q.out
        go_wp2
        go_meet
        case rel => exact ⟨_, (false), ze, H', ⟨by have := HJ1.out; have := HK2.out; have := HJ14.out; first | omega | exact Nat.le_refl _⟩, ⟨by (with_reducible repeat (first | apply Kd.z0Z | apply Kd.z0Y | apply Kd.z1n)); exact HO_4.out⟩, ⟨zk⟩, ⟨zk⟩, ⟨zb⟩⟩
       case rest =>
        clear HC41
        try clear c6
        try clear c7
        try clear c7b0
        try clear c7b1
        try clear c8
        try clear c8b0
        try clear c8b1
        try clear c12
        try clear c12b0
        try clear c13
        try clear c13b0
        try clear c14
        try clear c14b0
        try clear z3M
        try clear z4j
        try clear z4k
        try clear z4y
        try clear z9p
        try clear z9q
        try clear z4U
        try clear z3N
        try clear z4l
        try clear z4m
        try clear z4z
        try clear z9r
        try clear z9s
        try clear z4V
        try clear z8i
        try clear z8j
        try clear z8k
        try clear z8l
        try clear z8m
        try clear p132
        try clear q132
        obtain ⟨kq, x70_40, rfl, HA, HJ40, HO_4, z6c, z5q, HB⟩ := hcut
        cases kq with
        | zero => exact absurd HA.out (by simp [z0h.j6])
        | succ kj40 =>
         have H := HA.out
         clear HA
         simp only [z0h.j6] at H
         by_cases c56 : x70_40 = true
         ·subst c56
          have H1 : (some false) = some r := by rw [if_pos rfl] at H; exact H
          clear H
          have H := H1
          clear H1
          obtain rfl := Option.some.inj H
          go_wp2
          go_ret
          exact ⟨zr, zb⟩
         replace c56 := Bool.eq_false_iff.mpr c56
         subst c56
         have H1 : (z0h.l1 kj40 (l0_0.length : Int) x4_2 x23_2 l0_0 (l0_0.length : Int) x23_2 ((z0g l0_0 x23_2).f4) (((z0g l0_0 x23_2).f4).length : Int) 0) = some r := by rw [if_neg (show ¬ (false = true) by decide)] at H; exact H
         clear H
         have H := H1
         clear H1
         have H' := z0a.mk H
         clear H
         have hnb57 := z3O.out
         have hnc57 := z2m.out
         obtain ⟨y5x, y5y, y8n, x3c, x3d, y5z, y5A, y8o, x3e, x3f⟩ := zc5 wc z5q.out
         go_wp2
         go_loopg [74] kj40 (fun kq v74 w' => ∃ (x4_5 : List Bool) (x74_5 : Int), v74 = .int .i64 x74_5 ∧ z0a (z0h.l1 kq (l0_0.length : Int) x4_5 x23_2 l0_0 (l0_0.length : Int) x23_2 ((z0g l0_0 x23_2).f4) (((z0g l0_0 x23_2).f4).length : Int) x74_5 = some r) ∧ z0a (kq ≤ kj40) ∧ z0a (Kd.R Kd.bool 4 w' w.heap.size (fun _ => True) v125 x4_5) ∧ z0a (w'.heap[y5p]? = some (.cells #[(.slice (some ad132) l0_0.length c0_0)] 49 (0, 0))) ∧ z0a (w'.heap[z8n]? = some (.cells #[.int .u8 ((z0g l0_0 x23_2).f0), .int .i32 ((z0g l0_0 x23_2).f1), .int .u32 ((z0g l0_0 x23_2).f2), .int .u32 ((z0g l0_0 x23_2).f3), (.slice y1e ((z0g l0_0 x23_2).f4).length c132_4)] 58 (0, 0))) ∧ z0a (Below w.heap.size w w'))
         case atStart => exact ⟨(x4_2), (0), ze, H', ⟨Nat.le_refl _⟩, ⟨by (with_reducible repeat (first | apply Kd.z0Z | apply Kd.z0Y | apply Kd.z1n)); exact HO_4.out⟩, ⟨zk⟩, ⟨zk⟩, ⟨zb⟩⟩
         case round =>
          clear H'
          try clear c6
          try clear c7
          try clear c7b0
          try clear c7b1
          try clear c8
          try clear c8b0
          try clear c8b1
          try clear c12
          try clear c12b0
          try clear c13
          try clear c13b0
          try clear c14
          try clear c14b0
          try clear c56
          try clear z3M
          try clear z4j
          try clear z4k
          try clear z4y
          try clear z9p
          try clear z9q
          try clear z4U
          try clear y5x
          try clear y5y
          try clear y8n
          try clear x3c
          try clear x3d
          try clear z3N
          try clear z4l
          try clear z4m
          try clear z4z
          try clear z9r
          try clear z9s
          try clear z4V
          try clear y5z
          try clear y5A
          try clear y8o
          try clear x3e
          try clear x3f
          try clear z8i
          try clear z8j
          try clear z8k
          try clear z8l
          try clear z8m
          try clear p132
          try clear q132
          obtain ⟨x4_5, x74_5, rfl, HA, HK5, HO_4, z6c, z5q, HB⟩ := hrel
          cases gk with
          | zero => exact absurd HA.out (by simp [z0h.l1])
          | succ k5 =>
           have H := HA.out
           clear HA
           simp only [z0h.l1] at H
           by_cases c59 : x74_5 < (((z0g l0_0 x23_2).f4).length : Int)
           rotate_left
           ·rw [if_neg c59] at H
            have c59b0 : decide (x74_5 < (((z0g l0_0 x23_2).f4).length : Int)) = false := decide_eq_false c59
            clear c59
            have H' := z0a.mk H
            clear H
            go_wp2
            go_roundg k5
            case measure => have := HJ1.out; have := HK2.out; have := HJ14.out; have := HJ40.out; have := HK5.out; omega
            case rel => exact ⟨(x4_5), (wrap64 (x23_2 + 1)), ze, H', ⟨by have := HJ1.out; have := HK2.out; have := HJ14.out; have := HJ40.out; have := HK5.out; omega⟩, ⟨by (with_reducible repeat (first | apply Kd.z0Z | apply Kd.z0Y | apply Kd.z1n)); exact HO_4.out⟩, ⟨zk⟩, ⟨zb⟩⟩
           rw [if_pos c59] at H
           have c59b0 : decide (x74_5 < (((z0g l0_0 x23_2).f4).length : Int)) = true := decide_eq_true c59
           clear c59
           by_cases c60 : 0 ≤ x74_5
           rotate_left
           ·rw [if_neg c60] at H
            exact absurd H (by simp)
           rw [if_pos c60] at H
           have c60b0 : decide (0 ≤ x74_5) = true := decide_eq_true c60
           clear c60
           by_cases c61 : x74_5 < (((z0g l0_0 x23_2).f4).length : Int)
           rotate_left
           ·rw [if_neg c61] at H
            exact absurd H (by simp)
           rw [if_pos c61] at H
           have c61b0 : decide (x74_5 < (((z0g l0_0 x23_2).f4).length : Int)) = true := decide_eq_true c61
           clear c61
           by_cases c62 : (rd ((z0g l0_0 x23_2).f4) x74_5) ≤ x23_2
           ·rw [if_pos c62] at H
            have c62b0 : decide ((rd ((z0g l0_0 x23_2).f4) x74_5) ≤ x23_2) = true := decide_eq_true c62
            clear c62
            obtain rfl := Option.some.inj H
            have p134 : 0 ≤ (x74_5 : Int) := za
            have q134 : x74_5 < (((z0g l0_0 x23_2).f4).length : Int) := za
            obtain ⟨ad134, e134, z5z⟩ := Kd.z3d y5q.out x74_5 p134 q134
            cases e134
            replace z5z := zx HB z5z
            replace p134 := eq_true p134
            replace q134 := eq_true q134
            go_wp2
            go_ret
            exact ⟨zr, zb⟩
           rw [if_neg c62] at H
           have c62b0 : decide ((rd ((z0g l0_0 x23_2).f4) x74_5) ≤ x23_2) = false := decide_eq_false c62
           clear c62
           by_cases c63 : (rd ((z0g l0_0 x23_2).f4) x74_5) ≥ (l0_0.length : Int)
           ·rw [if_pos c63] at H
            have c63b0 : decide ((l0_0.length : Int) ≤ (rd ((z0g l0_0 x23_2).f4) x74_5)) = true := decide_eq_true c63
            clear c63
            obtain rfl := Option.some.inj H
            have p134 : 0 ≤ (x74_5 : Int) := za
            have q134 : x74_5 < (((z0g l0_0 x23_2).f4).length : Int) := za
            obtain ⟨ad134, e134, z5z⟩ := Kd.z3d y5q.out x74_5 p134 q134
            cases e134
            replace z5z := zx HB z5z
            replace p134 := eq_true p134
            replace q134 := eq_true q134
            go_wp2
            go_ret
            exact ⟨zr, zb⟩
           rw [if_neg c63] at H
           have c63b0 : decide ((l0_0.length : Int) ≤ (rd ((z0g l0_0 x23_2).f4) x74_5)) = false := decide_eq_false c63
           clear c63
           by_cases c64 : 0 ≤ (rd ((z0g l0_0 x23_2).f4) x74_5)
           rotate_left
           ·rw [if_neg c64] at H
            exact absurd H (by simp)
           rw [if_pos c64] at H
           have c64b0 : decide (0 ≤ (rd ((z0g l0_0 x23_2).f4) x74_5)) = true := decide_eq_true c64
           clear c64
           by_cases c65 : (rd ((z0g l0_0 x23_2).f4) x74_5) < (x4_5.length : Int)
           rotate_left
           ·rw [if_neg c65] at H
            exact absurd H (by simp)
           rw [if_pos c65] at H
           have c65b0 : decide ((rd ((z0g l0_0 x23_2).f4) x74_5) < (x4_5.length : Int)) = true := decide_eq_true c65
           clear c65
           obtain ⟨bq66, hbq66⟩ : ∃ b_ : Bool, b_ = (z7Q false x4_5 (rd ((z0g l0_0 x23_2).f4) x74_5)) := ⟨_, rfl⟩
           replace H : (if bq66 = true then (some false) else (z0h.l1 k5 (l0_0.length : Int) (x4_5.set ((rd ((z0g l0_0 x23_2).f4) x74_5) : Int).toNat true) x23_2 l0_0 (l0_0.length : Int) x23_2 ((z0g l0_0 x23_2).f4) (((z0g l0_0 x23_2).f4).length : Int) (wrap64 (x74_5 + 1)))) = some r := by rw [← hbq66] at H; exact H
           have Nbq66 := z0a.mk hbq66
           clear hbq66
           by_cases c67 : bq66 = true
           ·subst c67
            have H1 : (some false) = some r := by rw [if_pos rfl] at H; exact H
            clear H
            have H := H1
            clear H1
            obtain rfl := Option.some.inj H
            have p134 : 0 ≤ (x74_5 : Int) := za
            have q134 : x74_5 < (((z0g l0_0 x23_2).f4).length : Int) := za
            obtain ⟨ad134, e134, z5z⟩ := Kd.z3d y5q.out x74_5 p134 q134
            cases e134
            replace z5z := zx HB z5z
            replace p134 := eq_true p134
            replace q134 := eq_true q134
            obtain ⟨Ao68, co68, eo68⟩ := Kd.z2q HO_4.out
            subst eo68
            have p135 : 0 ≤ ((rd ((z0g l0_0 x23_2).f4) x74_5) : Int) := za
            have q135 : (rd ((z0g l0_0 x23_2).f4) x74_5) < (x4_5.length : Int) := za
            obtain ⟨ad135, e135, y5B⟩ := Kd.y4S (Kd.z1K HO_4.out).2.2 (rd ((z0g l0_0 x23_2).f4) x74_5) p135 q135
            (try rw [← Nbq66.out] at y5B)
            cases e135
            replace p135 := eq_true p135
            replace q135 := eq_true q135
            go_wp2
            go_ret
            exact ⟨zr, zb⟩
           replace c67 := Bool.eq_false_iff.mpr c67
           subst c67
           have H1 : (z0h.l1 k5 (l0_0.length : Int) (x4_5.set ((rd ((z0g l0_0 x23_2).f4) x74_5) : Int).toNat true) x23_2 l0_0 (l0_0.length : Int) x23_2 ((z0g l0_0 x23_2).f4) (((z0g l0_0 x23_2).f4).length : Int) (wrap64 (x74_5 + 1))) = some r := by rw [if_neg (show ¬ (false = true) by decide)] at H; exact H
           clear H
           have H := H1
           clear H1
           obtain ⟨y136, hy136⟩ : ∃ y_ : List Bool, y_ = (x4_5.set ((rd ((z0g l0_0 x23_2).f4) x74_5) : Int).toNat true) := ⟨_, rfl⟩
           replace H : (z0h.l1 k5 (l0_0.length : Int) y136 x23_2 l0_0 (l0_0.length : Int) x23_2 ((z0g l0_0 x23_2).f4) (((z0g l0_0 x23_2).f4).length : Int) (wrap64 (x74_5 + 1))) = some r := by first | (rw [hy136]; with_reducible exact H) | (have H2_ := (Option.bind_some _ _).symm.trans H; rw [hy136]; with_reducible exact H2_) | (have H2_ := (Option.bind_some _ _).symm.trans H; with_reducible exact H2_) | with_reducible exact H | (rw [hy136]; exact H) | exact H
           have Ny136 := z0a.mk hy136
           clear hy136
           have H' := z0a.mk H
           clear H
           have p134 : 0 ≤ (x74_5 : Int) := za
           have q134 : x74_5 < (((z0g l0_0 x23_2).f4).length : Int) := za
           obtain ⟨ad134, e134, z5z⟩ := Kd.z3d y5q.out x74_5 p134 q134
           cases e134
           replace z5z := zx HB z5z
           replace p134 := eq_true p134
           replace q134 := eq_true q134
           obtain ⟨Ao70, co70, eo70⟩ := Kd.z2q HO_4.out
           subst eo70
           have p135 : 0 ≤ ((rd ((z0g l0_0 x23_2).f4) x74_5) : Int) := za
           have q135 : (rd ((z0g l0_0 x23_2).f4) x74_5) < (x4_5.length : Int) := za
           obtain ⟨ad135, e135, y5B⟩ := Kd.y4S (Kd.z1K HO_4.out).2.2 (rd ((z0g l0_0 x23_2).f4) x74_5) p135 q135
           (try rw [← Nbq66.out] at y5B)
           cases e135
           replace p135 := eq_true p135
           replace q135 := eq_true q135
           have p69 : 0 ≤ ((rd ((z0g l0_0 x23_2).f4) x74_5) : Int) := za
           have q69 : ((rd ((z0g l0_0 x23_2).f4) x74_5) : Int) < ((x4_5.length : Int) : Int) := za
           obtain ⟨go69, co69, eo69, gb69, gl69, cl69, HG69⟩ := Kd.z9T HO_4.out (by omega)
           (first | cases eo69 | (injection eo69 with ea_ en_ ec_; (first | subst ea_ | (injection ea_ with ea_; subst ea_)); subst ec_; clear en_))
           have GB69 := z0a.mk gb69
           have GG69 := z0a.mk HG69
           clear gb69 gl69 HG69
           (first | simp only [add_plain] at y5B | skip)
           obtain ⟨hx69_0, hf69_0⟩ := Kd.y4T false HO_4.out ((rd ((z0g l0_0 x23_2).f4) x74_5) : Int) p69 q69
           replace p69 := eq_true p69
           replace q69 := eq_true q69
           have HP71 := Kd.x7K HO_4.out ((rd ((z0g l0_0 x23_2).f4) x74_5) : Int) true
           go_wp2_with (first | ((with_reducible refine y4t (t := 4) (p := 94) rfl ?_); refine y1D (t := 4) (p := 94) (v := ?vo_w72) (w1 := (wr.setCell ⟨go69, ((rd ((z0g l0_0 x23_2).f4) x74_5) : Int).toNat, none⟩ (.bool true))) ?hg ?ho ?hn ?hr ?_; (case ho => rfl); (case hg => rfl); (case hn => rfl); (case hr => first | (go_simp; done) | (go_simp; rfl)); intro w72 hw; have hg : wr.grownBy w72 (some go69) := (by rw [hw]; exact HP71.2); have hp_ : Kd.R Kd.bool 4 w72 w.heap.size (fun _ => True) (.slice (some ⟨go69, 0, none⟩) x4_5.length co70) y136 := (by rw [hw, Ny136.out]; exact HP71.1); clear HP71; have n0_ := z0a.mk (hp_); have n1_ := z0a.mk (z5t (g := y5p) (o := .cells #[.slice (some ad132) l0_0.length c0_0] 49 (0, 0)) zk hg (Kd.x7G HO_4.out z6c.out (by decide))); have n2_ := z0a.mk (z5t (g := z8n) (o := .cells #[.int .u8 ((z0g l0_0 x23_2).f0), .int .i32 ((z0g l0_0 x23_2).f1), .int .u32 ((z0g l0_0 x23_2).f2), .int .u32 ((z0g l0_0 x23_2).f3), .slice (some ad134) ((z0g l0_0 x23_2).f4).length c132_4] 58 (0, 0)) zk hg (Kd.x7G HO_4.out z5q.out (by decide))); have n3_ := z0a.mk ((by rw [hw]; exact z1X (HB.out) GB69.out : Below w.heap.size w w72)); clear HO_4; clear z6c; clear z5q; clear HB; have HO_4 := n0_; have z6c := n1_; have z5q := n2_; have HB := n3_; clear n0_ n1_ n2_ n3_; clear hg hw hp_))
           go_roundg k5
           case measure => have := HJ1.out; have := HK2.out; have := HJ14.out; have := HJ40.out; have := HK5.out; omega
           case rel => exact ⟨(y136), (wrap64 (x74_5 + 1)), ze, H', ⟨by have := HJ1.out; have := HK2.out; have := HJ14.out; have := HJ40.out; have := HK5.out; omega⟩, ⟨by (with_reducible repeat (first | apply Kd.z0Z | apply Kd.z0Y | apply Kd.z1n)); exact HO_4.out⟩, ⟨zk⟩, ⟨zk⟩, ⟨zb⟩⟩
def z0P.l0 : Nat → List (S58) → Int → Int → List ByteArray → List (z1J) → Option (Int)
 | 0, _, _, _, _, _ => none
 | k + 1, x21, x22, x23, y1X, y1Y => if x23 < x22 then (if 0 ≤ x23 then (if x23 < (x21.length : Int) then (if ((z0g x21 x23).f0) = 2 then ((z3j.f y1X y1Y ((z0g x21 x23).f1)).bind fun bt143 => (if bt143.2.2.2 = 0 then (z0P.l0 k x21 x22 (wrap64 (x23 + 1)) y1X y1Y) else (some 40))) else (if ((z0g x21 x23).f0) = 3 then ((z2J.f y1X y1Y ((z0g x21 x23).f2) ((z0g x21 x23).f3)).bind fun bt148 => (if bt148.2 = 0 then (z0P.l0 k x21 x22 (wrap64 (x23 + 1)) y1X y1Y) else (some 40))) else (z0P.l0 k x21 x22 (wrap64 (x23 + 1)) y1X y1Y))) else (none)) else (none)) else (some 0)
def z0P.f (k : Nat) (l0_0 : List ByteArray) (l0_1 : List (z1J)) (l1_0 : List (S58)) : Option (Int) := (z0T.f l0_0 l0_1).bind fun t139 => (if t139 = 0 then ((z0h.f k l1_0).bind fun t140 => (if t140 = true then (z0P.l0 k l1_0 (l1_0.length : Int) 0 l0_0 l0_1) else (some 40))) else (some t139))
theorem z0P.z1t : ∀ k, (∀ y0 y1 y2 y3 y4, LeO (z0P.l0 k y0 y1 y2 y3 y4) (z0P.l0 (k + 1) y0 y1 y2 y3 y4))
 | 0 => fun _ _ _ _ _ r h => by simp [z0P.l0] at h
 | k + 1 => by
  have ih0 := z0P.z1t k
  ·intro y0 y1 y2 y3 y4
   unfold z0P.l0
   repeat' first
   | (with_reducible exact ih0 _ _ _ _ _)
   | (with_reducible exact z0h.mono _ _)
   | (with_reducible exact LeO.refl _)
   | (with_reducible exact LeO.none _)
   | (with_reducible refine LeO.ite ?_ ?_)
   | (with_reducible refine LeO.bind ?_ (fun _ => ?_))
theorem z0P.mono : ∀ a0 a1 a2 k, LeO (z0P.f k a0 a1 a2) (z0P.f (k + 1) a0 a1 a2) := by
 intro a0 a1 a2 k
 have ih0 := z0P.z1t k
 unfold z0P.f
 repeat' first
   | (with_reducible exact ih0 _ _ _ _ _)
   | (with_reducible exact z0h.mono _ _)
   | (with_reducible exact LeO.refl _)
   | (with_reducible exact LeO.none _)
   | (with_reducible refine LeO.ite ?_ ?_)
   | (with_reducible refine LeO.bind ?_ (fun _ => ?_))
set_option maxHeartbeats 8000000 in
set_option maxRecDepth 100000 in
theorem z0P.calls (k : Nat) (z0U : Option Addr) (c0_0 : Nat) (l0_0 : List ByteArray) (z0X : Option Addr) (c0_1 : Nat) (l0_1 : List (z1J)) (y7L : Option Addr) (c1_0 : Nat) (l1_0 : List (S58)) (r : Int) (w : World) (hr0_0 : Kd.C Kd.string w z0U l0_0.length l0_0) (hc0_0 : l0_0.length ≤ c0_0) (hr0_1 : Kd.C z5a w z0X l0_1.length l0_1) (hc0_1 : l0_1.length ≤ c0_1) (hr1_0 : Kd.C k58 w y7L l1_0.length l1_0) (hc1_0 : l1_0.length ≤ c1_0) (h : z0P.f k l0_0 l0_1 l1_0 = some r) :
  Calls Tryz.prog 144 #[.agg #[.slice z0U l0_0.length c0_0, .slice z0X l0_1.length c0_1], .agg #[.slice y7L l1_0.length c1_0]] w fun e w' => e = .returned (.int .i64 r) ∧ Below w.heap.size w w' := by
 have hu25 := Tryz.underlying25
 have hu49 := Tryz.underlying49
 have hu58 := Tryz.underlying58
 have hu145 := Tryz.underlying145
 have z2g := z0a.mk hr0_0
 have z1g := z0a.mk hc0_0
 clear hr0_0 hc0_0
 have z2x := z0a.mk hr0_1
 have z1j := z0a.mk hc0_1
 clear hr0_1 hc0_1
 have y0v := z0a.mk hr1_0
 have x3g := z0a.mk hc1_0
 clear hr1_0 hc1_0
 have HB := z0a.mk (Below.refl w.heap.size w)
 have H : ((z0T.f l0_0 l0_1).bind fun t139 => (if t139 = 0 then ((z0h.f k l1_0).bind fun t140 => (if t140 = true then (z0P.l0 k l1_0 (l1_0.length : Int) 0 l0_0 l0_1) else (some 40))) else (some t139))) = some r := h
 clear h
 replace H := Option.bind_eq_some_iff.mp H
 obtain ⟨t139, A30, H⟩ := H
 replace H : (if t139 = 0 then ((z0h.f k l1_0).bind fun t140 => (if t140 = true then (z0P.l0 k l1_0 (l1_0.length : Int) 0 l0_0 l0_1) else (some 40))) else (some t139)) = some r := H
 have A3 := z0a.mk A30
 clear A30
 by_cases c4 : t139 = 0
 rotate_left
 ·rw [if_neg c4] at H
  have c4b0 : (t139 == 0) = false := beq_eq_false_iff_ne.mpr c4
  have c4b1 : (t139 != 0) = true := bne_iff_ne.mpr c4
  obtain rfl := Option.some.inj H
  go_enter Tryz.func144, Tryz.ntmps144
  go_wp2_with (first | ((with_reducible refine z0o (N := 2) rfl ?_); refine zo (cs := #[.slice z0U l0_0.length c0_0, .slice z0X l0_1.length c0_1]) (t := 25) ?_; intro y8p hg w73 hbox hb; have z2e := z0a.mk hbox; have w2G := zG HB hg; have w2H := zG HB hg; replace HB := zB HB hb; clear hb hbox hg) | ((with_reducible refine z0o (N := 3) rfl ?_); refine zo (cs := #[.slice y7L l1_0.length c1_0]) (t := 49) ?_; intro y8q hg w74 hbox hb; have z2G := z0a.mk hbox; have w2I := zG HB hg; have w2J := zG HB hg; have z4A := zN z2e hg; have z4B := zM z2e hg; replace z2e := zK z2e hb; replace HB := zB HB hb; clear hb hbox hg; have hnb75 := z4A.out; have hnc75 := z4B.out; obtain ⟨hcz76_0, hcz76_1, hfz76_0, hfz76_1⟩ := zc2 w74 z2e.out) | ((with_reducible refine z0m (f := 78) rfl ?_); refine z1a (some 13) rfl rfl Tryz.func78 (by kernel_rfl) rfl #[.agg #[.slice z0U l0_0.length c0_0, .slice z0X l0_1.length c0_1]] rfl zq ?_; (with_reducible refine (z0T.calls _ _ l0_0 _ _ l0_1 t139 _ ?z0M z1g.out ?z0Q z1j.out A3.out).mono ?_); (case z0M => exact zs); (case z0Q => exact zs); rintro e w77 ⟨rfl, hb⟩; refine ⟨_, rfl, ?_⟩; replace z2e := zK z2e hb; replace z2G := zK z2G hb; replace HB := zB HB hb; (try clear hb)))
  go_ret
  exact ⟨zr, zb⟩
 rw [if_pos c4] at H
 have c4b0 : (t139 == 0) = true := beq_iff_eq.mpr c4
 have c4b1 : (t139 != 0) = false := bne_eq_false_iff_eq.mpr c4
 clear c4
 replace H := Option.bind_eq_some_iff.mp H
 obtain ⟨t140, A50, H⟩ := H
 replace H : (if t140 = true then (z0P.l0 k l1_0 (l1_0.length : Int) 0 l0_0 l0_1) else (some 40)) = some r := H
 have A5 := z0a.mk A50
 clear A50
 by_cases c6 : t140 = true
 rotate_left
 ·replace c6 := Bool.eq_false_iff.mpr c6
  subst c6
  have H1 : (some 40) = some r := by rw [if_neg (show ¬ (false = true) by decide)] at H; exact H
  clear H
  have H := H1
  clear H1
  obtain rfl := Option.some.inj H
  go_enter Tryz.func144, Tryz.ntmps144
  go_wp2_with (first | ((with_reducible refine z0o (N := 2) rfl ?_); refine zo (cs := #[.slice z0U l0_0.length c0_0, .slice z0X l0_1.length c0_1]) (t := 25) ?_; intro y8p hg w66 hbox hb; have z2e := z0a.mk hbox; have w2G := zG HB hg; have w2H := zG HB hg; replace HB := zB HB hb; clear hb hbox hg) | ((with_reducible refine z0o (N := 3) rfl ?_); refine zo (cs := #[.slice y7L l1_0.length c1_0]) (t := 49) ?_; intro y8q hg w67 hbox hb; have z2G := z0a.mk hbox; have w2I := zG HB hg; have w2J := zG HB hg; have z4A := zN z2e hg; have z4B := zM z2e hg; replace z2e := zK z2e hb; replace HB := zB HB hb; clear hb hbox hg; have hnb68 := z4A.out; have hnc68 := z4B.out; obtain ⟨x8X, hcz69_1, x8Y, hfz69_1⟩ := zc2 w67 z2e.out) | ((with_reducible refine z0m (f := 78) rfl ?_); refine z1a (some 13) rfl rfl Tryz.func78 (by kernel_rfl) rfl #[.agg #[.slice z0U l0_0.length c0_0, .slice z0X l0_1.length c0_1]] rfl zq ?_; (with_reducible refine (z0T.calls _ _ l0_0 _ _ l0_1 t139 _ ?z0M z1g.out ?z0Q z1j.out A3.out).mono ?_); (case z0M => exact zs); (case z0Q => exact zs); rintro e w70 ⟨rfl, hb⟩; refine ⟨_, rfl, ?_⟩; replace z2e := zK z2e hb; replace z2G := zK z2G hb; replace HB := zB HB hb; (try clear hb); obtain ⟨hcz71_0, hfz71_0⟩ := zc1 w70 z2G.out) | ((with_reducible refine z0m (f := 173) rfl ?_); refine z1a (some 18) rfl rfl Tryz.func173 (by kernel_rfl) rfl #[.agg #[.slice y7L l1_0.length c1_0]] rfl zq ?_; (with_reducible refine (z0h.calls k _ _ l1_0 false _ ?z0M x3g.out A5.out).mono ?_); (case z0M => exact zs); rintro e w72 ⟨rfl, hb⟩; refine ⟨_, rfl, ?_⟩; replace z2e := zK z2e hb; replace z2G := zK z2G hb; replace HB := zB HB hb; (try clear hb)))
  go_ret
  exact ⟨zr, zb⟩
 subst c6
 have H1 : (z0P.l0 k l1_0 (l1_0.length : Int) 0 l0_0 l0_1) = some r := by rw [if_pos rfl] at H; exact H
 clear H
 have H := H1
 clear H1
 have H' := z0a.mk H
 clear H
 go_enter Tryz.func144, Tryz.ntmps144
 go_wp2_with (first | ((with_reducible refine z0o (N := 2) rfl ?_); refine zo (cs := #[.slice z0U l0_0.length c0_0, .slice z0X l0_1.length c0_1]) (t := 25) ?_; intro y8p hg w7 hbox hb; have z2e := z0a.mk hbox; have w2G := zG HB hg; have w2H := zG HB hg; replace HB := zB HB hb; clear hb hbox hg) | ((with_reducible refine z0o (N := 3) rfl ?_); refine zo (cs := #[.slice y7L l1_0.length c1_0]) (t := 49) ?_; intro y8q hg w8 hbox hb; have z2G := z0a.mk hbox; have w2I := zG HB hg; have w2J := zG HB hg; have z4A := zN z2e hg; have z4B := zM z2e hg; replace z2e := zK z2e hb; replace HB := zB HB hb; clear hb hbox hg; have hnb9 := z4A.out; have hnc9 := z4B.out; obtain ⟨z6C, z6D, z6E, z6F⟩ := zc2 w8 z2e.out) | ((with_reducible refine z0m (f := 78) rfl ?_); refine z1a (some 13) rfl rfl Tryz.func78 (by kernel_rfl) rfl #[.agg #[.slice z0U l0_0.length c0_0, .slice z0X l0_1.length c0_1]] rfl zq ?_; (with_reducible refine (z0T.calls _ _ l0_0 _ _ l0_1 t139 _ ?z0M z1g.out ?z0Q z1j.out A3.out).mono ?_); (case z0M => exact zs); (case z0Q => exact zs); rintro e w11 ⟨rfl, hb⟩; refine ⟨_, rfl, ?_⟩; replace z2e := zK z2e hb; replace z2G := zK z2G hb; replace HB := zB HB hb; (try clear hb); obtain ⟨z8o, z8p⟩ := zc1 w11 z2G.out) | ((with_reducible refine z0m (f := 173) rfl ?_); refine z1a (some 18) rfl rfl Tryz.func173 (by kernel_rfl) rfl #[.agg #[.slice y7L l1_0.length c1_0]] rfl zq ?_; (with_reducible refine (z0h.calls k _ _ l1_0 true _ ?z0M x3g.out A5.out).mono ?_); (case z0M => exact zs); rintro e w13 ⟨rfl, hb⟩; refine ⟨_, rfl, ?_⟩; replace z2e := zK z2e hb; replace z2G := zK z2G hb; replace HB := zB HB hb; (try clear hb); obtain ⟨y1T, y1U⟩ := zc1 w13 z2G.out))
 go_loopg [23] k (fun kq v23 w' => ∃ (x23_1 : Int), v23 = .int .i64 x23_1 ∧ z0a (z0P.l0 kq l1_0 (l1_0.length : Int) x23_1 l0_0 l0_1 = some r) ∧ z0a (kq ≤ k) ∧ z0a (w'.heap[y8p]? = some (.cells #[(.slice z0U l0_0.length c0_0), (.slice z0X l0_1.length c0_1)] 25 (0, 0))) ∧ z0a (w'.heap[y8q]? = some (.cells #[(.slice y7L l1_0.length c1_0)] 49 (0, 0))) ∧ z0a (Below w.heap.size w w'))
 case atStart => exact ⟨(0), ze, H', ⟨Nat.le_refl _⟩, ⟨zk⟩, ⟨zk⟩, ⟨zb⟩⟩
 case round =>
  clear H'
  try clear c4
  try clear c4b0
  try clear c4b1
  try clear c6
  try clear z6C
  try clear z6D
  try clear z8o
  try clear y1T
  try clear z6E
  try clear z6F
  try clear z8p
  try clear y1U
  obtain ⟨x23_1, rfl, HA, HK1, z2e, z2G, HB⟩ := hrel
  cases gk with
  | zero => exact absurd HA.out (by simp [z0P.l0])
  | succ k1 =>
   have H := HA.out
   clear HA
   simp only [z0P.l0] at H
   by_cases c15 : x23_1 < (l1_0.length : Int)
   rotate_left
   ·rw [if_neg c15] at H
    have c15b0 : decide (x23_1 < (l1_0.length : Int)) = false := decide_eq_false c15
    clear c15
    obtain rfl := Option.some.inj H
    go_wp2
    go_ret
    exact ⟨zr, zb⟩
   rw [if_pos c15] at H
   have c15b0 : decide (x23_1 < (l1_0.length : Int)) = true := decide_eq_true c15
   clear c15
   by_cases c16 : 0 ≤ x23_1
   rotate_left
   ·rw [if_neg c16] at H
    exact absurd H (by simp)
   rw [if_pos c16] at H
   have c16b0 : decide (0 ≤ x23_1) = true := decide_eq_true c16
   clear c16
   by_cases c17 : x23_1 < (l1_0.length : Int)
   rotate_left
   ·rw [if_neg c17] at H
    exact absurd H (by simp)
   rw [if_pos c17] at H
   have c17b0 : decide (x23_1 < (l1_0.length : Int)) = true := decide_eq_true c17
   clear c17
   by_cases c18 : ((z0g l1_0 x23_1).f0) = 2
   ·rw [if_pos c18] at H
    have c18b0 : (((z0g l1_0 x23_1).f0) == 2) = true := beq_iff_eq.mpr c18
    have c18b1 : (((z0g l1_0 x23_1).f0) != 2) = false := bne_eq_false_iff_eq.mpr c18
    clear c18
    replace H := Option.bind_eq_some_iff.mp H
    obtain ⟨⟨t143, t144, t145, t146⟩, A190, H⟩ := H
    replace H : (if t146 = 0 then (z0P.l0 k1 l1_0 (l1_0.length : Int) (wrap64 (x23_1 + 1)) l0_0 l0_1) else (some 40)) = some r := H
    have A19 := z0a.mk A190
    clear A190
    by_cases c20 : t146 = 0
    rotate_left
    ·rw [if_neg c20] at H
     have c20b0 : (t146 == 0) = false := beq_eq_false_iff_ne.mpr c20
     have c20b1 : (t146 != 0) = true := bne_iff_ne.mpr c20
     obtain rfl := Option.some.inj H
     have p141 : 0 ≤ (x23_1 : Int) := za
     have q141 : x23_1 < (l1_0.length : Int) := za
     obtain ⟨ad141, y1f, c141_4, e141, z4C, z4D, z4E, z4F, z4G, z4H, z4I⟩ := z3y y0v.out x23_1 p141 q141
     cases e141
     replace z4C := zx HB z4C
     replace z4D := zx HB z4D
     replace z4E := zx HB z4E
     replace z4F := zx HB z4F
     replace z4G := zx HB z4G
     have y5C := z0a.mk z4I
     have y5D := z0a.mk z4H
     clear z4I z4H
     replace p141 := eq_true p141
     replace q141 := eq_true q141
     go_wp2_with (first | ((with_reducible refine z0o (N := 7) rfl ?_); refine zo (cs := #[.int .u8 0, .int .i32 0, .int .u32 0, .int .u32 0, .slice none 0 0]) (t := 58) ?_; intro y7e hg w33 hbox hb; have z5g := z0a.mk hbox; have x6X := zG HB hg; have x6Y := zG HB hg; have z1F := zN z2e hg; have z4J := zM z2e hg; have z1G := zN z2G hg; have z4K := zM z2G hg; replace z2e := zK z2e hb; replace z2G := zK z2G hb; replace HB := zB HB hb; clear hb hbox hg; have hnb34 := z4J.out; have hnc34 := z1F.out; have hnb35 := z4K.out; have hnc35 := z1G.out; obtain ⟨x3h, x3i, x3j, x3k, x3l, x3m, x3n, x3o, x3p, x3q⟩ := zc5 w33 z5g.out; have hnb37 := z4A.out; have hnc37 := z4B.out; obtain ⟨z9z, y1V, z9A, y1W⟩ := zc2 w33 z2e.out) | ((with_reducible refine z0m (f := 174) rfl ?_); refine z1a (some 35) rfl rfl Tryz.func174 (by kernel_rfl) rfl #[.agg #[.slice z0U l0_0.length c0_0, .slice z0X l0_1.length c0_1], .int .i32 ((z0g l1_0 x23_1).f1)] rfl zq ?_; (with_reducible refine (z3j.calls _ _ l0_0 _ _ l0_1 ((z0g l1_0 x23_1).f1) t143 t144 t145 t146 _ ?z0M z1g.out ?z0Q z1j.out A19.out).mono ?_); (case z0M => exact Kd.z0t z2g.out zb); (case z0Q => exact Kd.z0t z2x.out zb); rintro e w39 ⟨rfl, hb⟩; refine ⟨_, rfl, ?_⟩; replace z2e := z0a.mk (z0O (g := y8p) (o := .cells #[.slice z0U l0_0.length c0_0, .slice z0X l0_1.length c0_1] 25 (0, 0)) (by (with_reducible repeat (first | refine z0c ?_ _ | refine z0e ?_ | refine z0b ?_ _)); refine z0n ?_ z1F.out _; (with_reducible repeat (first | refine z0c ?_ _ | refine z0e ?_ | refine z0b ?_ _)); refine z0n ?_ z1F.out _; (with_reducible repeat (first | refine z0c ?_ _ | refine z0e ?_ | refine z0b ?_ _)); refine z0n ?_ z1F.out _; (with_reducible repeat (first | refine z0c ?_ _ | refine z0e ?_ | refine z0b ?_ _)); refine z0n ?_ z1F.out _; (with_reducible repeat (first | refine z0c ?_ _ | refine z0e ?_ | refine z0b ?_ _)); refine z0n ?_ z1F.out _; (with_reducible repeat (first | refine z0c ?_ _ | refine z0e ?_ | refine z0b ?_ _)); exact z2e.out) hb); replace z2G := z0a.mk (z0O (g := y8q) (o := .cells #[.slice (some ad141) l1_0.length c1_0] 49 (0, 0)) (by (with_reducible repeat (first | refine z0c ?_ _ | refine z0e ?_ | refine z0b ?_ _)); refine z0n ?_ z1G.out _; (with_reducible repeat (first | refine z0c ?_ _ | refine z0e ?_ | refine z0b ?_ _)); refine z0n ?_ z1G.out _; (with_reducible repeat (first | refine z0c ?_ _ | refine z0e ?_ | refine z0b ?_ _)); refine z0n ?_ z1G.out _; (with_reducible repeat (first | refine z0c ?_ _ | refine z0e ?_ | refine z0b ?_ _)); refine z0n ?_ z1G.out _; (with_reducible repeat (first | refine z0c ?_ _ | refine z0e ?_ | refine z0b ?_ _)); refine z0n ?_ z1G.out _; (with_reducible repeat (first | refine z0c ?_ _ | refine z0e ?_ | refine z0b ?_ _)); exact z2G.out) hb); replace z5g := z0a.mk (z0O (g := y7e) (o := .cells #[.int .u8 ((z0g l1_0 x23_1).f0), .int .i32 ((z0g l1_0 x23_1).f1), .int .u32 ((z0g l1_0 x23_1).f2), .int .u32 ((z0g l1_0 x23_1).f3), .slice y1f ((z0g l1_0 x23_1).f4).length c141_4] 58 (0, 0)) (by (with_reducible repeat (first | refine z0c ?_ _ | refine z0e ?_ | refine z0b ?_ _)); refine z0N (cs := #[.int .u8 ((z0g l1_0 x23_1).f0), .int .i32 ((z0g l1_0 x23_1).f1), .int .u32 ((z0g l1_0 x23_1).f2), .int .u32 ((z0g l1_0 x23_1).f3), .slice none 0 0]) ?_ 4 _ rfl; (with_reducible repeat (first | refine z0c ?_ _ | refine z0e ?_ | refine z0b ?_ _)); refine z0N (cs := #[.int .u8 ((z0g l1_0 x23_1).f0), .int .i32 ((z0g l1_0 x23_1).f1), .int .u32 ((z0g l1_0 x23_1).f2), .int .u32 0, .slice none 0 0]) ?_ 3 _ rfl; (with_reducible repeat (first | refine z0c ?_ _ | refine z0e ?_ | refine z0b ?_ _)); refine z0N (cs := #[.int .u8 ((z0g l1_0 x23_1).f0), .int .i32 ((z0g l1_0 x23_1).f1), .int .u32 0, .int .u32 0, .slice none 0 0]) ?_ 2 _ rfl; (with_reducible repeat (first | refine z0c ?_ _ | refine z0e ?_ | refine z0b ?_ _)); refine z0N (cs := #[.int .u8 ((z0g l1_0 x23_1).f0), .int .i32 0, .int .u32 0, .int .u32 0, .slice none 0 0]) ?_ 1 _ rfl; (with_reducible repeat (first | refine z0c ?_ _ | refine z0e ?_ | refine z0b ?_ _)); refine z0N (cs := #[.int .u8 0, .int .i32 0, .int .u32 0, .int .u32 0, .slice none 0 0]) ?_ 0 _ rfl; (with_reducible repeat (first | refine z0c ?_ _ | refine z0e ?_ | refine z0b ?_ _)); exact z5g.out) hb); replace HB := zB HB hb; (try clear hb)) | ((with_reducible refine z0o (N := 8) rfl ?_); refine zo (cs := #[.int .i32 0, .int .u32 0, .int .u32 0]) (t := 145) ?_; intro gb147 hg w40 hbox hb; have x8Z := z0a.mk hbox; have GW147 := zG HB hg; have GE147 := zG HB hg; have z6o := zN z2e hg; have y1Z := zM z2e hg; have z6p := zN z2G hg; have y2a := zM z2G hg; have y2b := zN z5g hg; have y2c := zM z5g hg; replace z2e := zK z2e hb; replace z2G := zK z2G hb; replace z5g := zK z5g hb; replace HB := zB HB hb; clear hb hbox hg; have hnb41 := y1Z.out; have hnc41 := z6o.out; have hnb42 := y2a.out; have hnc42 := z6p.out; have hnb43 := y2c.out; have hnc43 := y2b.out; obtain ⟨x3r, x3s, x9a, x3t, x3u, x9b⟩ := zc3 w40 x8Z.out))
     go_ret
     exact ⟨zr, zb⟩
    rw [if_pos c20] at H
    have c20b0 : (t146 == 0) = true := beq_iff_eq.mpr c20
    have c20b1 : (t146 != 0) = false := bne_eq_false_iff_eq.mpr c20
    clear c20
    have H' := z0a.mk H
    clear H
    have p141 : 0 ≤ (x23_1 : Int) := za
    have q141 : x23_1 < (l1_0.length : Int) := za
    obtain ⟨ad141, y1f, c141_4, e141, z4C, z4D, z4E, z4F, z4G, z4H, z4I⟩ := z3y y0v.out x23_1 p141 q141
    cases e141
    replace z4C := zx HB z4C
    replace z4D := zx HB z4D
    replace z4E := zx HB z4E
    replace z4F := zx HB z4F
    replace z4G := zx HB z4G
    have y5C := z0a.mk z4I
    have y5D := z0a.mk z4H
    clear z4I z4H
    replace p141 := eq_true p141
    replace q141 := eq_true q141
    go_wp2_with (first | ((with_reducible refine z0o (N := 7) rfl ?_); refine zo (cs := #[.int .u8 0, .int .i32 0, .int .u32 0, .int .u32 0, .slice none 0 0]) (t := 58) ?_; intro y7e hg w21 hbox hb; have z5g := z0a.mk hbox; have x6X := zG HB hg; have x6Y := zG HB hg; have z1F := zN z2e hg; have z4J := zM z2e hg; have z1G := zN z2G hg; have z4K := zM z2G hg; replace z2e := zK z2e hb; replace z2G := zK z2G hb; replace HB := zB HB hb; clear hb hbox hg; have hnb22 := z4J.out; have hnc22 := z1F.out; have hnb23 := z4K.out; have hnc23 := z1G.out; obtain ⟨x3v, x3w, x3x, x9c, x9d, x3y, x3z, x3A, x9e, x9f⟩ := zc5 w21 z5g.out; have hnb25 := z4A.out; have hnc25 := z4B.out; obtain ⟨y5E, y5F, y5G, y5H⟩ := zc2 w21 z2e.out) | ((with_reducible refine z0m (f := 174) rfl ?_); refine z1a (some 35) rfl rfl Tryz.func174 (by kernel_rfl) rfl #[.agg #[.slice z0U l0_0.length c0_0, .slice z0X l0_1.length c0_1], .int .i32 ((z0g l1_0 x23_1).f1)] rfl zq ?_; (with_reducible refine (z3j.calls _ _ l0_0 _ _ l0_1 ((z0g l1_0 x23_1).f1) t143 t144 t145 t146 _ ?z0M z1g.out ?z0Q z1j.out A19.out).mono ?_); (case z0M => exact Kd.z0t z2g.out zb); (case z0Q => exact Kd.z0t z2x.out zb); rintro e w27 ⟨rfl, hb⟩; refine ⟨_, rfl, ?_⟩; replace z2e := z0a.mk (z0O (g := y8p) (o := .cells #[.slice z0U l0_0.length c0_0, .slice z0X l0_1.length c0_1] 25 (0, 0)) (by (with_reducible repeat (first | refine z0c ?_ _ | refine z0e ?_ | refine z0b ?_ _)); refine z0n ?_ z1F.out _; (with_reducible repeat (first | refine z0c ?_ _ | refine z0e ?_ | refine z0b ?_ _)); refine z0n ?_ z1F.out _; (with_reducible repeat (first | refine z0c ?_ _ | refine z0e ?_ | refine z0b ?_ _)); refine z0n ?_ z1F.out _; (with_reducible repeat (first | refine z0c ?_ _ | refine z0e ?_ | refine z0b ?_ _)); refine z0n ?_ z1F.out _; (with_reducible repeat (first | refine z0c ?_ _ | refine z0e ?_ | refine z0b ?_ _)); refine z0n ?_ z1F.out _; (with_reducible repeat (first | refine z0c ?_ _ | refine z0e ?_ | refine z0b ?_ _)); exact z2e.out) hb); replace z2G := z0a.mk (z0O (g := y8q) (o := .cells #[.slice (some ad141) l1_0.length c1_0] 49 (0, 0)) (by (with_reducible repeat (first | refine z0c ?_ _ | refine z0e ?_ | refine z0b ?_ _)); refine z0n ?_ z1G.out _; (with_reducible repeat (first | refine z0c ?_ _ | refine z0e ?_ | refine z0b ?_ _)); refine z0n ?_ z1G.out _; (with_reducible repeat (first | refine z0c ?_ _ | refine z0e ?_ | refine z0b ?_ _)); refine z0n ?_ z1G.out _; (with_reducible repeat (first | refine z0c ?_ _ | refine z0e ?_ | refine z0b ?_ _)); refine z0n ?_ z1G.out _; (with_reducible repeat (first | refine z0c ?_ _ | refine z0e ?_ | refine z0b ?_ _)); refine z0n ?_ z1G.out _; (with_reducible repeat (first | refine z0c ?_ _ | refine z0e ?_ | refine z0b ?_ _)); exact z2G.out) hb); replace z5g := z0a.mk (z0O (g := y7e) (o := .cells #[.int .u8 ((z0g l1_0 x23_1).f0), .int .i32 ((z0g l1_0 x23_1).f1), .int .u32 ((z0g l1_0 x23_1).f2), .int .u32 ((z0g l1_0 x23_1).f3), .slice y1f ((z0g l1_0 x23_1).f4).length c141_4] 58 (0, 0)) (by (with_reducible repeat (first | refine z0c ?_ _ | refine z0e ?_ | refine z0b ?_ _)); refine z0N (cs := #[.int .u8 ((z0g l1_0 x23_1).f0), .int .i32 ((z0g l1_0 x23_1).f1), .int .u32 ((z0g l1_0 x23_1).f2), .int .u32 ((z0g l1_0 x23_1).f3), .slice none 0 0]) ?_ 4 _ rfl; (with_reducible repeat (first | refine z0c ?_ _ | refine z0e ?_ | refine z0b ?_ _)); refine z0N (cs := #[.int .u8 ((z0g l1_0 x23_1).f0), .int .i32 ((z0g l1_0 x23_1).f1), .int .u32 ((z0g l1_0 x23_1).f2), .int .u32 0, .slice none 0 0]) ?_ 3 _ rfl; (with_reducible repeat (first | refine z0c ?_ _ | refine z0e ?_ | refine z0b ?_ _)); refine z0N (cs := #[.int .u8 ((z0g l1_0 x23_1).f0), .int .i32 ((z0g l1_0 x23_1).f1), .int .u32 0, .int .u32 0, .slice none 0 0]) ?_ 2 _ rfl; (with_reducible repeat (first | refine z0c ?_ _ | refine z0e ?_ | refine z0b ?_ _)); refine z0N (cs := #[.int .u8 ((z0g l1_0 x23_1).f0), .int .i32 0, .int .u32 0, .int .u32 0, .slice none 0 0]) ?_ 1 _ rfl; (with_reducible repeat (first | refine z0c ?_ _ | refine z0e ?_ | refine z0b ?_ _)); refine z0N (cs := #[.int .u8 0, .int .i32 0, .int .u32 0, .int .u32 0, .slice none 0 0]) ?_ 0 _ rfl; (with_reducible repeat (first | refine z0c ?_ _ | refine z0e ?_ | refine z0b ?_ _)); exact z5g.out) hb); replace HB := zB HB hb; (try clear hb)) | ((with_reducible refine z0o (N := 8) rfl ?_); refine zo (cs := #[.int .i32 0, .int .u32 0, .int .u32 0]) (t := 145) ?_; intro gb147 hg w28 hbox hb; have x8Z := z0a.mk hbox; have GW147 := zG HB hg; have GE147 := zG HB hg; have z6o := zN z2e hg; have y1Z := zM z2e hg; have z6p := zN z2G hg; have y2a := zM z2G hg; have y2b := zN z5g hg; have y2c := zM z5g hg; replace z2e := zK z2e hb; replace z2G := zK z2G hb; replace z5g := zK z5g hb; replace HB := zB HB hb; clear hb hbox hg; have hnb29 := y1Z.out; have hnc29 := z6o.out; have hnb30 := y2a.out; have hnc30 := z6p.out; have hnb31 := y2c.out; have hnc31 := y2b.out; obtain ⟨x3B, x3C, x9g, x3D, x3E, x9h⟩ := zc3 w28 x8Z.out))
    go_roundg k1
    case measure => have := HK1.out; omega
    case rel => exact ⟨(wrap64 (x23_1 + 1)), ze, H', ⟨by have := HK1.out; omega⟩, ⟨by (with_reducible repeat (first | refine z0c ?_ _ | refine z0e ?_ | refine z0b ?_ _)); refine z0n ?_ z6o.out _; (with_reducible repeat (first | refine z0c ?_ _ | refine z0e ?_ | refine z0b ?_ _)); refine z0n ?_ z6o.out _; (with_reducible repeat (first | refine z0c ?_ _ | refine z0e ?_ | refine z0b ?_ _)); refine z0n ?_ z6o.out _; (with_reducible repeat (first | refine z0c ?_ _ | refine z0e ?_ | refine z0b ?_ _)); exact z2e.out⟩, ⟨by (with_reducible repeat (first | refine z0c ?_ _ | refine z0e ?_ | refine z0b ?_ _)); refine z0n ?_ z6p.out _; (with_reducible repeat (first | refine z0c ?_ _ | refine z0e ?_ | refine z0b ?_ _)); refine z0n ?_ z6p.out _; (with_reducible repeat (first | refine z0c ?_ _ | refine z0e ?_ | refine z0b ?_ _)); refine z0n ?_ z6p.out _; (with_reducible repeat (first | refine z0c ?_ _ | refine z0e ?_ | refine z0b ?_ _)); exact z2G.out⟩, ⟨zb⟩⟩
   rw [if_neg c18] at H
   have c18b0 : (((z0g l1_0 x23_1).f0) == 2) = false := beq_eq_false_iff_ne.mpr c18
   have c18b1 : (((z0g l1_0 x23_1).f0) != 2) = true := bne_iff_ne.mpr c18
   by_cases c45 : ((z0g l1_0 x23_1).f0) = 3
   rotate_left
   ·rw [if_neg c45] at H
    have c45b0 : (((z0g l1_0 x23_1).f0) == 3) = false := beq_eq_false_iff_ne.mpr c45
    have c45b1 : (((z0g l1_0 x23_1).f0) != 3) = true := bne_iff_ne.mpr c45
    have H' := z0a.mk H
    clear H
    have p141 : 0 ≤ (x23_1 : Int) := za
    have q141 : x23_1 < (l1_0.length : Int) := za
    obtain ⟨ad141, y1f, c141_4, e141, z4C, z4D, z4E, z4F, z4G, z4H, z4I⟩ := z3y y0v.out x23_1 p141 q141
    cases e141
    replace z4C := zx HB z4C
    replace z4D := zx HB z4D
    replace z4E := zx HB z4E
    replace z4F := zx HB z4F
    replace z4G := zx HB z4G
    have y5C := z0a.mk z4I
    have y5D := z0a.mk z4H
    clear z4I z4H
    replace p141 := eq_true p141
    replace q141 := eq_true q141
    go_wp2_with (first | ((with_reducible refine z0o (N := 7) rfl ?_); refine zo (cs := #[.int .u8 0, .int .i32 0, .int .u32 0, .int .u32 0, .slice none 0 0]) (t := 58) ?_; intro y7e hg w62 hbox hb; have z5g := z0a.mk hbox; have x6X := zG HB hg; have x6Y := zG HB hg; have z1F := zN z2e hg; have z4J := zM z2e hg; have z1G := zN z2G hg; have z4K := zM z2G hg; replace z2e := zK z2e hb; replace z2G := zK z2G hb; replace HB := zB HB hb; clear hb hbox hg; have hnb63 := z4J.out; have hnc63 := z1F.out; have hnb64 := z4K.out; have hnc64 := z1G.out; obtain ⟨x9i, x9j, x9k, x9l, x9m, x9n, x9o, x9p, x9q, x9r⟩ := zc5 w62 z5g.out))
    go_roundg k1
    case measure => have := HK1.out; omega
    case rel => exact ⟨(wrap64 (x23_1 + 1)), ze, H', ⟨by have := HK1.out; omega⟩, ⟨by (with_reducible repeat (first | refine z0c ?_ _ | refine z0e ?_ | refine z0b ?_ _)); refine z0n ?_ z1F.out _; (with_reducible repeat (first | refine z0c ?_ _ | refine z0e ?_ | refine z0b ?_ _)); refine z0n ?_ z1F.out _; (with_reducible repeat (first | refine z0c ?_ _ | refine z0e ?_ | refine z0b ?_ _)); refine z0n ?_ z1F.out _; (with_reducible repeat (first | refine z0c ?_ _ | refine z0e ?_ | refine z0b ?_ _)); refine z0n ?_ z1F.out _; (with_reducible repeat (first | refine z0c ?_ _ | refine z0e ?_ | refine z0b ?_ _)); refine z0n ?_ z1F.out _; (with_reducible repeat (first | refine z0c ?_ _ | refine z0e ?_ | refine z0b ?_ _)); exact z2e.out⟩, ⟨by (with_reducible repeat (first | refine z0c ?_ _ | refine z0e ?_ | refine z0b ?_ _)); refine z0n ?_ z1G.out _; (with_reducible repeat (first | refine z0c ?_ _ | refine z0e ?_ | refine z0b ?_ _)); refine z0n ?_ z1G.out _; (with_reducible repeat (first | refine z0c ?_ _ | refine z0e ?_ | refine z0b ?_ _)); refine z0n ?_ z1G.out _; (with_reducible repeat (first | refine z0c ?_ _ | refine z0e ?_ | refine z0b ?_ _)); refine z0n ?_ z1G.out _; (with_reducible repeat (first | refine z0c ?_ _ | refine z0e ?_ | refine z0b ?_ _)); refine z0n ?_ z1G.out _; (with_reducible repeat (first | refine z0c ?_ _ | refine z0e ?_ | refine z0b ?_ _)); exact z2G.out⟩, ⟨zb⟩⟩
   rw [if_pos c45] at H
   have c45b0 : (((z0g l1_0 x23_1).f0) == 3) = true := beq_iff_eq.mpr c45
   have c45b1 : (((z0g l1_0 x23_1).f0) != 3) = false := bne_eq_false_iff_eq.mpr c45
   clear c45
   replace H := Option.bind_eq_some_iff.mp H
   obtain ⟨⟨t148, t149⟩, A460, H⟩ := H
   replace H : (if t149 = 0 then (z0P.l0 k1 l1_0 (l1_0.length : Int) (wrap64 (x23_1 + 1)) l0_0 l0_1) else (some 40)) = some r := H
   have A46 := z0a.mk A460
   clear A460
   by_cases c47 : t149 = 0
   rotate_left
   ·rw [if_neg c47] at H
    have c47b0 : (t149 == 0) = false := beq_eq_false_iff_ne.mpr c47
    have c47b1 : (t149 != 0) = true := bne_iff_ne.mpr c47
    obtain rfl := Option.some.inj H
    have p141 : 0 ≤ (x23_1 : Int) := za
    have q141 : x23_1 < (l1_0.length : Int) := za
    obtain ⟨ad141, y1f, c141_4, e141, z4C, z4D, z4E, z4F, z4G, z4H, z4I⟩ := z3y y0v.out x23_1 p141 q141
    cases e141
    replace z4C := zx HB z4C
    replace z4D := zx HB z4D
    replace z4E := zx HB z4E
    replace z4F := zx HB z4F
    replace z4G := zx HB z4G
    have y5C := z0a.mk z4I
    have y5D := z0a.mk z4H
    clear z4I z4H
    replace p141 := eq_true p141
    replace q141 := eq_true q141
    go_wp2_with (first | ((with_reducible refine z0o (N := 7) rfl ?_); refine zo (cs := #[.int .u8 0, .int .i32 0, .int .u32 0, .int .u32 0, .slice none 0 0]) (t := 58) ?_; intro y7e hg w55 hbox hb; have z5g := z0a.mk hbox; have x6X := zG HB hg; have x6Y := zG HB hg; have z1F := zN z2e hg; have z4J := zM z2e hg; have z1G := zN z2G hg; have z4K := zM z2G hg; replace z2e := zK z2e hb; replace z2G := zK z2G hb; replace HB := zB HB hb; clear hb hbox hg; have hnb56 := z4J.out; have hnc56 := z1F.out; have hnb57 := z4K.out; have hnc57 := z1G.out; obtain ⟨y5x, y5y, y8n, x3c, x3d, y5z, y5A, y8o, x3e, x3f⟩ := zc5 w55 z5g.out; have hnb59 := z4A.out; have hnc59 := z4B.out; obtain ⟨x9s, x9t, x9u, x9v⟩ := zc2 w55 z2e.out) | ((with_reducible refine z0m (f := 175) rfl ?_); refine z1a (some 48) rfl rfl Tryz.func175 (by kernel_rfl) rfl #[.agg #[.slice z0U l0_0.length c0_0, .slice z0X l0_1.length c0_1], .int .u32 ((z0g l1_0 x23_1).f2), .int .u32 ((z0g l1_0 x23_1).f3)] rfl zq ?_; (with_reducible refine (z2J.calls _ _ l0_0 _ _ l0_1 ((z0g l1_0 x23_1).f2) ((z0g l1_0 x23_1).f3) t148 t149 _ ?z0M z1g.out ?z0Q z1j.out A46.out).mono ?_); (case z0M => exact Kd.z0t z2g.out zb); (case z0Q => exact Kd.z0t z2x.out zb); rintro e w61 ⟨rfl, hb⟩; refine ⟨_, rfl, ?_⟩; replace z2e := z0a.mk (z0O (g := y8p) (o := .cells #[.slice z0U l0_0.length c0_0, .slice z0X l0_1.length c0_1] 25 (0, 0)) (by (with_reducible repeat (first | refine z0c ?_ _ | refine z0e ?_ | refine z0b ?_ _)); refine z0n ?_ z1F.out _; (with_reducible repeat (first | refine z0c ?_ _ | refine z0e ?_ | refine z0b ?_ _)); refine z0n ?_ z1F.out _; (with_reducible repeat (first | refine z0c ?_ _ | refine z0e ?_ | refine z0b ?_ _)); refine z0n ?_ z1F.out _; (with_reducible repeat (first | refine z0c ?_ _ | refine z0e ?_ | refine z0b ?_ _)); refine z0n ?_ z1F.out _; (with_reducible repeat (first | refine z0c ?_ _ | refine z0e ?_ | refine z0b ?_ _)); refine z0n ?_ z1F.out _; (with_reducible repeat (first | refine z0c ?_ _ | refine z0e ?_ | refine z0b ?_ _)); exact z2e.out) hb); replace z2G := z0a.mk (z0O (g := y8q) (o := .cells #[.slice (some ad141) l1_0.length c1_0] 49 (0, 0)) (by (with_reducible repeat (first | refine z0c ?_ _ | refine z0e ?_ | refine z0b ?_ _)); refine z0n ?_ z1G.out _; (with_reducible repeat (first | refine z0c ?_ _ | refine z0e ?_ | refine z0b ?_ _)); refine z0n ?_ z1G.out _; (with_reducible repeat (first | refine z0c ?_ _ | refine z0e ?_ | refine z0b ?_ _)); refine z0n ?_ z1G.out _; (with_reducible repeat (first | refine z0c ?_ _ | refine z0e ?_ | refine z0b ?_ _)); refine z0n ?_ z1G.out _; (with_reducible repeat (first | refine z0c ?_ _ | refine z0e ?_ | refine z0b ?_ _)); refine z0n ?_ z1G.out _; (with_reducible repeat (first | refine z0c ?_ _ | refine z0e ?_ | refine z0b ?_ _)); exact z2G.out) hb); replace z5g := z0a.mk (z0O (g := y7e) (o := .cells #[.int .u8 ((z0g l1_0 x23_1).f0), .int .i32 ((z0g l1_0 x23_1).f1), .int .u32 ((z0g l1_0 x23_1).f2), .int .u32 ((z0g l1_0 x23_1).f3), .slice y1f ((z0g l1_0 x23_1).f4).length c141_4] 58 (0, 0)) (by (with_reducible repeat (first | refine z0c ?_ _ | refine z0e ?_ | refine z0b ?_ _)); refine z0N (cs := #[.int .u8 ((z0g l1_0 x23_1).f0), .int .i32 ((z0g l1_0 x23_1).f1), .int .u32 ((z0g l1_0 x23_1).f2), .int .u32 ((z0g l1_0 x23_1).f3), .slice none 0 0]) ?_ 4 _ rfl; (with_reducible repeat (first | refine z0c ?_ _ | refine z0e ?_ | refine z0b ?_ _)); refine z0N (cs := #[.int .u8 ((z0g l1_0 x23_1).f0), .int .i32 ((z0g l1_0 x23_1).f1), .int .u32 ((z0g l1_0 x23_1).f2), .int .u32 0, .slice none 0 0]) ?_ 3 _ rfl; (with_reducible repeat (first | refine z0c ?_ _ | refine z0e ?_ | refine z0b ?_ _)); refine z0N (cs := #[.int .u8 ((z0g l1_0 x23_1).f0), .int .i32 ((z0g l1_0 x23_1).f1), .int .u32 0, .int .u32 0, .slice none 0 0]) ?_ 2 _ rfl; (with_reducible repeat (first | refine z0c ?_ _ | refine z0e ?_ | refine z0b ?_ _)); refine z0N (cs := #[.int .u8 ((z0g l1_0 x23_1).f0), .int .i32 0, .int .u32 0, .int .u32 0, .slice none 0 0]) ?_ 1 _ rfl; (with_reducible repeat (first | refine z0c ?_ _ | refine z0e ?_ | refine z0b ?_ _)); refine z0N (cs := #[.int .u8 0, .int .i32 0, .int .u32 0, .int .u32 0, .slice none 0 0]) ?_ 0 _ rfl; (with_reducible repeat (first | refine z0c ?_ _ | refine z0e ?_ | refine z0b ?_ _)); exact z5g.out) hb); replace HB := zB HB hb; (try clear hb)))
    go_ret
    exact ⟨zr, zb⟩
   rw [if_pos c47] at H
   have c47b0 : (t149 == 0) = true := beq_iff_eq.mpr c47
   have c47b1 : (t149 != 0) = false := bne_eq_false_iff_eq.mpr c47
   clear c47
   have H' := z0a.mk H
   clear H
   have p141 : 0 ≤ (x23_1 : Int) := za
   have q141 : x23_1 < (l1_0.length : Int) := za
   obtain ⟨ad141, y1f, c141_4, e141, z4C, z4D, z4E, z4F, z4G, z4H, z4I⟩ := z3y y0v.out x23_1 p141 q141
   cases e141
   replace z4C := zx HB z4C
   replace z4D := zx HB z4D
   replace z4E := zx HB z4E
   replace z4F := zx HB z4F
   replace z4G := zx HB z4G
   have y5C := z0a.mk z4I
   have y5D := z0a.mk z4H
   clear z4I z4H
   replace p141 := eq_true p141
   replace q141 := eq_true q141
   go_wp2_with (first | ((with_reducible refine z0o (N := 7) rfl ?_); refine zo (cs := #[.int .u8 0, .int .i32 0, .int .u32 0, .int .u32 0, .slice none 0 0]) (t := 58) ?_; intro y7e hg w48 hbox hb; have z5g := z0a.mk hbox; have x6X := zG HB hg; have x6Y := zG HB hg; have z1F := zN z2e hg; have z4J := zM z2e hg; have z1G := zN z2G hg; have z4K := zM z2G hg; replace z2e := zK z2e hb; replace z2G := zK z2G hb; replace HB := zB HB hb; clear hb hbox hg; have hnb49 := z4J.out; have hnc49 := z1F.out; have hnb50 := z4K.out; have hnc50 := z1G.out; obtain ⟨y8h, y8i, y8j, x8T, x8U, y8k, y8l, y8m, x8V, x8W⟩ := zc5 w48 z5g.out; have hnb52 := z4A.out; have hnc52 := z4B.out; obtain ⟨y5t, y5u, y5v, y5w⟩ := zc2 w48 z2e.out) | ((with_reducible refine z0m (f := 175) rfl ?_); refine z1a (some 48) rfl rfl Tryz.func175 (by kernel_rfl) rfl #[.agg #[.slice z0U l0_0.length c0_0, .slice z0X l0_1.length c0_1], .int .u32 ((z0g l1_0 x23_1).f2), .int .u32 ((z0g l1_0 x23_1).f3)] rfl zq ?_; (with_reducible refine (z2J.calls _ _ l0_0 _ _ l0_1 ((z0g l1_0 x23_1).f2) ((z0g l1_0 x23_1).f3) t148 t149 _ ?z0M z1g.out ?z0Q z1j.out A46.out).mono ?_); (case z0M => exact Kd.z0t z2g.out zb); (case z0Q => exact Kd.z0t z2x.out zb); rintro e w54 ⟨rfl, hb⟩; refine ⟨_, rfl, ?_⟩; replace z2e := z0a.mk (z0O (g := y8p) (o := .cells #[.slice z0U l0_0.length c0_0, .slice z0X l0_1.length c0_1] 25 (0, 0)) (by (with_reducible repeat (first | refine z0c ?_ _ | refine z0e ?_ | refine z0b ?_ _)); refine z0n ?_ z1F.out _; (with_reducible repeat (first | refine z0c ?_ _ | refine z0e ?_ | refine z0b ?_ _)); refine z0n ?_ z1F.out _; (with_reducible repeat (first | refine z0c ?_ _ | refine z0e ?_ | refine z0b ?_ _)); refine z0n ?_ z1F.out _; (with_reducible repeat (first | refine z0c ?_ _ | refine z0e ?_ | refine z0b ?_ _)); refine z0n ?_ z1F.out _; (with_reducible repeat (first | refine z0c ?_ _ | refine z0e ?_ | refine z0b ?_ _)); refine z0n ?_ z1F.out _; (with_reducible repeat (first | refine z0c ?_ _ | refine z0e ?_ | refine z0b ?_ _)); exact z2e.out) hb); replace z2G := z0a.mk (z0O (g := y8q) (o := .cells #[.slice (some ad141) l1_0.length c1_0] 49 (0, 0)) (by (with_reducible repeat (first | refine z0c ?_ _ | refine z0e ?_ | refine z0b ?_ _)); refine z0n ?_ z1G.out _; (with_reducible repeat (first | refine z0c ?_ _ | refine z0e ?_ | refine z0b ?_ _)); refine z0n ?_ z1G.out _; (with_reducible repeat (first | refine z0c ?_ _ | refine z0e ?_ | refine z0b ?_ _)); refine z0n ?_ z1G.out _; (with_reducible repeat (first | refine z0c ?_ _ | refine z0e ?_ | refine z0b ?_ _)); refine z0n ?_ z1G.out _; (with_reducible repeat (first | refine z0c ?_ _ | refine z0e ?_ | refine z0b ?_ _)); refine z0n ?_ z1G.out _; (with_reducible repeat (first | refine z0c ?_ _ | refine z0e ?_ | refine z0b ?_ _)); exact z2G.out) hb); replace z5g := z0a.mk (z0O (g := y7e) (o := .cells #[.int .u8 ((z0g l1_0 x23_1).f0), .int .i32 ((z0g l1_0 x23_1).f1), .int .u32 ((z0g l1_0 x23_1).f2), .int .u32 ((z0g l1_0 x23_1).f3), .slice y1f ((z0g l1_0 x23_1).f4).length c141_4] 58 (0, 0)) (by (with_reducible repeat (first | refine z0c ?_ _ | refine z0e ?_ | refine z0b ?_ _)); refine z0N (cs := #[.int .u8 ((z0g l1_0 x23_1).f0), .int .i32 ((z0g l1_0 x23_1).f1), .int .u32 ((z0g l1_0 x23_1).f2), .int .u32 ((z0g l1_0 x23_1).f3), .slice none 0 0]) ?_ 4 _ rfl; (with_reducible repeat (first | refine z0c ?_ _ | refine z0e ?_ | refine z0b ?_ _)); refine z0N (cs := #[.int .u8 ((z0g l1_0 x23_1).f0), .int .i32 ((z0g l1_0 x23_1).f1), .int .u32 ((z0g l1_0 x23_1).f2), .int .u32 0, .slice none 0 0]) ?_ 3 _ rfl; (with_reducible repeat (first | refine z0c ?_ _ | refine z0e ?_ | refine z0b ?_ _)); refine z0N (cs := #[.int .u8 ((z0g l1_0 x23_1).f0), .int .i32 ((z0g l1_0 x23_1).f1), .int .u32 0, .int .u32 0, .slice none 0 0]) ?_ 2 _ rfl; (with_reducible repeat (first | refine z0c ?_ _ | refine z0e ?_ | refine z0b ?_ _)); refine z0N (cs := #[.int .u8 ((z0g l1_0 x23_1).f0), .int .i32 0, .int .u32 0, .int .u32 0, .slice none 0 0]) ?_ 1 _ rfl; (with_reducible repeat (first | refine z0c ?_ _ | refine z0e ?_ | refine z0b ?_ _)); refine z0N (cs := #[.int .u8 0, .int .i32 0, .int .u32 0, .int .u32 0, .slice none 0 0]) ?_ 0 _ rfl; (with_reducible repeat (first | refine z0c ?_ _ | refine z0e ?_ | refine z0b ?_ _)); exact z5g.out) hb); replace HB := zB HB hb; (try clear hb)))
   go_roundg k1
   case measure => have := HK1.out; omega
   case rel => exact ⟨(wrap64 (x23_1 + 1)), ze, H', ⟨by have := HK1.out; omega⟩, ⟨zk⟩, ⟨zk⟩, ⟨zb⟩⟩
mutual
def z0z.j0 : Nat → Bool → List ByteArray → List (z1J) → ByteArray → List (S54) → List (S56) → List (S58) → List (S58) → Int → Bool → Option (Int)
 | 0, _, _, _, _, _, _, _, _, _, _ => none
 | k + 1, x50, z6d, z6e, y0w, z6G, z8q, z9B, z9C, y0x, y0y => if x50 = true then (some 70) else (z0z.l0 k z6G (z6G.length : Int) 0 z6d z6e y0w z6G z8q z9B z9C y0x y0y)
def z0z.l0 : Nat → List (S54) → Int → Int → List ByteArray → List (z1J) → ByteArray → List (S54) → List (S56) → List (S58) → List (S58) → Int → Bool → Option (Int)
 | 0, _, _, _, _, _, _, _, _, _, _, _, _ => none
 | k + 1, x52, x53, x54, z6d, z6e, y0w, z6G, z8q, z9B, z9C, y0x, y0y => if x54 < x53 then (if 0 ≤ x54 then (if x54 < (x52.length : Int) then ((z2B.f z6d z6e ((z1L x52 x54).f0) ((z1L x52 x54).f1) ((z1L x52 x54).f2)).bind fun t156 => (if t156 = true then (z0z.l0 k x52 x53 (wrap64 (x54 + 1)) z6d z6e y0w z6G z8q z9B z9C y0x y0y) else (some 70))) else (none)) else (none)) else (z0z.l1 k z8q (z8q.length : Int) 0 z6d z6e y0w z6G z8q z9B z9C y0x y0y)
def z0z.l1 : Nat → List (S56) → Int → Int → List ByteArray → List (z1J) → ByteArray → List (S54) → List (S56) → List (S58) → List (S58) → Int → Bool → Option (Int)
 | 0, _, _, _, _, _, _, _, _, _, _, _, _ => none
 | k + 1, x69, x70, x71, z6d, z6e, y0w, z6G, z8q, z9B, z9C, y0x, y0y => if x71 < x70 then (if 0 ≤ x71 then (if x71 < (x69.length : Int) then ((z5w.f z6d z6e ((z1y x69 x71).f0) ((z1y x69 x71).f1) ((z1y x69 x71).f2) ((z1y x69 x71).f3) (z6G.length : Int)).bind fun t159 => (if t159 = true then (z0z.l1 k x69 x70 (wrap64 (x71 + 1)) z6d z6e y0w z6G z8q z9B z9C y0x y0y) else (some 70))) else (none)) else (none)) else ((z0P.f k z6d z6e z9B).bind fun t160 => (if t160 = 0 then ((z0P.f k z6d z6e z9C).bind fun t161 => (if t161 = 0 then (some 0) else (some 70))) else (some 70)))
end
def z0z.f (k : Nat) (l0_0 : List ByteArray) (l0_1 : List (z1J)) (a1_0 : ByteArray) (l1_1 : List (S54)) (l1_2 : List (S56)) (l1_3 : List (S58)) (l1_4 : List (S58)) (a1_5 : Int) (a1_6 : Bool) : Option (Int) := (z0T.f l0_0 l0_1).bind fun t152 => (if t152 = 0 then ((z2S.f a1_0).bind fun t153 => (if t153 = true then (if a1_5 < 1 then (z0z.j0 k true l0_0 l0_1 a1_0 l1_1 l1_2 l1_3 l1_4 a1_5 a1_6) else (if a1_5 > 3 then (z0z.j0 k true l0_0 l0_1 a1_0 l1_1 l1_2 l1_3 l1_4 a1_5 a1_6) else (if (l1_1.length : Int) > 8 then (z0z.j0 k true l0_0 l0_1 a1_0 l1_1 l1_2 l1_3 l1_4 a1_5 a1_6) else (if (l1_2.length : Int) > 8 then (z0z.j0 k true l0_0 l0_1 a1_0 l1_1 l1_2 l1_3 l1_4 a1_5 a1_6) else (z0z.j0 k ((wrap64 ((l1_1.length : Int) + (l1_2.length : Int))) == 0) l0_0 l0_1 a1_0 l1_1 l1_2 l1_3 l1_4 a1_5 a1_6))))) else (z0z.j0 k true l0_0 l0_1 a1_0 l1_1 l1_2 l1_3 l1_4 a1_5 a1_6))) else (some t152))
theorem z0z.z1t : ∀ k, (∀ y0 y1 y2 y3 y4 y5 y6 y7 y8 y9, LeO (z0z.j0 k y0 y1 y2 y3 y4 y5 y6 y7 y8 y9) (z0z.j0 (k + 1) y0 y1 y2 y3 y4 y5 y6 y7 y8 y9)) ∧ (∀ y0 y1 y2 y3 y4 y5 y6 y7 y8 y9 y10 y11, LeO (z0z.l0 k y0 y1 y2 y3 y4 y5 y6 y7 y8 y9 y10 y11) (z0z.l0 (k + 1) y0 y1 y2 y3 y4 y5 y6 y7 y8 y9 y10 y11)) ∧ (∀ y0 y1 y2 y3 y4 y5 y6 y7 y8 y9 y10 y11, LeO (z0z.l1 k y0 y1 y2 y3 y4 y5 y6 y7 y8 y9 y10 y11) (z0z.l1 (k + 1) y0 y1 y2 y3 y4 y5 y6 y7 y8 y9 y10 y11))
 | 0 => ⟨fun _ _ _ _ _ _ _ _ _ _ r h => by simp [z0z.j0] at h, fun _ _ _ _ _ _ _ _ _ _ _ _ r h => by simp [z0z.l0] at h, fun _ _ _ _ _ _ _ _ _ _ _ _ r h => by simp [z0z.l1] at h⟩
 | k + 1 => by
  obtain ⟨ih0, ih1, ih2⟩ := z0z.z1t k
  refine ⟨?_, ?_, ?_⟩
  ·intro y0 y1 y2 y3 y4 y5 y6 y7 y8 y9
   unfold z0z.j0
   repeat' first
   | (with_reducible exact ih0 _ _ _ _ _ _ _ _ _ _)
   | (with_reducible exact ih1 _ _ _ _ _ _ _ _ _ _ _ _)
   | (with_reducible exact ih2 _ _ _ _ _ _ _ _ _ _ _ _)
   | (with_reducible exact z0P.mono _ _ _ _)
   | (with_reducible exact LeO.refl _)
   | (with_reducible exact LeO.none _)
   | (with_reducible refine LeO.ite ?_ ?_)
   | (with_reducible refine LeO.bind ?_ (fun _ => ?_))
  ·intro y0 y1 y2 y3 y4 y5 y6 y7 y8 y9 y10 y11
   unfold z0z.l0
   repeat' first
   | (with_reducible exact ih0 _ _ _ _ _ _ _ _ _ _)
   | (with_reducible exact ih1 _ _ _ _ _ _ _ _ _ _ _ _)
   | (with_reducible exact ih2 _ _ _ _ _ _ _ _ _ _ _ _)
   | (with_reducible exact z0P.mono _ _ _ _)
   | (with_reducible exact LeO.refl _)
   | (with_reducible exact LeO.none _)
   | (with_reducible refine LeO.ite ?_ ?_)
   | (with_reducible refine LeO.bind ?_ (fun _ => ?_))
  ·intro y0 y1 y2 y3 y4 y5 y6 y7 y8 y9 y10 y11
   unfold z0z.l1
   repeat' first
   | (with_reducible exact ih0 _ _ _ _ _ _ _ _ _ _)
   | (with_reducible exact ih1 _ _ _ _ _ _ _ _ _ _ _ _)
   | (with_reducible exact ih2 _ _ _ _ _ _ _ _ _ _ _ _)
   | (with_reducible exact z0P.mono _ _ _ _)
   | (with_reducible exact LeO.refl _)
   | (with_reducible exact LeO.none _)
   | (with_reducible refine LeO.ite ?_ ?_)
   | (with_reducible refine LeO.bind ?_ (fun _ => ?_))
theorem z0z.mono : ∀ a0 a1 a2 a3 a4 a5 a6 a7 a8 k, LeO (z0z.f k a0 a1 a2 a3 a4 a5 a6 a7 a8) (z0z.f (k + 1) a0 a1 a2 a3 a4 a5 a6 a7 a8) := by
 intro a0 a1 a2 a3 a4 a5 a6 a7 a8 k
 obtain ⟨ih0, ih1, ih2⟩ := z0z.z1t k
 unfold z0z.f
 repeat' first
   | (with_reducible exact ih0 _ _ _ _ _ _ _ _ _ _)
   | (with_reducible exact ih1 _ _ _ _ _ _ _ _ _ _ _ _)
   | (with_reducible exact ih2 _ _ _ _ _ _ _ _ _ _ _ _)
   | (with_reducible exact z0P.mono _ _ _ _)
   | (with_reducible exact LeO.refl _)
   | (with_reducible exact LeO.none _)
   | (with_reducible refine LeO.ite ?_ ?_)
   | (with_reducible refine LeO.bind ?_ (fun _ => ?_))
set_option maxHeartbeats 8000000 in
set_option maxRecDepth 100000 in
theorem z0z.calls (k : Nat) (z0U : Option Addr) (c0_0 : Nat) (l0_0 : List ByteArray) (z0X : Option Addr) (c0_1 : Nat) (l0_1 : List (z1J)) (a1_0 : ByteArray) (y0m : Option Addr) (c1_1 : Nat) (l1_1 : List (S54)) (y0n : Option Addr) (c1_2 : Nat) (l1_2 : List (S56)) (z6H : Option Addr) (c1_3 : Nat) (l1_3 : List (S58)) (z8R : Option Addr) (c1_4 : Nat) (l1_4 : List (S58)) (a1_5 : Int) (a1_6 : Bool) (r : Int) (w : World) (hr0_0 : Kd.C Kd.string w z0U l0_0.length l0_0) (hc0_0 : l0_0.length ≤ c0_0) (hr0_1 : Kd.C z5a w z0X l0_1.length l0_1) (hc0_1 : l0_1.length ≤ c0_1) (hr1_1 : Kd.C k54 w y0m l1_1.length l1_1) (hc1_1 : l1_1.length ≤ c1_1) (hr1_2 : Kd.C k56 w y0n l1_2.length l1_2) (hc1_2 : l1_2.length ≤ c1_2) (hr1_3 : Kd.C k58 w z6H l1_3.length l1_3) (hc1_3 : l1_3.length ≤ c1_3) (hr1_4 : Kd.C k58 w z8R l1_4.length l1_4) (hc1_4 : l1_4.length ≤ c1_4) (h : z0z.f k l0_0 l0_1 a1_0 l1_1 l1_2 l1_3 l1_4 a1_5 a1_6 = some r) :
  Calls Tryz.prog 114 #[.agg #[.slice z0U l0_0.length c0_0, .slice z0X l0_1.length c0_1], .agg #[.string a1_0, .slice y0m l1_1.length c1_1, .slice y0n l1_2.length c1_2, .slice z6H l1_3.length c1_3, .slice z8R l1_4.length c1_4, .int .u8 a1_5, .bool a1_6]] w fun e w' => e = .returned (.int .i64 r) ∧ Below w.heap.size w w' := by
 have hu25 := Tryz.underlying25
 have hu51 := Tryz.underlying51
 have hu54 := Tryz.underlying54
 have hu56 := Tryz.underlying56
 have hu49 := Tryz.underlying49
 have z2g := z0a.mk hr0_0
 have z1g := z0a.mk hc0_0
 clear hr0_0 hc0_0
 have z2x := z0a.mk hr0_1
 have z1j := z0a.mk hc0_1
 clear hr0_1 hc0_1
 have y4k := z0a.mk hr1_1
 have x6Z := z0a.mk hc1_1
 clear hr1_1 hc1_1
 have x1d := z0a.mk hr1_2
 have x7a := z0a.mk hc1_2
 clear hr1_2 hc1_2
 have w2K := z0a.mk hr1_3
 have y5I := z0a.mk hc1_3
 clear hr1_3 hc1_3
 have w2L := z0a.mk hr1_4
 have y8r := z0a.mk hc1_4
 clear hr1_4 hc1_4
 have HB := z0a.mk (Below.refl w.heap.size w)
 have H : ((z0T.f l0_0 l0_1).bind fun t152 => (if t152 = 0 then ((z2S.f a1_0).bind fun t153 => (if t153 = true then (if a1_5 < 1 then (z0z.j0 k true l0_0 l0_1 a1_0 l1_1 l1_2 l1_3 l1_4 a1_5 a1_6) else (if a1_5 > 3 then (z0z.j0 k true l0_0 l0_1 a1_0 l1_1 l1_2 l1_3 l1_4 a1_5 a1_6) else (if (l1_1.length : Int) > 8 then (z0z.j0 k true l0_0 l0_1 a1_0 l1_1 l1_2 l1_3 l1_4 a1_5 a1_6) else (if (l1_2.length : Int) > 8 then (z0z.j0 k true l0_0 l0_1 a1_0 l1_1 l1_2 l1_3 l1_4 a1_5 a1_6) else (z0z.j0 k ((wrap64 ((l1_1.length : Int) + (l1_2.length : Int))) == 0) l0_0 l0_1 a1_0 l1_1 l1_2 l1_3 l1_4 a1_5 a1_6))))) else (z0z.j0 k true l0_0 l0_1 a1_0 l1_1 l1_2 l1_3 l1_4 a1_5 a1_6))) else (some t152))) = some r := h
 clear h
 replace H := Option.bind_eq_some_iff.mp H
 obtain ⟨t152, A30, H⟩ := H
 replace H : (if t152 = 0 then ((z2S.f a1_0).bind fun t153 => (if t153 = true then (if a1_5 < 1 then (z0z.j0 k true l0_0 l0_1 a1_0 l1_1 l1_2 l1_3 l1_4 a1_5 a1_6) else (if a1_5 > 3 then (z0z.j0 k true l0_0 l0_1 a1_0 l1_1 l1_2 l1_3 l1_4 a1_5 a1_6) else (if (l1_1.length : Int) > 8 then (z0z.j0 k true l0_0 l0_1 a1_0 l1_1 l1_2 l1_3 l1_4 a1_5 a1_6) else (if (l1_2.length : Int) > 8 then (z0z.j0 k true l0_0 l0_1 a1_0 l1_1 l1_2 l1_3 l1_4 a1_5 a1_6) else (z0z.j0 k ((wrap64 ((l1_1.length : Int) + (l1_2.length : Int))) == 0) l0_0 l0_1 a1_0 l1_1 l1_2 l1_3 l1_4 a1_5 a1_6))))) else (z0z.j0 k true l0_0 l0_1 a1_0 l1_1 l1_2 l1_3 l1_4 a1_5 a1_6))) else (some t152)) = some r := H
 have A3 := z0a.mk A30
 clear A30
 by_cases c4 : t152 = 0
 rotate_left
 ·rw [if_neg c4] at H
  have c4b0 : (t152 == 0) = false := beq_eq_false_iff_ne.mpr c4
  have c4b1 : (t152 != 0) = true := bne_iff_ne.mpr c4
  obtain rfl := Option.some.inj H
  go_enter Tryz.func114, Tryz.ntmps114
  go_wp2_with (first | ((with_reducible refine z0o (N := 2) rfl ?_); refine zo (cs := #[.slice z0U l0_0.length c0_0, .slice z0X l0_1.length c0_1]) (t := 25) ?_; intro y7f hg w107 hbox hb; have z2a := z0a.mk hbox; have GW150 := zG HB hg; have GE150 := zG HB hg; replace HB := zB HB hb; clear hb hbox hg) | ((with_reducible refine z0o (N := 3) rfl ?_); refine zo (cs := #[.string a1_0, .slice y0m l1_1.length c1_1, .slice y0n l1_2.length c1_2, .slice z6H l1_3.length c1_3, .slice z8R l1_4.length c1_4, .int .u8 a1_5, .bool a1_6]) (t := 51) ?_; intro y7g hg w108 hbox hb; have z1Y := z0a.mk hbox; have GW151 := zG HB hg; have GE151 := zG HB hg; have z2y := zN z2a hg; have z2z := zM z2a hg; replace z2a := zK z2a hb; replace HB := zB HB hb; clear hb hbox hg; have hnb109 := z2y.out; have hnc109 := z2z.out; obtain ⟨hcz110_0, hcz110_1, hfz110_0, hfz110_1⟩ := zc2 w108 z2a.out) | ((with_reducible refine z0m (f := 78) rfl ?_); refine z1a (some 11) rfl rfl Tryz.func78 (by kernel_rfl) rfl #[.agg #[.slice z0U l0_0.length c0_0, .slice z0X l0_1.length c0_1]] rfl zq ?_; (with_reducible refine (z0T.calls _ _ l0_0 _ _ l0_1 t152 _ ?z0M z1g.out ?z0Q z1j.out A3.out).mono ?_); (case z0M => exact zs); (case z0Q => exact zs); rintro e w111 ⟨rfl, hb⟩; refine ⟨_, rfl, ?_⟩; replace z2a := zK z2a hb; replace z1Y := zK z1Y hb; replace HB := zB HB hb; (try clear hb)))
  go_ret
  exact ⟨zr, zb⟩
 rw [if_pos c4] at H
 have c4b0 : (t152 == 0) = true := beq_iff_eq.mpr c4
 have c4b1 : (t152 != 0) = false := bne_eq_false_iff_eq.mpr c4
 clear c4
 have HC5 := z0a.mk H
 clear H
 go_enter Tryz.func114, Tryz.ntmps114
 go_upto_region 4 with (first | ((with_reducible refine z0o (N := 2) rfl ?_); refine zo (cs := #[.slice z0U l0_0.length c0_0, .slice z0X l0_1.length c0_1]) (t := 25) ?_; intro y7f hg w6 hbox hb; have z2a := z0a.mk hbox; have GW150 := zG HB hg; have GE150 := zG HB hg; replace HB := zB HB hb; clear hb hbox hg) | ((with_reducible refine z0o (N := 3) rfl ?_); refine zo (cs := #[.string a1_0, .slice y0m l1_1.length c1_1, .slice y0n l1_2.length c1_2, .slice z6H l1_3.length c1_3, .slice z8R l1_4.length c1_4, .int .u8 a1_5, .bool a1_6]) (t := 51) ?_; intro y7g hg w7 hbox hb; have z1Y := z0a.mk hbox; have GW151 := zG HB hg; have GE151 := zG HB hg; have z2y := zN z2a hg; have z2z := zM z2a hg; replace z2a := zK z2a hb; replace HB := zB HB hb; clear hb hbox hg; have hnb8 := z2y.out; have hnc8 := z2z.out; obtain ⟨z5l, z5m, z5n, z5o⟩ := zc2 w7 z2a.out) | ((with_reducible refine z0m (f := 78) rfl ?_); refine z1a (some 11) rfl rfl Tryz.func78 (by kernel_rfl) rfl #[.agg #[.slice z0U l0_0.length c0_0, .slice z0X l0_1.length c0_1]] rfl zq ?_; (with_reducible refine (z0T.calls _ _ l0_0 _ _ l0_1 t152 _ ?z0M z1g.out ?z0Q z1j.out A3.out).mono ?_); (case z0M => exact zs); (case z0Q => exact zs); rintro e w10 ⟨rfl, hb⟩; refine ⟨_, rfl, ?_⟩; replace z2a := zK z2a hb; replace z1Y := zK z1Y hb; replace HB := zB HB hb; (try clear hb)))
 (try simp only [Act.put, List.setIfInBounds_toArray, List.set_cons_zero, List.set_cons_succ])
 go_cut [50] (fun v50 wc => ∃ (kq : Nat) (x50_4 : Bool), v50 = .bool x50_4 ∧ z0a (z0z.j0 kq x50_4 l0_0 l0_1 a1_0 l1_1 l1_2 l1_3 l1_4 a1_5 a1_6 = some r) ∧ z0a (kq ≤ k) ∧ z0a (wc.heap[y7f]? = some (.cells #[(.slice z0U l0_0.length c0_0), (.slice z0X l0_1.length c0_1)] 25 (0, 0))) ∧ z0a (wc.heap[y7g]? = some (.cells #[.string a1_0, (.slice y0m l1_1.length c1_1), (.slice y0n l1_2.length c1_2), (.slice z6H l1_3.length c1_3), (.slice z8R l1_4.length c1_4), .int .u8 a1_5, .bool a1_6] 51 (0, 0))) ∧ z0a (Below w.heap.size w wc))
 case first =>
  have H := HC5.out
  clear HC5
  replace H := Option.bind_eq_some_iff.mp H
  obtain ⟨t153, A110, H⟩ := H
  replace H : (if t153 = true then (if a1_5 < 1 then (z0z.j0 k true l0_0 l0_1 a1_0 l1_1 l1_2 l1_3 l1_4 a1_5 a1_6) else (if a1_5 > 3 then (z0z.j0 k true l0_0 l0_1 a1_0 l1_1 l1_2 l1_3 l1_4 a1_5 a1_6) else (if (l1_1.length : Int) > 8 then (z0z.j0 k true l0_0 l0_1 a1_0 l1_1 l1_2 l1_3 l1_4 a1_5 a1_6) else (if (l1_2.length : Int) > 8 then (z0z.j0 k true l0_0 l0_1 a1_0 l1_1 l1_2 l1_3 l1_4 a1_5 a1_6) else (z0z.j0 k ((wrap64 ((l1_1.length : Int) + (l1_2.length : Int))) == 0) l0_0 l0_1 a1_0 l1_1 l1_2 l1_3 l1_4 a1_5 a1_6))))) else (z0z.j0 k true l0_0 l0_1 a1_0 l1_1 l1_2 l1_3 l1_4 a1_5 a1_6)) = some r := H
  have A11 := z0a.mk A110
  clear A110
  by_cases c12 : t153 = true
  rotate_left
  ·replace c12 := Bool.eq_false_iff.mpr c12
   subst c12
   have H1 : (z0z.j0 k true l0_0 l0_1 a1_0 l1_1 l1_2 l1_3 l1_4 a1_5 a1_6) = some r := by rw [if_neg (show ¬ (false = true) by decide)] at H; exact H
   clear H
   have H := H1
   clear H1
   have H' := z0a.mk H
   clear H
   have hnb37 := z2z.out
   have hnc37 := z2y.out
   obtain ⟨z9z, y1V, y5r, y8d, y8e, x3F, x3G, z9A, y1W, y5s, y8f, y8g, x3H, x3I⟩ := zc7 w10 z1Y.out
   go_wp2_with (first | ((with_reducible refine z0m (f := 141) rfl ?_); refine z1a (some 17) rfl rfl Tryz.func141 (by kernel_rfl) rfl #[.string a1_0] rfl zq ?_; (with_reducible refine (z2S.calls a1_0 false _ A11.out).mono ?_); rintro e w39 ⟨rfl, hb⟩; refine ⟨_, rfl, ?_⟩; replace z2a := zK z2a hb; replace z1Y := zK z1Y hb; replace HB := zB HB hb; (try clear hb)))
   go_meet
   case rel => exact ⟨_, (true), ze, H', ⟨zl⟩, ⟨zk⟩, ⟨zk⟩, ⟨zb⟩⟩
  subst c12
  have H1 : (if a1_5 < 1 then (z0z.j0 k true l0_0 l0_1 a1_0 l1_1 l1_2 l1_3 l1_4 a1_5 a1_6) else (if a1_5 > 3 then (z0z.j0 k true l0_0 l0_1 a1_0 l1_1 l1_2 l1_3 l1_4 a1_5 a1_6) else (if (l1_1.length : Int) > 8 then (z0z.j0 k true l0_0 l0_1 a1_0 l1_1 l1_2 l1_3 l1_4 a1_5 a1_6) else (if (l1_2.length : Int) > 8 then (z0z.j0 k true l0_0 l0_1 a1_0 l1_1 l1_2 l1_3 l1_4 a1_5 a1_6) else (z0z.j0 k ((wrap64 ((l1_1.length : Int) + (l1_2.length : Int))) == 0) l0_0 l0_1 a1_0 l1_1 l1_2 l1_3 l1_4 a1_5 a1_6))))) = some r := by rw [if_pos rfl] at H; exact H
  clear H
  have H := H1
  clear H1
  by_cases c13 : a1_5 < 1
  ·rw [if_pos c13] at H
   have c13b0 : decide (a1_5 < 1) = true := decide_eq_true c13
   clear c13
   (first | rw [c13b0] | (simp only [z0V, z0W]; rw [c13b0]) | skip)
   have H' := z0a.mk H
   clear H
   have hnb14 := z2z.out
   have hnc14 := z2y.out
   obtain ⟨y8s, y8t, y8u, hcz15_3, hcz15_4, hcz15_5, hcz15_6, y8v, y8w, y8x, hfz15_3, hfz15_4, hfz15_5, hfz15_6⟩ := zc7 w10 z1Y.out
   go_wp2_with (first | ((with_reducible refine z0m (f := 141) rfl ?_); refine z1a (some 17) rfl rfl Tryz.func141 (by kernel_rfl) rfl #[.string a1_0] rfl zq ?_; (with_reducible refine (z2S.calls a1_0 true _ A11.out).mono ?_); rintro e w16 ⟨rfl, hb⟩; refine ⟨_, rfl, ?_⟩; replace z2a := zK z2a hb; replace z1Y := zK z1Y hb; replace HB := zB HB hb; (try clear hb); obtain ⟨y2d, y5J, y8y, x3J, x9w, hcz17_5, hcz17_6, y2e, y5K, y8z, x3K, x9x, hfz17_5, hfz17_6⟩ := zc7 w16 z1Y.out))
   go_meet
   case rel => exact ⟨_, (true), ze, H', ⟨zl⟩, ⟨zk⟩, ⟨zk⟩, ⟨zb⟩⟩
  rw [if_neg c13] at H
  have c13b0 : decide (a1_5 < 1) = false := decide_eq_false c13
  clear c13
  (first | rw [c13b0] | (simp only [z0V, z0W]; rw [c13b0]) | skip)
  by_cases c18 : a1_5 > 3
  ·rw [if_pos c18] at H
   have c18b0 : decide (3 < a1_5) = true := decide_eq_true c18
   clear c18
   have H' := z0a.mk H
   clear H
   have hnb19 := z2z.out
   have hnc19 := z2y.out
   obtain ⟨z5x, z6a, y2f, x9y, x9z, hcz20_5, hcz20_6, z5y, z6b, y2g, x9B, x9C, hfz20_5, hfz20_6⟩ := zc7 w10 z1Y.out
   go_wp2_with (first | ((with_reducible refine z0m (f := 141) rfl ?_); refine z1a (some 17) rfl rfl Tryz.func141 (by kernel_rfl) rfl #[.string a1_0] rfl zq ?_; (with_reducible refine (z2S.calls a1_0 true _ A11.out).mono ?_); rintro e w21 ⟨rfl, hb⟩; refine ⟨_, rfl, ?_⟩; replace z2a := zK z2a hb; replace z1Y := zK z1Y hb; replace HB := zB HB hb; (try clear hb); obtain ⟨y5L, y5M, hcz22_2, hcz22_3, hcz22_4, hcz22_5, hcz22_6, y5N, y5O, hfz22_2, hfz22_3, hfz22_4, hfz22_5, hfz22_6⟩ := zc7 w21 z1Y.out))
   go_meet
   case rel => exact ⟨_, (true), ze, H', ⟨zl⟩, ⟨zk⟩, ⟨zk⟩, ⟨zb⟩⟩
  rw [if_neg c18] at H
  have c18b0 : decide (3 < a1_5) = false := decide_eq_false c18
  clear c18
  by_cases c23 : (l1_1.length : Int) > 8
  ·rw [if_pos c23] at H
   have c23b0 : decide (8 < (l1_1.length : Int)) = true := decide_eq_true c23
   have c23b1 : decide (8 < l1_1.length) = true := decide_eq_true (by omega)
   clear c23
   have H' := z0a.mk H
   clear H
   have hnb24 := z2z.out
   have hnc24 := z2y.out
   obtain ⟨x3L, x3M, x9D, hcz25_3, hcz25_4, hcz25_5, hcz25_6, x3N, x3O, x9E, hfz25_3, hfz25_4, hfz25_5, hfz25_6⟩ := zc7 w10 z1Y.out
   go_wp2_with (first | ((with_reducible refine z0m (f := 141) rfl ?_); refine z1a (some 17) rfl rfl Tryz.func141 (by kernel_rfl) rfl #[.string a1_0] rfl zq ?_; (with_reducible refine (z2S.calls a1_0 true _ A11.out).mono ?_); rintro e w26 ⟨rfl, hb⟩; refine ⟨_, rfl, ?_⟩; replace z2a := zK z2a hb; replace z1Y := zK z1Y hb; replace HB := zB HB hb; (try clear hb); obtain ⟨y1P, y5h, y5i, y5j, x2A, hcz27_5, hcz27_6, y1Q, y5k, y5l, y5m, x2B, hfz27_5, hfz27_6⟩ := zc7 w26 z1Y.out))
   go_meet
   case rel => exact ⟨_, (true), ze, H', ⟨zl⟩, ⟨zk⟩, ⟨zk⟩, ⟨zb⟩⟩
  rw [if_neg c23] at H
  have c23b0 : decide (8 < (l1_1.length : Int)) = false := decide_eq_false c23
  have c23b1 : decide (8 < l1_1.length) = false := decide_eq_false (by omega)
  clear c23
  by_cases c28 : (l1_2.length : Int) > 8
  ·rw [if_pos c28] at H
   have c28b0 : decide (8 < (l1_2.length : Int)) = true := decide_eq_true c28
   have c28b1 : decide (8 < l1_2.length) = true := decide_eq_true (by omega)
   clear c28
   have H' := z0a.mk H
   clear H
   have hnb29 := z2z.out
   have hnc29 := z2y.out
   obtain ⟨y5P, y8A, y8B, x3P, x9G, x9H, x9I, y5Q, y8C, y8D, x3Q, x9J, x9K, x9L⟩ := zc7 w10 z1Y.out
   go_wp2_with (first | ((with_reducible refine z0m (f := 141) rfl ?_); refine z1a (some 17) rfl rfl Tryz.func141 (by kernel_rfl) rfl #[.string a1_0] rfl zq ?_; (with_reducible refine (z2S.calls a1_0 true _ A11.out).mono ?_); rintro e w31 ⟨rfl, hb⟩; refine ⟨_, rfl, ?_⟩; replace z2a := zK z2a hb; replace z1Y := zK z1Y hb; replace HB := zB HB hb; (try clear hb); obtain ⟨x3B, x3C, x9g, hcz32_3, hcz32_4, hcz32_5, hcz32_6, x3D, x3E, x9h, hfz32_3, hfz32_4, hfz32_5, hfz32_6⟩ := zc7 w31 z1Y.out))
   go_meet
   case rel => exact ⟨_, (true), ze, H', ⟨zl⟩, ⟨zk⟩, ⟨zk⟩, ⟨zb⟩⟩
  rw [if_neg c28] at H
  have c28b0 : decide (8 < (l1_2.length : Int)) = false := decide_eq_false c28
  have c28b1 : decide (8 < l1_2.length) = false := decide_eq_false (by omega)
  clear c28
  have H' := z0a.mk H
  clear H
  have hnb33 := z2z.out
  have hnc33 := z2y.out
  obtain ⟨y0z, y2h, y2i, y5R, y8E, x9M, x9N, y0A, y2j, y2k, y5S, y8F, x9O, x9P⟩ := zc7 w10 z1Y.out
  go_wp2_with (first | ((with_reducible refine z0m (f := 141) rfl ?_); refine z1a (some 17) rfl rfl Tryz.func141 (by kernel_rfl) rfl #[.string a1_0] rfl zq ?_; (with_reducible refine (z2S.calls a1_0 true _ A11.out).mono ?_); rintro e w35 ⟨rfl, hb⟩; refine ⟨_, rfl, ?_⟩; replace z2a := zK z2a hb; replace z1Y := zK z1Y hb; replace HB := zB HB hb; (try clear hb); obtain ⟨x3h, x3i, x3j, x3k, x3l, hcz36_5, hcz36_6, x3m, x3n, x3o, x3p, x3q, hfz36_5, hfz36_6⟩ := zc7 w35 z1Y.out))
  go_meet
  case rel => exact ⟨_, (((wrap64 ((l1_1.length : Int) + (l1_2.length : Int))) == 0)), ze, H', ⟨zl⟩, ⟨zk⟩, ⟨zk⟩, ⟨zb⟩⟩
 case rest =>
  clear HC5
  try clear c4
  try clear c4b0
  try clear c4b1
  try clear z5l
  try clear z5m
  try clear z5n
  try clear z5o
  obtain ⟨kq, x50_4, rfl, HA, HJ4, z2a, z1Y, HB⟩ := hcut
  cases kq with
  | zero => exact absurd HA.out (by simp [z0z.j0])
  | succ kj4 =>
   have H := HA.out
   clear HA
   simp only [z0z.j0] at H
   by_cases c40 : x50_4 = true
   ·subst c40
    have H1 : (some 70) = some r := by rw [if_pos rfl] at H; exact H
    clear H
    have H := H1
    clear H1
    obtain rfl := Option.some.inj H
    go_wp2
    go_ret
    exact ⟨zr, zb⟩
   replace c40 := Bool.eq_false_iff.mpr c40
   subst c40
   have H1 : (z0z.l0 kj4 l1_1 (l1_1.length : Int) 0 l0_0 l0_1 a1_0 l1_1 l1_2 l1_3 l1_4 a1_5 a1_6) = some r := by rw [if_neg (show ¬ (false = true) by decide)] at H; exact H
   clear H
   have H := H1
   clear H1
   have H' := z0a.mk H
   clear H
   have hnb41 := z2z.out
   have hnc41 := z2y.out
   obtain ⟨y8G, y8H, y8I, y8J, y8K, x3R, x3S, y8L, y8M, y8N, y8O, y8P, x3T, x3U⟩ := zc7 wc z1Y.out
   go_wp2
   go_loopg [54] kj4 (fun kq v54 w' => ∃ (x54_2 : Int), v54 = .int .i64 x54_2 ∧ z0a (z0z.l0 kq l1_1 (l1_1.length : Int) x54_2 l0_0 l0_1 a1_0 l1_1 l1_2 l1_3 l1_4 a1_5 a1_6 = some r) ∧ z0a (kq ≤ kj4) ∧ z0a (w'.heap[y7f]? = some (.cells #[(.slice z0U l0_0.length c0_0), (.slice z0X l0_1.length c0_1)] 25 (0, 0))) ∧ z0a (w'.heap[y7g]? = some (.cells #[.string a1_0, (.slice y0m l1_1.length c1_1), (.slice y0n l1_2.length c1_2), (.slice z6H l1_3.length c1_3), (.slice z8R l1_4.length c1_4), .int .u8 a1_5, .bool a1_6] 51 (0, 0))) ∧ z0a (Below w.heap.size w w'))
   case atStart => exact ⟨(0), ze, H', ⟨Nat.le_refl _⟩, ⟨zk⟩, ⟨zk⟩, ⟨zb⟩⟩
   case round =>
    clear H'
    try clear c4
    try clear c4b0
    try clear c4b1
    try clear c40
    try clear y8G
    try clear y8H
    try clear y8I
    try clear y8J
    try clear y8K
    try clear x3R
    try clear x3S
    try clear z5l
    try clear z5m
    try clear y8L
    try clear y8M
    try clear y8N
    try clear y8O
    try clear y8P
    try clear x3T
    try clear x3U
    try clear z5n
    try clear z5o
    obtain ⟨x54_2, rfl, HA, HK2, z2a, z1Y, HB⟩ := hrel
    cases gk with
    | zero => exact absurd HA.out (by simp [z0z.l0])
    | succ k2 =>
     have H := HA.out
     clear HA
     simp only [z0z.l0] at H
     by_cases c43 : x54_2 < (l1_1.length : Int)
     ·rw [if_pos c43] at H
      have c43b0 : decide (x54_2 < (l1_1.length : Int)) = true := decide_eq_true c43
      clear c43
      by_cases c44 : 0 ≤ x54_2
      rotate_left
      ·rw [if_neg c44] at H
       exact absurd H (by simp)
      rw [if_pos c44] at H
      have c44b0 : decide (0 ≤ x54_2) = true := decide_eq_true c44
      clear c44
      by_cases c45 : x54_2 < (l1_1.length : Int)
      rotate_left
      ·rw [if_neg c45] at H
       exact absurd H (by simp)
      rw [if_pos c45] at H
      have c45b0 : decide (x54_2 < (l1_1.length : Int)) = true := decide_eq_true c45
      clear c45
      replace H := Option.bind_eq_some_iff.mp H
      obtain ⟨t156, A460, H⟩ := H
      replace H : (if t156 = true then (z0z.l0 k2 l1_1 (l1_1.length : Int) (wrap64 (x54_2 + 1)) l0_0 l0_1 a1_0 l1_1 l1_2 l1_3 l1_4 a1_5 a1_6) else (some 70)) = some r := H
      have A46 := z0a.mk A460
      clear A460
      by_cases c47 : t156 = true
      rotate_left
      ·replace c47 := Bool.eq_false_iff.mpr c47
       subst c47
       have H1 : (some 70) = some r := by rw [if_neg (show ¬ (false = true) by decide)] at H; exact H
       clear H
       have H := H1
       clear H1
       obtain rfl := Option.some.inj H
       have p154 : 0 ≤ (x54_2 : Int) := za
       have q154 : x54_2 < (l1_1.length : Int) := za
       obtain ⟨ad154, e154, y2l, y2m, y2n⟩ := z9b y4k.out x54_2 p154 q154
       cases e154
       replace y2l := zx HB y2l
       replace y2m := zx HB y2m
       replace y2n := zx HB y2n
       replace p154 := eq_true p154
       replace q154 := eq_true q154
       go_wp2_with (first | ((with_reducible refine z0o (N := 7) rfl ?_); refine zo (cs := #[.int .i32 0, .int .u32 0, .int .u32 0]) (t := 54) ?_; intro x9Q hg w55 hbox hb; have y8Q := z0a.mk hbox; have GW155 := zG HB hg; have GE155 := zG HB hg; have z4L := zN z2a hg; have y2o := zM z2a hg; have z4M := zN z1Y hg; have y2p := zM z1Y hg; replace z2a := zK z2a hb; replace z1Y := zK z1Y hb; replace HB := zB HB hb; clear hb hbox hg; have hnb56 := y2o.out; have hnc56 := z4L.out; have hnb57 := y2p.out; have hnc57 := z4M.out; obtain ⟨y5x, y5y, y8n, y5z, y5A, y8o⟩ := zc3 w55 y8Q.out; have hnb59 := z2y.out; have hnc59 := z2z.out; obtain ⟨x9s, x9t, x9u, x9v⟩ := zc2 w55 z2a.out) | ((with_reducible refine z0m (f := 142) rfl ?_); refine z1a (some 65) rfl rfl Tryz.func142 (by kernel_rfl) rfl #[.agg #[.slice z0U l0_0.length c0_0, .slice z0X l0_1.length c0_1], .int .i32 ((z1L l1_1 x54_2).f0), .int .u32 ((z1L l1_1 x54_2).f1), .int .u32 ((z1L l1_1 x54_2).f2)] rfl zq ?_; (with_reducible refine (z2B.calls _ _ l0_0 _ _ l0_1 ((z1L l1_1 x54_2).f0) ((z1L l1_1 x54_2).f1) ((z1L l1_1 x54_2).f2) false _ ?z0M z1g.out ?z0Q z1j.out A46.out).mono ?_); (case z0M => exact Kd.z0t z2g.out zb); (case z0Q => exact Kd.z0t z2x.out zb); rintro e w61 ⟨rfl, hb⟩; refine ⟨_, rfl, ?_⟩; replace z2a := z0a.mk (z0O (g := y7f) (o := .cells #[.slice z0U l0_0.length c0_0, .slice z0X l0_1.length c0_1] 25 (0, 0)) (by (with_reducible repeat (first | refine z0c ?_ _ | refine z0e ?_ | refine z0b ?_ _)); refine z0n ?_ z4L.out _; (with_reducible repeat (first | refine z0c ?_ _ | refine z0e ?_ | refine z0b ?_ _)); refine z0n ?_ z4L.out _; (with_reducible repeat (first | refine z0c ?_ _ | refine z0e ?_ | refine z0b ?_ _)); refine z0n ?_ z4L.out _; (with_reducible repeat (first | refine z0c ?_ _ | refine z0e ?_ | refine z0b ?_ _)); exact z2a.out) hb); replace z1Y := z0a.mk (z0O (g := y7g) (o := .cells #[.string a1_0, .slice (some ad154) l1_1.length c1_1, .slice y0n l1_2.length c1_2, .slice z6H l1_3.length c1_3, .slice z8R l1_4.length c1_4, .int .u8 a1_5, .bool a1_6] 51 (0, 0)) (by (with_reducible repeat (first | refine z0c ?_ _ | refine z0e ?_ | refine z0b ?_ _)); refine z0n ?_ z4M.out _; (with_reducible repeat (first | refine z0c ?_ _ | refine z0e ?_ | refine z0b ?_ _)); refine z0n ?_ z4M.out _; (with_reducible repeat (first | refine z0c ?_ _ | refine z0e ?_ | refine z0b ?_ _)); refine z0n ?_ z4M.out _; (with_reducible repeat (first | refine z0c ?_ _ | refine z0e ?_ | refine z0b ?_ _)); exact z1Y.out) hb); replace y8Q := z0a.mk (z0O (g := x9Q) (o := .cells #[.int .i32 ((z1L l1_1 x54_2).f0), .int .u32 ((z1L l1_1 x54_2).f1), .int .u32 ((z1L l1_1 x54_2).f2)] 54 (0, 0)) (by (with_reducible repeat (first | refine z0c ?_ _ | refine z0e ?_ | refine z0b ?_ _)); refine z0N (cs := #[.int .i32 ((z1L l1_1 x54_2).f0), .int .u32 ((z1L l1_1 x54_2).f1), .int .u32 0]) ?_ 2 _ rfl; (with_reducible repeat (first | refine z0c ?_ _ | refine z0e ?_ | refine z0b ?_ _)); refine z0N (cs := #[.int .i32 ((z1L l1_1 x54_2).f0), .int .u32 0, .int .u32 0]) ?_ 1 _ rfl; (with_reducible repeat (first | refine z0c ?_ _ | refine z0e ?_ | refine z0b ?_ _)); refine z0N (cs := #[.int .i32 0, .int .u32 0, .int .u32 0]) ?_ 0 _ rfl; (with_reducible repeat (first | refine z0c ?_ _ | refine z0e ?_ | refine z0b ?_ _)); exact y8Q.out) hb); replace HB := zB HB hb; (try clear hb)))
       go_ret
       exact ⟨zr, zb⟩
      subst c47
      have H1 : (z0z.l0 k2 l1_1 (l1_1.length : Int) (wrap64 (x54_2 + 1)) l0_0 l0_1 a1_0 l1_1 l1_2 l1_3 l1_4 a1_5 a1_6) = some r := by rw [if_pos rfl] at H; exact H
      clear H
      have H := H1
      clear H1
      have H' := z0a.mk H
      clear H
      have p154 : 0 ≤ (x54_2 : Int) := za
      have q154 : x54_2 < (l1_1.length : Int) := za
      obtain ⟨ad154, e154, y2l, y2m, y2n⟩ := z9b y4k.out x54_2 p154 q154
      cases e154
      replace y2l := zx HB y2l
      replace y2m := zx HB y2m
      replace y2n := zx HB y2n
      replace p154 := eq_true p154
      replace q154 := eq_true q154
      go_wp2_with (first | ((with_reducible refine z0o (N := 7) rfl ?_); refine zo (cs := #[.int .i32 0, .int .u32 0, .int .u32 0]) (t := 54) ?_; intro x9Q hg w48 hbox hb; have y8Q := z0a.mk hbox; have GW155 := zG HB hg; have GE155 := zG HB hg; have z4L := zN z2a hg; have y2o := zM z2a hg; have z4M := zN z1Y hg; have y2p := zM z1Y hg; replace z2a := zK z2a hb; replace z1Y := zK z1Y hb; replace HB := zB HB hb; clear hb hbox hg; have hnb49 := y2o.out; have hnc49 := z4L.out; have hnb50 := y2p.out; have hnc50 := z4M.out; obtain ⟨y8h, y8i, y8j, y8k, y8l, y8m⟩ := zc3 w48 y8Q.out; have hnb52 := z2y.out; have hnc52 := z2z.out; obtain ⟨y5t, y5u, y5v, y5w⟩ := zc2 w48 z2a.out) | ((with_reducible refine z0m (f := 142) rfl ?_); refine z1a (some 65) rfl rfl Tryz.func142 (by kernel_rfl) rfl #[.agg #[.slice z0U l0_0.length c0_0, .slice z0X l0_1.length c0_1], .int .i32 ((z1L l1_1 x54_2).f0), .int .u32 ((z1L l1_1 x54_2).f1), .int .u32 ((z1L l1_1 x54_2).f2)] rfl zq ?_; (with_reducible refine (z2B.calls _ _ l0_0 _ _ l0_1 ((z1L l1_1 x54_2).f0) ((z1L l1_1 x54_2).f1) ((z1L l1_1 x54_2).f2) true _ ?z0M z1g.out ?z0Q z1j.out A46.out).mono ?_); (case z0M => exact Kd.z0t z2g.out zb); (case z0Q => exact Kd.z0t z2x.out zb); rintro e w54 ⟨rfl, hb⟩; refine ⟨_, rfl, ?_⟩; replace z2a := z0a.mk (z0O (g := y7f) (o := .cells #[.slice z0U l0_0.length c0_0, .slice z0X l0_1.length c0_1] 25 (0, 0)) (by (with_reducible repeat (first | refine z0c ?_ _ | refine z0e ?_ | refine z0b ?_ _)); refine z0n ?_ z4L.out _; (with_reducible repeat (first | refine z0c ?_ _ | refine z0e ?_ | refine z0b ?_ _)); refine z0n ?_ z4L.out _; (with_reducible repeat (first | refine z0c ?_ _ | refine z0e ?_ | refine z0b ?_ _)); refine z0n ?_ z4L.out _; (with_reducible repeat (first | refine z0c ?_ _ | refine z0e ?_ | refine z0b ?_ _)); exact z2a.out) hb); replace z1Y := z0a.mk (z0O (g := y7g) (o := .cells #[.string a1_0, .slice (some ad154) l1_1.length c1_1, .slice y0n l1_2.length c1_2, .slice z6H l1_3.length c1_3, .slice z8R l1_4.length c1_4, .int .u8 a1_5, .bool a1_6] 51 (0, 0)) (by (with_reducible repeat (first | refine z0c ?_ _ | refine z0e ?_ | refine z0b ?_ _)); refine z0n ?_ z4M.out _; (with_reducible repeat (first | refine z0c ?_ _ | refine z0e ?_ | refine z0b ?_ _)); refine z0n ?_ z4M.out _; (with_reducible repeat (first | refine z0c ?_ _ | refine z0e ?_ | refine z0b ?_ _)); refine z0n ?_ z4M.out _; (with_reducible repeat (first | refine z0c ?_ _ | refine z0e ?_ | refine z0b ?_ _)); exact z1Y.out) hb); replace y8Q := z0a.mk (z0O (g := x9Q) (o := .cells #[.int .i32 ((z1L l1_1 x54_2).f0), .int .u32 ((z1L l1_1 x54_2).f1), .int .u32 ((z1L l1_1 x54_2).f2)] 54 (0, 0)) (by (with_reducible repeat (first | refine z0c ?_ _ | refine z0e ?_ | refine z0b ?_ _)); refine z0N (cs := #[.int .i32 ((z1L l1_1 x54_2).f0), .int .u32 ((z1L l1_1 x54_2).f1), .int .u32 0]) ?_ 2 _ rfl; (with_reducible repeat (first | refine z0c ?_ _ | refine z0e ?_ | refine z0b ?_ _)); refine z0N (cs := #[.int .i32 ((z1L l1_1 x54_2).f0), .int .u32 0, .int .u32 0]) ?_ 1 _ rfl; (with_reducible repeat (first | refine z0c ?_ _ | refine z0e ?_ | refine z0b ?_ _)); refine z0N (cs := #[.int .i32 0, .int .u32 0, .int .u32 0]) ?_ 0 _ rfl; (with_reducible repeat (first | refine z0c ?_ _ | refine z0e ?_ | refine z0b ?_ _)); exact y8Q.out) hb); replace HB := zB HB hb; (try clear hb)))
      go_roundg k2
      case measure => have := HJ4.out; have := HK2.out; omega
      case rel => exact ⟨(wrap64 (x54_2 + 1)), ze, H', ⟨by have := HJ4.out; have := HK2.out; omega⟩, ⟨zk⟩, ⟨zk⟩, ⟨zb⟩⟩
     rw [if_neg c43] at H
     have c43b0 : decide (x54_2 < (l1_1.length : Int)) = false := decide_eq_false c43
     clear c43
     have H' := z0a.mk H
     clear H
     have hnb62 := z2z.out
     have hnc62 := z2y.out
     obtain ⟨x3V, x3W, x9R, x9S, x9T, x9U, x9V, x3X, x3Y, x9W, x9X, x9Y, x9Z, w0a⟩ := zc7 wr z1Y.out
     go_wp2
     go_loopg [71] k2 (fun kq v71 w' => ∃ (x71_3 : Int), v71 = .int .i64 x71_3 ∧ z0a (z0z.l1 kq l1_2 (l1_2.length : Int) x71_3 l0_0 l0_1 a1_0 l1_1 l1_2 l1_3 l1_4 a1_5 a1_6 = some r) ∧ z0a (kq ≤ k2) ∧ z0a (w'.heap[y7f]? = some (.cells #[(.slice z0U l0_0.length c0_0), (.slice z0X l0_1.length c0_1)] 25 (0, 0))) ∧ z0a (w'.heap[y7g]? = some (.cells #[.string a1_0, (.slice y0m l1_1.length c1_1), (.slice y0n l1_2.length c1_2), (.slice z6H l1_3.length c1_3), (.slice z8R l1_4.length c1_4), .int .u8 a1_5, .bool a1_6] 51 (0, 0))) ∧ z0a (Below w.heap.size w w'))
     case atStart => exact ⟨(0), ze, H', ⟨Nat.le_refl _⟩, ⟨zk⟩, ⟨zk⟩, ⟨zb⟩⟩
     case round =>
      clear H'
      try clear c4
      try clear c4b0
      try clear c4b1
      try clear c40
      try clear c43
      try clear c43b0
      try clear y8G
      try clear y8H
      try clear y8I
      try clear y8J
      try clear y8K
      try clear x3R
      try clear x3S
      try clear x3V
      try clear x3W
      try clear x9R
      try clear x9S
      try clear x9T
      try clear x9U
      try clear x9V
      try clear z5l
      try clear z5m
      try clear y8L
      try clear y8M
      try clear y8N
      try clear y8O
      try clear y8P
      try clear x3T
      try clear x3U
      try clear x3X
      try clear x3Y
      try clear x9W
      try clear x9X
      try clear x9Y
      try clear x9Z
      try clear w0a
      try clear z5n
      try clear z5o
      obtain ⟨x71_3, rfl, HA, HK3, z2a, z1Y, HB⟩ := hrel
      cases gk with
      | zero => exact absurd HA.out (by simp [z0z.l1])
      | succ k3 =>
       have H := HA.out
       clear HA
       simp only [z0z.l1] at H
       by_cases c64 : x71_3 < (l1_2.length : Int)
       rotate_left
       ·rw [if_neg c64] at H
        have c64b0 : decide (x71_3 < (l1_2.length : Int)) = false := decide_eq_false c64
        clear c64
        replace H := Option.bind_eq_some_iff.mp H
        obtain ⟨t160, A850, H⟩ := H
        replace H : (if t160 = 0 then ((z0P.f k3 l0_0 l0_1 l1_4).bind fun t161 => (if t161 = 0 then (some 0) else (some 70))) else (some 70)) = some r := H
        have A85 := z0a.mk A850
        clear A850
        by_cases c86 : t160 = 0
        rotate_left
        ·rw [if_neg c86] at H
         have c86b0 : (t160 == 0) = false := beq_eq_false_iff_ne.mpr c86
         have c86b1 : (t160 != 0) = true := bne_iff_ne.mpr c86
         obtain rfl := Option.some.inj H
         have hnb103 := z2y.out
         have hnc103 := z2z.out
         obtain ⟨hcz104_0, hcz104_1, hfz104_0, hfz104_1⟩ := zc2 wr z2a.out
         obtain ⟨hcz105_0, hcz105_1, hcz105_2, hcz105_3, hcz105_4, hcz105_5, hcz105_6, hfz105_0, hfz105_1, hfz105_2, hfz105_3, hfz105_4, hfz105_5, hfz105_6⟩ := zc7 wr z1Y.out
         go_wp2_with (first | ((with_reducible refine z0m (f := 144) rfl ?_); refine z1a (some 86) rfl rfl Tryz.func144 (by kernel_rfl) rfl #[.agg #[.slice z0U l0_0.length c0_0, .slice z0X l0_1.length c0_1], .agg #[.slice z6H l1_3.length c1_3]] rfl zq ?_; (with_reducible refine (z0P.calls k3 _ _ l0_0 _ _ l0_1 _ _ l1_3 t160 _ ?z0M z1g.out ?z0Q z1j.out ?z1z y5I.out A85.out).mono ?_); (case z0M => exact zs); (case z0Q => exact zs); (case z1z => exact zs); rintro e w106 ⟨rfl, hb⟩; refine ⟨_, rfl, ?_⟩; replace z2a := zK z2a hb; replace z1Y := zK z1Y hb; replace HB := zB HB hb; (try clear hb)))
         go_ret
         exact ⟨zr, zb⟩
        rw [if_pos c86] at H
        have c86b0 : (t160 == 0) = true := beq_iff_eq.mpr c86
        have c86b1 : (t160 != 0) = false := bne_eq_false_iff_eq.mpr c86
        clear c86
        replace H := Option.bind_eq_some_iff.mp H
        obtain ⟨t161, A870, H⟩ := H
        replace H : (if t161 = 0 then (some 0) else (some 70)) = some r := H
        have A87 := z0a.mk A870
        clear A870
        by_cases c88 : t161 = 0
        rotate_left
        ·rw [if_neg c88] at H
         have c88b0 : (t161 == 0) = false := beq_eq_false_iff_ne.mpr c88
         have c88b1 : (t161 != 0) = true := bne_iff_ne.mpr c88
         obtain rfl := Option.some.inj H
         have hnb96 := z2y.out
         have hnc96 := z2z.out
         obtain ⟨hcz97_0, hcz97_1, hfz97_0, hfz97_1⟩ := zc2 wr z2a.out
         obtain ⟨hcz98_0, hcz98_1, hcz98_2, hcz98_3, hcz98_4, hcz98_5, hcz98_6, hfz98_0, hfz98_1, hfz98_2, hfz98_3, hfz98_4, hfz98_5, hfz98_6⟩ := zc7 wr z1Y.out
         go_wp2_with (first | ((with_reducible refine z0m (f := 144) rfl ?_); refine z1a (some 86) rfl rfl Tryz.func144 (by kernel_rfl) rfl #[.agg #[.slice z0U l0_0.length c0_0, .slice z0X l0_1.length c0_1], .agg #[.slice z6H l1_3.length c1_3]] rfl zq ?_; (with_reducible refine (z0P.calls k3 _ _ l0_0 _ _ l0_1 _ _ l1_3 t160 _ ?z0M z1g.out ?z0Q z1j.out ?z1z y5I.out A85.out).mono ?_); (case z0M => exact zs); (case z0Q => exact zs); (case z1z => exact zs); rintro e w99 ⟨rfl, hb⟩; refine ⟨_, rfl, ?_⟩; replace z2a := zK z2a hb; replace z1Y := zK z1Y hb; replace HB := zB HB hb; (try clear hb); obtain ⟨hcz100_0, hcz100_1, hfz100_0, hfz100_1⟩ := zc2 w99 z2a.out; obtain ⟨hcz101_0, hcz101_1, hcz101_2, hcz101_3, hcz101_4, hcz101_5, hcz101_6, hfz101_0, hfz101_1, hfz101_2, hfz101_3, hfz101_4, hfz101_5, hfz101_6⟩ := zc7 w99 z1Y.out) | (go_at_call 144; (with_reducible refine (z0P.calls k3 _ _ l0_0 _ _ l0_1 _ _ l1_4 t161 _ ?z0M z1g.out ?z0Q z1j.out ?z1z y8r.out A87.out).mono ?_); (case z0M => exact zs); (case z0Q => exact zs); (case z1z => exact zs); rintro e w102 ⟨rfl, hb⟩; replace z2a := zK z2a hb; replace z1Y := zK z1Y hb; replace HB := zB HB hb; (try clear hb)))
         go_ret
         exact ⟨zr, zb⟩
        rw [if_pos c88] at H
        have c88b0 : (t161 == 0) = true := beq_iff_eq.mpr c88
        have c88b1 : (t161 != 0) = false := bne_eq_false_iff_eq.mpr c88
        clear c88
        obtain rfl := Option.some.inj H
        have hnb89 := z2y.out
        have hnc89 := z2z.out
        obtain ⟨hcz90_0, hcz90_1, hfz90_0, hfz90_1⟩ := zc2 wr z2a.out
        obtain ⟨hcz91_0, hcz91_1, hcz91_2, hcz91_3, hcz91_4, hcz91_5, hcz91_6, hfz91_0, hfz91_1, hfz91_2, hfz91_3, hfz91_4, hfz91_5, hfz91_6⟩ := zc7 wr z1Y.out
        go_wp2_with (first | ((with_reducible refine z0m (f := 144) rfl ?_); refine z1a (some 86) rfl rfl Tryz.func144 (by kernel_rfl) rfl #[.agg #[.slice z0U l0_0.length c0_0, .slice z0X l0_1.length c0_1], .agg #[.slice z6H l1_3.length c1_3]] rfl zq ?_; (with_reducible refine (z0P.calls k3 _ _ l0_0 _ _ l0_1 _ _ l1_3 t160 _ ?z0M z1g.out ?z0Q z1j.out ?z1z y5I.out A85.out).mono ?_); (case z0M => exact zs); (case z0Q => exact zs); (case z1z => exact zs); rintro e w92 ⟨rfl, hb⟩; refine ⟨_, rfl, ?_⟩; replace z2a := zK z2a hb; replace z1Y := zK z1Y hb; replace HB := zB HB hb; (try clear hb); obtain ⟨hcz93_0, hcz93_1, hfz93_0, hfz93_1⟩ := zc2 w92 z2a.out; obtain ⟨hcz94_0, hcz94_1, hcz94_2, hcz94_3, hcz94_4, hcz94_5, hcz94_6, hfz94_0, hfz94_1, hfz94_2, hfz94_3, hfz94_4, hfz94_5, hfz94_6⟩ := zc7 w92 z1Y.out) | (go_at_call 144; (with_reducible refine (z0P.calls k3 _ _ l0_0 _ _ l0_1 _ _ l1_4 t161 _ ?z0M z1g.out ?z0Q z1j.out ?z1z y8r.out A87.out).mono ?_); (case z0M => exact zs); (case z0Q => exact zs); (case z1z => exact zs); rintro e w95 ⟨rfl, hb⟩; replace z2a := zK z2a hb; replace z1Y := zK z1Y hb; replace HB := zB HB hb; (try clear hb)))
        go_ret
        exact ⟨zr, zb⟩
       rw [if_pos c64] at H
       have c64b0 : decide (x71_3 < (l1_2.length : Int)) = true := decide_eq_true c64
       clear c64
       by_cases c65 : 0 ≤ x71_3
       rotate_left
       ·rw [if_neg c65] at H
        exact absurd H (by simp)
       rw [if_pos c65] at H
       have c65b0 : decide (0 ≤ x71_3) = true := decide_eq_true c65
       clear c65
       by_cases c66 : x71_3 < (l1_2.length : Int)
       rotate_left
       ·rw [if_neg c66] at H
        exact absurd H (by simp)
       rw [if_pos c66] at H
       have c66b0 : decide (x71_3 < (l1_2.length : Int)) = true := decide_eq_true c66
       clear c66
       replace H := Option.bind_eq_some_iff.mp H
       obtain ⟨t159, A670, H⟩ := H
       replace H : (if t159 = true then (z0z.l1 k3 l1_2 (l1_2.length : Int) (wrap64 (x71_3 + 1)) l0_0 l0_1 a1_0 l1_1 l1_2 l1_3 l1_4 a1_5 a1_6) else (some 70)) = some r := H
       have A67 := z0a.mk A670
       clear A670
       by_cases c68 : t159 = true
       rotate_left
       ·replace c68 := Bool.eq_false_iff.mpr c68
        subst c68
        have H1 : (some 70) = some r := by rw [if_neg (show ¬ (false = true) by decide)] at H; exact H
        clear H
        have H := H1
        clear H1
        obtain rfl := Option.some.inj H
        have p157 : 0 ≤ (x71_3 : Int) := za
        have q157 : x71_3 < (l1_2.length : Int) := za
        obtain ⟨ad157, e157, y2q, y2r, y2s, y2t⟩ := y4x x1d.out x71_3 p157 q157
        cases e157
        replace y2q := zx HB y2q
        replace y2r := zx HB y2r
        replace y2s := zx HB y2s
        replace y2t := zx HB y2t
        replace p157 := eq_true p157
        replace q157 := eq_true q157
        go_wp2_with (first | ((with_reducible refine z0o (N := 9) rfl ?_); refine zo (cs := #[.int .i32 0, .int .i64 0, .int .u32 0, .int .u32 0]) (t := 56) ?_; intro w0b hg w77 hbox hb; have y8R := z0a.mk hbox; have GW158 := zG HB hg; have GE158 := zG HB hg; have z3P := zN z2a hg; have y2u := zM z2a hg; have z3Q := zN z1Y hg; have y2v := zM z1Y hg; replace z2a := zK z2a hb; replace z1Y := zK z1Y hb; replace HB := zB HB hb; clear hb hbox hg; have hnb78 := y2u.out; have hnc78 := z3P.out; have hnb79 := y2v.out; have hnc79 := z3Q.out; obtain ⟨hcz80_0, hcz80_1, hcz80_2, hcz80_3, hfz80_0, hfz80_1, hfz80_2, hfz80_3⟩ := zc4 w77 y8R.out; have hnb81 := z2y.out; have hnc81 := z2z.out; obtain ⟨hcz82_0, hcz82_1, hfz82_0, hfz82_1⟩ := zc2 w77 z2a.out; obtain ⟨w0c, hcz83_1, hcz83_2, hcz83_3, hcz83_4, hcz83_5, hcz83_6, w0d, hfz83_1, hfz83_2, hfz83_3, hfz83_4, hfz83_5, hfz83_6⟩ := zc7 w77 z1Y.out) | ((with_reducible refine z0m (f := 143) rfl ?_); refine z1a (some 80) rfl rfl Tryz.func143 (by kernel_rfl) rfl #[.agg #[.slice z0U l0_0.length c0_0, .slice z0X l0_1.length c0_1], .agg #[.int .i32 ((z1y l1_2 x71_3).f0), .int .i64 ((z1y l1_2 x71_3).f1), .int .u32 ((z1y l1_2 x71_3).f2), .int .u32 ((z1y l1_2 x71_3).f3)], .int .i64 (l1_1.length : Int)] rfl zq ?_; (with_reducible refine (z5w.calls _ _ l0_0 _ _ l0_1 ((z1y l1_2 x71_3).f0) ((z1y l1_2 x71_3).f1) ((z1y l1_2 x71_3).f2) ((z1y l1_2 x71_3).f3) (l1_1.length : Int) false _ ?z0M z1g.out ?z0Q z1j.out A67.out).mono ?_); (case z0M => exact Kd.z0t z2g.out zb); (case z0Q => exact Kd.z0t z2x.out zb); rintro e w84 ⟨rfl, hb⟩; refine ⟨_, rfl, ?_⟩; replace z2a := z0a.mk (z0O (g := y7f) (o := .cells #[.slice z0U l0_0.length c0_0, .slice z0X l0_1.length c0_1] 25 (0, 0)) (by (with_reducible repeat (first | refine z0c ?_ _ | refine z0e ?_ | refine z0b ?_ _)); refine z0n ?_ z3P.out _; (with_reducible repeat (first | refine z0c ?_ _ | refine z0e ?_ | refine z0b ?_ _)); refine z0n ?_ z3P.out _; (with_reducible repeat (first | refine z0c ?_ _ | refine z0e ?_ | refine z0b ?_ _)); refine z0n ?_ z3P.out _; (with_reducible repeat (first | refine z0c ?_ _ | refine z0e ?_ | refine z0b ?_ _)); refine z0n ?_ z3P.out _; (with_reducible repeat (first | refine z0c ?_ _ | refine z0e ?_ | refine z0b ?_ _)); exact z2a.out) hb); replace z1Y := z0a.mk (z0O (g := y7g) (o := .cells #[.string a1_0, .slice y0m l1_1.length c1_1, .slice (some ad157) l1_2.length c1_2, .slice z6H l1_3.length c1_3, .slice z8R l1_4.length c1_4, .int .u8 a1_5, .bool a1_6] 51 (0, 0)) (by (with_reducible repeat (first | refine z0c ?_ _ | refine z0e ?_ | refine z0b ?_ _)); refine z0n ?_ z3Q.out _; (with_reducible repeat (first | refine z0c ?_ _ | refine z0e ?_ | refine z0b ?_ _)); refine z0n ?_ z3Q.out _; (with_reducible repeat (first | refine z0c ?_ _ | refine z0e ?_ | refine z0b ?_ _)); refine z0n ?_ z3Q.out _; (with_reducible repeat (first | refine z0c ?_ _ | refine z0e ?_ | refine z0b ?_ _)); refine z0n ?_ z3Q.out _; (with_reducible repeat (first | refine z0c ?_ _ | refine z0e ?_ | refine z0b ?_ _)); exact z1Y.out) hb); replace y8R := z0a.mk (z0O (g := w0b) (o := .cells #[.int .i32 ((z1y l1_2 x71_3).f0), .int .i64 ((z1y l1_2 x71_3).f1), .int .u32 ((z1y l1_2 x71_3).f2), .int .u32 ((z1y l1_2 x71_3).f3)] 56 (0, 0)) (by (with_reducible repeat (first | refine z0c ?_ _ | refine z0e ?_ | refine z0b ?_ _)); refine z0N (cs := #[.int .i32 ((z1y l1_2 x71_3).f0), .int .i64 ((z1y l1_2 x71_3).f1), .int .u32 ((z1y l1_2 x71_3).f2), .int .u32 0]) ?_ 3 _ rfl; (with_reducible repeat (first | refine z0c ?_ _ | refine z0e ?_ | refine z0b ?_ _)); refine z0N (cs := #[.int .i32 ((z1y l1_2 x71_3).f0), .int .i64 ((z1y l1_2 x71_3).f1), .int .u32 0, .int .u32 0]) ?_ 2 _ rfl; (with_reducible repeat (first | refine z0c ?_ _ | refine z0e ?_ | refine z0b ?_ _)); refine z0N (cs := #[.int .i32 ((z1y l1_2 x71_3).f0), .int .i64 0, .int .u32 0, .int .u32 0]) ?_ 1 _ rfl; (with_reducible repeat (first | refine z0c ?_ _ | refine z0e ?_ | refine z0b ?_ _)); refine z0N (cs := #[.int .i32 0, .int .i64 0, .int .u32 0, .int .u32 0]) ?_ 0 _ rfl; (with_reducible repeat (first | refine z0c ?_ _ | refine z0e ?_ | refine z0b ?_ _)); exact y8R.out) hb); replace HB := zB HB hb; (try clear hb)))
        go_ret
        exact ⟨zr, zb⟩
       subst c68
       have H1 : (z0z.l1 k3 l1_2 (l1_2.length : Int) (wrap64 (x71_3 + 1)) l0_0 l0_1 a1_0 l1_1 l1_2 l1_3 l1_4 a1_5 a1_6) = some r := by rw [if_pos rfl] at H; exact H
       clear H
       have H := H1
       clear H1
       have H' := z0a.mk H
       clear H
       have p157 : 0 ≤ (x71_3 : Int) := za
       have q157 : x71_3 < (l1_2.length : Int) := za
       obtain ⟨ad157, e157, y2q, y2r, y2s, y2t⟩ := y4x x1d.out x71_3 p157 q157
       cases e157
       replace y2q := zx HB y2q
       replace y2r := zx HB y2r
       replace y2s := zx HB y2s
       replace y2t := zx HB y2t
       replace p157 := eq_true p157
       replace q157 := eq_true q157
       go_wp2_with (first | ((with_reducible refine z0o (N := 9) rfl ?_); refine zo (cs := #[.int .i32 0, .int .i64 0, .int .u32 0, .int .u32 0]) (t := 56) ?_; intro w0b hg w69 hbox hb; have y8R := z0a.mk hbox; have GW158 := zG HB hg; have GE158 := zG HB hg; have z3P := zN z2a hg; have y2u := zM z2a hg; have z3Q := zN z1Y hg; have y2v := zM z1Y hg; replace z2a := zK z2a hb; replace z1Y := zK z1Y hb; replace HB := zB HB hb; clear hb hbox hg; have hnb70 := y2u.out; have hnc70 := z3P.out; have hnb71 := y2v.out; have hnc71 := z3Q.out; obtain ⟨hcz72_0, hcz72_1, hcz72_2, hcz72_3, hfz72_0, hfz72_1, hfz72_2, hfz72_3⟩ := zc4 w69 y8R.out; have hnb73 := z2y.out; have hnc73 := z2z.out; obtain ⟨w0e, w0f, w0g, w0h⟩ := zc2 w69 z2a.out; obtain ⟨hcz75_0, hcz75_1, hcz75_2, hcz75_3, hcz75_4, hcz75_5, hcz75_6, hfz75_0, hfz75_1, hfz75_2, hfz75_3, hfz75_4, hfz75_5, hfz75_6⟩ := zc7 w69 z1Y.out) | ((with_reducible refine z0m (f := 143) rfl ?_); refine z1a (some 80) rfl rfl Tryz.func143 (by kernel_rfl) rfl #[.agg #[.slice z0U l0_0.length c0_0, .slice z0X l0_1.length c0_1], .agg #[.int .i32 ((z1y l1_2 x71_3).f0), .int .i64 ((z1y l1_2 x71_3).f1), .int .u32 ((z1y l1_2 x71_3).f2), .int .u32 ((z1y l1_2 x71_3).f3)], .int .i64 (l1_1.length : Int)] rfl zq ?_; (with_reducible refine (z5w.calls _ _ l0_0 _ _ l0_1 ((z1y l1_2 x71_3).f0) ((z1y l1_2 x71_3).f1) ((z1y l1_2 x71_3).f2) ((z1y l1_2 x71_3).f3) (l1_1.length : Int) true _ ?z0M z1g.out ?z0Q z1j.out A67.out).mono ?_); (case z0M => exact Kd.z0t z2g.out zb); (case z0Q => exact Kd.z0t z2x.out zb); rintro e w76 ⟨rfl, hb⟩; refine ⟨_, rfl, ?_⟩; replace z2a := z0a.mk (z0O (g := y7f) (o := .cells #[.slice z0U l0_0.length c0_0, .slice z0X l0_1.length c0_1] 25 (0, 0)) (by (with_reducible repeat (first | refine z0c ?_ _ | refine z0e ?_ | refine z0b ?_ _)); refine z0n ?_ z3P.out _; (with_reducible repeat (first | refine z0c ?_ _ | refine z0e ?_ | refine z0b ?_ _)); refine z0n ?_ z3P.out _; (with_reducible repeat (first | refine z0c ?_ _ | refine z0e ?_ | refine z0b ?_ _)); refine z0n ?_ z3P.out _; (with_reducible repeat (first | refine z0c ?_ _ | refine z0e ?_ | refine z0b ?_ _)); refine z0n ?_ z3P.out _; (with_reducible repeat (first | refine z0c ?_ _ | refine z0e ?_ | refine z0b ?_ _)); exact z2a.out) hb); replace z1Y := z0a.mk (z0O (g := y7g) (o := .cells #[.string a1_0, .slice y0m l1_1.length c1_1, .slice (some ad157) l1_2.length c1_2, .slice z6H l1_3.length c1_3, .slice z8R l1_4.length c1_4, .int .u8 a1_5, .bool a1_6] 51 (0, 0)) (by (with_reducible repeat (first | refine z0c ?_ _ | refine z0e ?_ | refine z0b ?_ _)); refine z0n ?_ z3Q.out _; (with_reducible repeat (first | refine z0c ?_ _ | refine z0e ?_ | refine z0b ?_ _)); refine z0n ?_ z3Q.out _; (with_reducible repeat (first | refine z0c ?_ _ | refine z0e ?_ | refine z0b ?_ _)); refine z0n ?_ z3Q.out _; (with_reducible repeat (first | refine z0c ?_ _ | refine z0e ?_ | refine z0b ?_ _)); refine z0n ?_ z3Q.out _; (with_reducible repeat (first | refine z0c ?_ _ | refine z0e ?_ | refine z0b ?_ _)); exact z1Y.out) hb); replace y8R := z0a.mk (z0O (g := w0b) (o := .cells #[.int .i32 ((z1y l1_2 x71_3).f0), .int .i64 ((z1y l1_2 x71_3).f1), .int .u32 ((z1y l1_2 x71_3).f2), .int .u32 ((z1y l1_2 x71_3).f3)] 56 (0, 0)) (by (with_reducible repeat (first | refine z0c ?_ _ | refine z0e ?_ | refine z0b ?_ _)); refine z0N (cs := #[.int .i32 ((z1y l1_2 x71_3).f0), .int .i64 ((z1y l1_2 x71_3).f1), .int .u32 ((z1y l1_2 x71_3).f2), .int .u32 0]) ?_ 3 _ rfl; (with_reducible repeat (first | refine z0c ?_ _ | refine z0e ?_ | refine z0b ?_ _)); refine z0N (cs := #[.int .i32 ((z1y l1_2 x71_3).f0), .int .i64 ((z1y l1_2 x71_3).f1), .int .u32 0, .int .u32 0]) ?_ 2 _ rfl; (with_reducible repeat (first | refine z0c ?_ _ | refine z0e ?_ | refine z0b ?_ _)); refine z0N (cs := #[.int .i32 ((z1y l1_2 x71_3).f0), .int .i64 0, .int .u32 0, .int .u32 0]) ?_ 1 _ rfl; (with_reducible repeat (first | refine z0c ?_ _ | refine z0e ?_ | refine z0b ?_ _)); refine z0N (cs := #[.int .i32 0, .int .i64 0, .int .u32 0, .int .u32 0]) ?_ 0 _ rfl; (with_reducible repeat (first | refine z0c ?_ _ | refine z0e ?_ | refine z0b ?_ _)); exact y8R.out) hb); replace HB := zB HB hb; (try clear hb)))
       go_roundg k3
       case measure => have := HJ4.out; have := HK2.out; have := HK3.out; omega
       case rel => exact ⟨(wrap64 (x71_3 + 1)), ze, H', ⟨by have := HJ4.out; have := HK2.out; have := HK3.out; omega⟩, ⟨zk⟩, ⟨zk⟩, ⟨zb⟩⟩
def z1M.l0 : Nat → List (S51) → Int → Int → List ByteArray → List (z1J) → Option (Int)
 | 0, _, _, _, _, _ => none
 | k + 1, x17, x18, x19, x3Z, x4a => if x19 < x18 then (if 0 ≤ x19 then (if x19 < (x17.length : Int) then ((z0z.f k x3Z x4a ((z0K x17 x19).f0) ((z0K x17 x19).f1) ((z0K x17 x19).f2) ((z0K x17 x19).f3.f0) ((z0K x17 x19).f4.f0) ((z0K x17 x19).f5) ((z0K x17 x19).f6)).bind fun t166 => (if t166 = 0 then (z1M.l0 k x17 x18 (wrap64 (x19 + 1)) x3Z x4a) else (some t166))) else (none)) else (none)) else (some 0)
def z1M.f (k : Nat) (l0_0 : List ByteArray) (l0_1 : List (z1J)) (l1 : List (S51)) : Option (Int) := (z0T.f l0_0 l0_1).bind fun t163 => (if t163 = 0 then (if (l1.length : Int) > 64 then (some 4) else (z1M.l0 k l1 (l1.length : Int) 0 l0_0 l0_1)) else (some t163))
theorem z1M.z1t : ∀ k, (∀ y0 y1 y2 y3 y4, LeO (z1M.l0 k y0 y1 y2 y3 y4) (z1M.l0 (k + 1) y0 y1 y2 y3 y4))
 | 0 => fun _ _ _ _ _ r h => by simp [z1M.l0] at h
 | k + 1 => by
  have ih0 := z1M.z1t k
  ·intro y0 y1 y2 y3 y4
   unfold z1M.l0
   repeat' first
   | (with_reducible exact ih0 _ _ _ _ _)
   | (with_reducible exact z0z.mono _ _ _ _ _ _ _ _ _ _)
   | (with_reducible exact LeO.refl _)
   | (with_reducible exact LeO.none _)
   | (with_reducible refine LeO.ite ?_ ?_)
   | (with_reducible refine LeO.bind ?_ (fun _ => ?_))
theorem z1M.mono : ∀ a0 a1 a2 k, LeO (z1M.f k a0 a1 a2) (z1M.f (k + 1) a0 a1 a2) := by
 intro a0 a1 a2 k
 have ih0 := z1M.z1t k
 unfold z1M.f
 repeat' first
   | (with_reducible exact ih0 _ _ _ _ _)
   | (with_reducible exact z0z.mono _ _ _ _ _ _ _ _ _ _)
   | (with_reducible exact LeO.refl _)
   | (with_reducible exact LeO.none _)
   | (with_reducible refine LeO.ite ?_ ?_)
   | (with_reducible refine LeO.bind ?_ (fun _ => ?_))
set_option maxHeartbeats 8000000 in
set_option maxRecDepth 100000 in
theorem z1M.calls (k : Nat) (z0U : Option Addr) (c0_0 : Nat) (l0_0 : List ByteArray) (z0X : Option Addr) (c0_1 : Nat) (l0_1 : List (z1J)) (A1 : Option Addr) (c1 : Nat) (l1 : List (S51)) (r : Int) (w : World) (hr0_0 : Kd.C Kd.string w z0U l0_0.length l0_0) (hc0_0 : l0_0.length ≤ c0_0) (hr0_1 : Kd.C z5a w z0X l0_1.length l0_1) (hc0_1 : l0_1.length ≤ c0_1) (hr1 : Kd.C k51 w A1 l1.length l1) (hc1 : l1.length ≤ c1) (h : z1M.f k l0_0 l0_1 l1 = some r) :
  Calls Tryz.prog 80 #[.agg #[.slice z0U l0_0.length c0_0, .slice z0X l0_1.length c0_1], .slice A1 l1.length c1] w fun e w' => e = .returned (.int .i64 r) ∧ Below w.heap.size w w' := by
 have hu25 := Tryz.underlying25
 have hu51 := Tryz.underlying51
 have z2g := z0a.mk hr0_0
 have z1g := z0a.mk hc0_0
 clear hr0_0 hc0_0
 have z2x := z0a.mk hr0_1
 have z1j := z0a.mk hc0_1
 clear hr0_1 hc0_1
 have HR1 := z0a.mk hr1
 have HC1 := z0a.mk hc1
 clear hr1 hc1
 have HB := z0a.mk (Below.refl w.heap.size w)
 have H : ((z0T.f l0_0 l0_1).bind fun t163 => (if t163 = 0 then (if (l1.length : Int) > 64 then (some 4) else (z1M.l0 k l1 (l1.length : Int) 0 l0_0 l0_1)) else (some t163))) = some r := h
 clear h
 replace H := Option.bind_eq_some_iff.mp H
 obtain ⟨t163, A30, H⟩ := H
 replace H : (if t163 = 0 then (if (l1.length : Int) > 64 then (some 4) else (z1M.l0 k l1 (l1.length : Int) 0 l0_0 l0_1)) else (some t163)) = some r := H
 have A3 := z0a.mk A30
 clear A30
 by_cases c4 : t163 = 0
 rotate_left
 ·rw [if_neg c4] at H
  have c4b0 : (t163 == 0) = false := beq_eq_false_iff_ne.mpr c4
  have c4b1 : (t163 != 0) = true := bne_iff_ne.mpr c4
  obtain rfl := Option.some.inj H
  go_enter Tryz.func80, Tryz.ntmps80
  go_wp2_with (first | ((with_reducible refine z0o (N := 2) rfl ?_); refine zo (cs := #[.slice z0U l0_0.length c0_0, .slice z0X l0_1.length c0_1]) (t := 25) ?_; intro x4b hg w27 hbox hb; have z5c := z0a.mk hbox; have w2M := zG HB hg; have w2N := zG HB hg; replace HB := zB HB hb; clear hb hbox hg; obtain ⟨y1R, y5n, y1S, y5o⟩ := zc2 w27 z5c.out) | ((with_reducible refine z0m (f := 78) rfl ?_); refine z1a (some 10) rfl rfl Tryz.func78 (by kernel_rfl) rfl #[.agg #[.slice z0U l0_0.length c0_0, .slice z0X l0_1.length c0_1]] rfl zq ?_; (with_reducible refine (z0T.calls _ _ l0_0 _ _ l0_1 t163 _ ?z0M z1g.out ?z0Q z1j.out A3.out).mono ?_); (case z0M => exact zs); (case z0Q => exact zs); rintro e w29 ⟨rfl, hb⟩; refine ⟨_, rfl, ?_⟩; replace z5c := zK z5c hb; replace HB := zB HB hb; (try clear hb)))
  go_ret
  exact ⟨zr, zb⟩
 rw [if_pos c4] at H
 have c4b0 : (t163 == 0) = true := beq_iff_eq.mpr c4
 have c4b1 : (t163 != 0) = false := bne_eq_false_iff_eq.mpr c4
 clear c4
 by_cases c5 : (l1.length : Int) > 64
 ·rw [if_pos c5] at H
  have c5b0 : decide (64 < (l1.length : Int)) = true := decide_eq_true c5
  have c5b1 : decide (64 < l1.length) = true := decide_eq_true (by omega)
  clear c5
  obtain rfl := Option.some.inj H
  go_enter Tryz.func80, Tryz.ntmps80
  go_wp2_with (first | ((with_reducible refine z0o (N := 2) rfl ?_); refine zo (cs := #[.slice z0U l0_0.length c0_0, .slice z0X l0_1.length c0_1]) (t := 25) ?_; intro x4b hg w6 hbox hb; have z5c := z0a.mk hbox; have w2M := zG HB hg; have w2N := zG HB hg; replace HB := zB HB hb; clear hb hbox hg; obtain ⟨z4b, z4c, z4d, z4e⟩ := zc2 w6 z5c.out) | ((with_reducible refine z0m (f := 78) rfl ?_); refine z1a (some 10) rfl rfl Tryz.func78 (by kernel_rfl) rfl #[.agg #[.slice z0U l0_0.length c0_0, .slice z0X l0_1.length c0_1]] rfl zq ?_; (with_reducible refine (z0T.calls _ _ l0_0 _ _ l0_1 t163 _ ?z0M z1g.out ?z0Q z1j.out A3.out).mono ?_); (case z0M => exact zs); (case z0Q => exact zs); rintro e w8 ⟨rfl, hb⟩; refine ⟨_, rfl, ?_⟩; replace z5c := zK z5c hb; replace HB := zB HB hb; (try clear hb)))
  go_ret
  exact ⟨zr, zb⟩
 rw [if_neg c5] at H
 have c5b0 : decide (64 < (l1.length : Int)) = false := decide_eq_false c5
 have c5b1 : decide (64 < l1.length) = false := decide_eq_false (by omega)
 clear c5
 have H' := z0a.mk H
 clear H
 go_enter Tryz.func80, Tryz.ntmps80
 go_wp2_with (first | ((with_reducible refine z0o (N := 2) rfl ?_); refine zo (cs := #[.slice z0U l0_0.length c0_0, .slice z0X l0_1.length c0_1]) (t := 25) ?_; intro x4b hg w9 hbox hb; have z5c := z0a.mk hbox; have w2M := zG HB hg; have w2N := zG HB hg; replace HB := zB HB hb; clear hb hbox hg; obtain ⟨z6C, z6D, z6E, z6F⟩ := zc2 w9 z5c.out) | ((with_reducible refine z0m (f := 78) rfl ?_); refine z1a (some 10) rfl rfl Tryz.func78 (by kernel_rfl) rfl #[.agg #[.slice z0U l0_0.length c0_0, .slice z0X l0_1.length c0_1]] rfl zq ?_; (with_reducible refine (z0T.calls _ _ l0_0 _ _ l0_1 t163 _ ?z0M z1g.out ?z0Q z1j.out A3.out).mono ?_); (case z0M => exact zs); (case z0Q => exact zs); rintro e w11 ⟨rfl, hb⟩; refine ⟨_, rfl, ?_⟩; replace z5c := zK z5c hb; replace HB := zB HB hb; (try clear hb)))
 go_loopg [19] k (fun kq v19 w' => ∃ (x19_1 : Int), v19 = .int .i64 x19_1 ∧ z0a (z1M.l0 kq l1 (l1.length : Int) x19_1 l0_0 l0_1 = some r) ∧ z0a (kq ≤ k) ∧ z0a (w'.heap[x4b]? = some (.cells #[(.slice z0U l0_0.length c0_0), (.slice z0X l0_1.length c0_1)] 25 (0, 0))) ∧ z0a (Below w.heap.size w w'))
 case atStart => exact ⟨(0), ze, H', ⟨Nat.le_refl _⟩, ⟨zk⟩, ⟨zb⟩⟩
 case round =>
  clear H'
  try clear c1
  try clear c4
  try clear c4b0
  try clear c4b1
  try clear c5
  try clear c5b0
  try clear c5b1
  try clear z6C
  try clear z6D
  try clear z6E
  try clear z6F
  obtain ⟨x19_1, rfl, HA, HK1, z5c, HB⟩ := hrel
  cases gk with
  | zero => exact absurd HA.out (by simp [z1M.l0])
  | succ k1 =>
   have H := HA.out
   clear HA
   simp only [z1M.l0] at H
   by_cases c12 : x19_1 < (l1.length : Int)
   rotate_left
   ·rw [if_neg c12] at H
    have c12b0 : decide (x19_1 < (l1.length : Int)) = false := decide_eq_false c12
    clear c12
    obtain rfl := Option.some.inj H
    go_wp2
    go_ret
    exact ⟨zr, zb⟩
   rw [if_pos c12] at H
   have c12b0 : decide (x19_1 < (l1.length : Int)) = true := decide_eq_true c12
   clear c12
   by_cases c13 : 0 ≤ x19_1
   rotate_left
   ·rw [if_neg c13] at H
    exact absurd H (by simp)
   rw [if_pos c13] at H
   have c13b0 : decide (0 ≤ x19_1) = true := decide_eq_true c13
   clear c13
   by_cases c14 : x19_1 < (l1.length : Int)
   rotate_left
   ·rw [if_neg c14] at H
    exact absurd H (by simp)
   rw [if_pos c14] at H
   have c14b0 : decide (x19_1 < (l1.length : Int)) = true := decide_eq_true c14
   clear c14
   replace H := Option.bind_eq_some_iff.mp H
   obtain ⟨t166, A150, H⟩ := H
   replace H : (if t166 = 0 then (z1M.l0 k1 l1 (l1.length : Int) (wrap64 (x19_1 + 1)) l0_0 l0_1) else (some t166)) = some r := H
   have A15 := z0a.mk A150
   clear A150
   by_cases c16 : t166 = 0
   rotate_left
   ·rw [if_neg c16] at H
    have c16b0 : (t166 == 0) = false := beq_eq_false_iff_ne.mpr c16
    have c16b1 : (t166 != 0) = true := bne_iff_ne.mpr c16
    obtain rfl := Option.some.inj H
    have p164 : 0 ≤ (x19_1 : Int) := za
    have q164 : x19_1 < (l1.length : Int) := za
    obtain ⟨ad164, z5A, c164_1, z6q, c164_2, z8r, c164_3, y0b, c164_4, e164, y2w, y2x, y2y, y2z, y2A, y2B, y2C, y2D, y2E, y2F, y2G, y2H, y2I, y2J, y2K⟩ := y1K HR1.out x19_1 p164 q164
    cases e164
    replace y2w := zx HB y2w
    replace y2x := zx HB y2x
    replace y2y := zx HB y2y
    replace y2z := zx HB y2z
    replace y2A := zx HB y2A
    replace y2B := zx HB y2B
    replace y2C := zx HB y2C
    have y8S := z0a.mk y2E
    have y8T := z0a.mk y2D
    clear y2E y2D
    have y8U := z0a.mk y2G
    have y8V := z0a.mk y2F
    clear y2G y2F
    have y8W := z0a.mk y2I
    have y8X := z0a.mk y2H
    clear y2I y2H
    have y8Y := z0a.mk y2K
    have y8Z := z0a.mk y2J
    clear y2K y2J
    replace p164 := eq_true p164
    replace q164 := eq_true q164
    go_wp2_with (first | ((with_reducible refine z0o (N := 7) rfl ?_); refine zo (cs := #[.string (⟨#[]⟩ : ByteArray), .slice none 0 0, .slice none 0 0, .slice none 0 0, .slice none 0 0, .int .u8 0, .bool false]) (t := 51) ?_; intro w0i hg w22 hbox hb; have y9a := z0a.mk hbox; have GW165 := zG HB hg; have GE165 := zG HB hg; have z2K := zN z5c hg; have y2L := zM z5c hg; replace z5c := zK z5c hb; replace HB := zB HB hb; clear hb hbox hg; have hnb23 := y2L.out; have hnc23 := z2K.out; obtain ⟨x3v, x3w, x3x, x9c, x9d, hcz24_5, hcz24_6, x3y, x3z, x3A, x9e, x9f, hfz24_5, hfz24_6⟩ := zc7 w22 y9a.out; obtain ⟨x3L, x3M, x3N, x3O⟩ := zc2 w22 z5c.out) | ((with_reducible refine z0m (f := 114) rfl ?_); refine z1a (some 25) rfl rfl Tryz.func114 (by kernel_rfl) rfl #[.agg #[.slice z0U l0_0.length c0_0, .slice z0X l0_1.length c0_1], .agg #[.string ((z0K l1 x19_1).f0), .slice z5A ((z0K l1 x19_1).f1).length c164_1, .slice z6q ((z0K l1 x19_1).f2).length c164_2, .slice z8r ((z0K l1 x19_1).f3.f0).length c164_3, .slice y0b ((z0K l1 x19_1).f4.f0).length c164_4, .int .u8 ((z0K l1 x19_1).f5), .bool ((z0K l1 x19_1).f6)]] rfl zq ?_; (with_reducible refine (z0z.calls k1 _ _ l0_0 _ _ l0_1 ((z0K l1 x19_1).f0) _ _ ((z0K l1 x19_1).f1) _ _ ((z0K l1 x19_1).f2) _ _ ((z0K l1 x19_1).f3.f0) _ _ ((z0K l1 x19_1).f4.f0) ((z0K l1 x19_1).f5) ((z0K l1 x19_1).f6) t166 _ ?z0M z1g.out ?z0Q z1j.out ?z1z y8T.out ?z6I y8V.out ?y2M y8X.out ?z8s y8Z.out A15.out).mono ?_); (case z0M => exact Kd.z0t z2g.out zb); (case z0Q => exact Kd.z0t z2x.out zb); (case z1z => exact Kd.z0t y8S.out zb); (case z6I => exact Kd.z0t y8U.out zb); (case y2M => exact Kd.z0t y8W.out zb); (case z8s => exact Kd.z0t y8Y.out zb); rintro e w26 ⟨rfl, hb⟩; refine ⟨_, rfl, ?_⟩; replace z5c := z0a.mk (z0O (g := x4b) (o := .cells #[.slice z0U l0_0.length c0_0, .slice z0X l0_1.length c0_1] 25 (0, 0)) (by (with_reducible repeat (first | refine z0c ?_ _ | refine z0e ?_ | refine z0b ?_ _)); refine z0n ?_ z2K.out _; (with_reducible repeat (first | refine z0c ?_ _ | refine z0e ?_ | refine z0b ?_ _)); refine z0n ?_ z2K.out _; (with_reducible repeat (first | refine z0c ?_ _ | refine z0e ?_ | refine z0b ?_ _)); refine z0n ?_ z2K.out _; (with_reducible repeat (first | refine z0c ?_ _ | refine z0e ?_ | refine z0b ?_ _)); refine z0n ?_ z2K.out _; (with_reducible repeat (first | refine z0c ?_ _ | refine z0e ?_ | refine z0b ?_ _)); refine z0n ?_ z2K.out _; (with_reducible repeat (first | refine z0c ?_ _ | refine z0e ?_ | refine z0b ?_ _)); refine z0n ?_ z2K.out _; (with_reducible repeat (first | refine z0c ?_ _ | refine z0e ?_ | refine z0b ?_ _)); refine z0n ?_ z2K.out _; (with_reducible repeat (first | refine z0c ?_ _ | refine z0e ?_ | refine z0b ?_ _)); exact z5c.out) hb); replace y9a := z0a.mk (z0O (g := w0i) (o := .cells #[.string ((z0K l1 x19_1).f0), .slice z5A ((z0K l1 x19_1).f1).length c164_1, .slice z6q ((z0K l1 x19_1).f2).length c164_2, .slice z8r ((z0K l1 x19_1).f3.f0).length c164_3, .slice y0b ((z0K l1 x19_1).f4.f0).length c164_4, .int .u8 ((z0K l1 x19_1).f5), .bool ((z0K l1 x19_1).f6)] 51 (0, 0)) (by (with_reducible repeat (first | refine z0c ?_ _ | refine z0e ?_ | refine z0b ?_ _)); refine z0N (cs := #[.string ((z0K l1 x19_1).f0), .slice z5A ((z0K l1 x19_1).f1).length c164_1, .slice z6q ((z0K l1 x19_1).f2).length c164_2, .slice z8r ((z0K l1 x19_1).f3.f0).length c164_3, .slice y0b ((z0K l1 x19_1).f4.f0).length c164_4, .int .u8 ((z0K l1 x19_1).f5), .bool false]) ?_ 6 _ rfl; (with_reducible repeat (first | refine z0c ?_ _ | refine z0e ?_ | refine z0b ?_ _)); refine z0N (cs := #[.string ((z0K l1 x19_1).f0), .slice z5A ((z0K l1 x19_1).f1).length c164_1, .slice z6q ((z0K l1 x19_1).f2).length c164_2, .slice z8r ((z0K l1 x19_1).f3.f0).length c164_3, .slice y0b ((z0K l1 x19_1).f4.f0).length c164_4, .int .u8 0, .bool false]) ?_ 5 _ rfl; (with_reducible repeat (first | refine z0c ?_ _ | refine z0e ?_ | refine z0b ?_ _)); refine z0N (cs := #[.string ((z0K l1 x19_1).f0), .slice z5A ((z0K l1 x19_1).f1).length c164_1, .slice z6q ((z0K l1 x19_1).f2).length c164_2, .slice z8r ((z0K l1 x19_1).f3.f0).length c164_3, .slice none 0 0, .int .u8 0, .bool false]) ?_ 4 _ rfl; (with_reducible repeat (first | refine z0c ?_ _ | refine z0e ?_ | refine z0b ?_ _)); refine z0N (cs := #[.string ((z0K l1 x19_1).f0), .slice z5A ((z0K l1 x19_1).f1).length c164_1, .slice z6q ((z0K l1 x19_1).f2).length c164_2, .slice none 0 0, .slice none 0 0, .int .u8 0, .bool false]) ?_ 3 _ rfl; (with_reducible repeat (first | refine z0c ?_ _ | refine z0e ?_ | refine z0b ?_ _)); refine z0N (cs := #[.string ((z0K l1 x19_1).f0), .slice z5A ((z0K l1 x19_1).f1).length c164_1, .slice none 0 0, .slice none 0 0, .slice none 0 0, .int .u8 0, .bool false]) ?_ 2 _ rfl; (with_reducible repeat (first | refine z0c ?_ _ | refine z0e ?_ | refine z0b ?_ _)); refine z0N (cs := #[.string ((z0K l1 x19_1).f0), .slice none 0 0, .slice none 0 0, .slice none 0 0, .slice none 0 0, .int .u8 0, .bool false]) ?_ 1 _ rfl; (with_reducible repeat (first | refine z0c ?_ _ | refine z0e ?_ | refine z0b ?_ _)); refine z0N (cs := #[.string (⟨#[]⟩ : ByteArray), .slice none 0 0, .slice none 0 0, .slice none 0 0, .slice none 0 0, .int .u8 0, .bool false]) ?_ 0 _ rfl; (with_reducible repeat (first | refine z0c ?_ _ | refine z0e ?_ | refine z0b ?_ _)); exact y9a.out) hb); replace HB := zB HB hb; (try clear hb)))
    go_ret
    exact ⟨zr, zb⟩
   rw [if_pos c16] at H
   have c16b0 : (t166 == 0) = true := beq_iff_eq.mpr c16
   have c16b1 : (t166 != 0) = false := bne_eq_false_iff_eq.mpr c16
   clear c16
   have H' := z0a.mk H
   clear H
   have p164 : 0 ≤ (x19_1 : Int) := za
   have q164 : x19_1 < (l1.length : Int) := za
   obtain ⟨ad164, z5A, c164_1, z6q, c164_2, z8r, c164_3, y0b, c164_4, e164, y2w, y2x, y2y, y2z, y2A, y2B, y2C, y2D, y2E, y2F, y2G, y2H, y2I, y2J, y2K⟩ := y1K HR1.out x19_1 p164 q164
   cases e164
   replace y2w := zx HB y2w
   replace y2x := zx HB y2x
   replace y2y := zx HB y2y
   replace y2z := zx HB y2z
   replace y2A := zx HB y2A
   replace y2B := zx HB y2B
   replace y2C := zx HB y2C
   have y8S := z0a.mk y2E
   have y8T := z0a.mk y2D
   clear y2E y2D
   have y8U := z0a.mk y2G
   have y8V := z0a.mk y2F
   clear y2G y2F
   have y8W := z0a.mk y2I
   have y8X := z0a.mk y2H
   clear y2I y2H
   have y8Y := z0a.mk y2K
   have y8Z := z0a.mk y2J
   clear y2K y2J
   replace p164 := eq_true p164
   replace q164 := eq_true q164
   go_wp2_with (first | ((with_reducible refine z0o (N := 7) rfl ?_); refine zo (cs := #[.string (⟨#[]⟩ : ByteArray), .slice none 0 0, .slice none 0 0, .slice none 0 0, .slice none 0 0, .int .u8 0, .bool false]) (t := 51) ?_; intro w0i hg w17 hbox hb; have y9a := z0a.mk hbox; have GW165 := zG HB hg; have GE165 := zG HB hg; have z2K := zN z5c hg; have y2L := zM z5c hg; replace z5c := zK z5c hb; replace HB := zB HB hb; clear hb hbox hg; have hnb18 := y2L.out; have hnc18 := z2K.out; obtain ⟨z6A, z8e, z8f, y8b, x4c, w0j, w0k, z6B, z8g, z8h, y8c, x4d, w0l, w0m⟩ := zc7 w17 y9a.out; obtain ⟨z5x, z6a, z5y, z6b⟩ := zc2 w17 z5c.out) | ((with_reducible refine z0m (f := 114) rfl ?_); refine z1a (some 25) rfl rfl Tryz.func114 (by kernel_rfl) rfl #[.agg #[.slice z0U l0_0.length c0_0, .slice z0X l0_1.length c0_1], .agg #[.string ((z0K l1 x19_1).f0), .slice z5A ((z0K l1 x19_1).f1).length c164_1, .slice z6q ((z0K l1 x19_1).f2).length c164_2, .slice z8r ((z0K l1 x19_1).f3.f0).length c164_3, .slice y0b ((z0K l1 x19_1).f4.f0).length c164_4, .int .u8 ((z0K l1 x19_1).f5), .bool ((z0K l1 x19_1).f6)]] rfl zq ?_; (with_reducible refine (z0z.calls k1 _ _ l0_0 _ _ l0_1 ((z0K l1 x19_1).f0) _ _ ((z0K l1 x19_1).f1) _ _ ((z0K l1 x19_1).f2) _ _ ((z0K l1 x19_1).f3.f0) _ _ ((z0K l1 x19_1).f4.f0) ((z0K l1 x19_1).f5) ((z0K l1 x19_1).f6) t166 _ ?z0M z1g.out ?z0Q z1j.out ?z1z y8T.out ?z6I y8V.out ?y2M y8X.out ?z8s y8Z.out A15.out).mono ?_); (case z0M => exact Kd.z0t z2g.out zb); (case z0Q => exact Kd.z0t z2x.out zb); (case z1z => exact Kd.z0t y8S.out zb); (case z6I => exact Kd.z0t y8U.out zb); (case y2M => exact Kd.z0t y8W.out zb); (case z8s => exact Kd.z0t y8Y.out zb); rintro e w21 ⟨rfl, hb⟩; refine ⟨_, rfl, ?_⟩; replace z5c := z0a.mk (z0O (g := x4b) (o := .cells #[.slice z0U l0_0.length c0_0, .slice z0X l0_1.length c0_1] 25 (0, 0)) (by (with_reducible repeat (first | refine z0c ?_ _ | refine z0e ?_ | refine z0b ?_ _)); refine z0n ?_ z2K.out _; (with_reducible repeat (first | refine z0c ?_ _ | refine z0e ?_ | refine z0b ?_ _)); refine z0n ?_ z2K.out _; (with_reducible repeat (first | refine z0c ?_ _ | refine z0e ?_ | refine z0b ?_ _)); refine z0n ?_ z2K.out _; (with_reducible repeat (first | refine z0c ?_ _ | refine z0e ?_ | refine z0b ?_ _)); refine z0n ?_ z2K.out _; (with_reducible repeat (first | refine z0c ?_ _ | refine z0e ?_ | refine z0b ?_ _)); refine z0n ?_ z2K.out _; (with_reducible repeat (first | refine z0c ?_ _ | refine z0e ?_ | refine z0b ?_ _)); refine z0n ?_ z2K.out _; (with_reducible repeat (first | refine z0c ?_ _ | refine z0e ?_ | refine z0b ?_ _)); refine z0n ?_ z2K.out _; (with_reducible repeat (first | refine z0c ?_ _ | refine z0e ?_ | refine z0b ?_ _)); exact z5c.out) hb); replace y9a := z0a.mk (z0O (g := w0i) (o := .cells #[.string ((z0K l1 x19_1).f0), .slice z5A ((z0K l1 x19_1).f1).length c164_1, .slice z6q ((z0K l1 x19_1).f2).length c164_2, .slice z8r ((z0K l1 x19_1).f3.f0).length c164_3, .slice y0b ((z0K l1 x19_1).f4.f0).length c164_4, .int .u8 ((z0K l1 x19_1).f5), .bool ((z0K l1 x19_1).f6)] 51 (0, 0)) (by (with_reducible repeat (first | refine z0c ?_ _ | refine z0e ?_ | refine z0b ?_ _)); refine z0N (cs := #[.string ((z0K l1 x19_1).f0), .slice z5A ((z0K l1 x19_1).f1).length c164_1, .slice z6q ((z0K l1 x19_1).f2).length c164_2, .slice z8r ((z0K l1 x19_1).f3.f0).length c164_3, .slice y0b ((z0K l1 x19_1).f4.f0).length c164_4, .int .u8 ((z0K l1 x19_1).f5), .bool false]) ?_ 6 _ rfl; (with_reducible repeat (first | refine z0c ?_ _ | refine z0e ?_ | refine z0b ?_ _)); refine z0N (cs := #[.string ((z0K l1 x19_1).f0), .slice z5A ((z0K l1 x19_1).f1).length c164_1, .slice z6q ((z0K l1 x19_1).f2).length c164_2, .slice z8r ((z0K l1 x19_1).f3.f0).length c164_3, .slice y0b ((z0K l1 x19_1).f4.f0).length c164_4, .int .u8 0, .bool false]) ?_ 5 _ rfl; (with_reducible repeat (first | refine z0c ?_ _ | refine z0e ?_ | refine z0b ?_ _)); refine z0N (cs := #[.string ((z0K l1 x19_1).f0), .slice z5A ((z0K l1 x19_1).f1).length c164_1, .slice z6q ((z0K l1 x19_1).f2).length c164_2, .slice z8r ((z0K l1 x19_1).f3.f0).length c164_3, .slice none 0 0, .int .u8 0, .bool false]) ?_ 4 _ rfl; (with_reducible repeat (first | refine z0c ?_ _ | refine z0e ?_ | refine z0b ?_ _)); refine z0N (cs := #[.string ((z0K l1 x19_1).f0), .slice z5A ((z0K l1 x19_1).f1).length c164_1, .slice z6q ((z0K l1 x19_1).f2).length c164_2, .slice none 0 0, .slice none 0 0, .int .u8 0, .bool false]) ?_ 3 _ rfl; (with_reducible repeat (first | refine z0c ?_ _ | refine z0e ?_ | refine z0b ?_ _)); refine z0N (cs := #[.string ((z0K l1 x19_1).f0), .slice z5A ((z0K l1 x19_1).f1).length c164_1, .slice none 0 0, .slice none 0 0, .slice none 0 0, .int .u8 0, .bool false]) ?_ 2 _ rfl; (with_reducible repeat (first | refine z0c ?_ _ | refine z0e ?_ | refine z0b ?_ _)); refine z0N (cs := #[.string ((z0K l1 x19_1).f0), .slice none 0 0, .slice none 0 0, .slice none 0 0, .slice none 0 0, .int .u8 0, .bool false]) ?_ 1 _ rfl; (with_reducible repeat (first | refine z0c ?_ _ | refine z0e ?_ | refine z0b ?_ _)); refine z0N (cs := #[.string (⟨#[]⟩ : ByteArray), .slice none 0 0, .slice none 0 0, .slice none 0 0, .slice none 0 0, .int .u8 0, .bool false]) ?_ 0 _ rfl; (with_reducible repeat (first | refine z0c ?_ _ | refine z0e ?_ | refine z0b ?_ _)); exact y9a.out) hb); replace HB := zB HB hb; (try clear hb)))
   go_roundg k1
   case measure => have := HK1.out; omega
   case rel => exact ⟨(wrap64 (x19_1 + 1)), ze, H', ⟨by have := HK1.out; omega⟩, ⟨zk⟩, ⟨zb⟩⟩
end Go.Proofs.YtplkoabikliagaaGreatDoor.K
namespace Go.Proofs.YtplkoabikliagaaGreatDoor.K
open Go.RowKit Go.Proofs.YtplkoabikliagaaGreatDoorW.PrintWords Go.Proofs.YtplkoabikliagaaGreatDoorW.PrintLast Go.Proofs.YtplkoabikliagaaGreatDoorW.PrintMore
open Go.Proofs.YtplkoabikliagaaGreatDoor.L
def z4N (r : Nat) : Bool := !(decide (97 ≤ r) && decide (r ≤ 122)) && !(decide (48 ≤ r) && decide (r ≤ 57)) && !decide (r = 45)
def z1W.f (a0 : ByteArray) : Option (Bool) :=
 if a0.toList = ([] : List UInt8) then some false else if (a0.size : Int) ≤ 32 then some (!decide (0 ≤ Lib.idxFunc z4N true a0)) else some false
set_option maxHeartbeats 2000000 in
theorem x4e (w : World) : PredAt Tryz.prog 140 #[] encR z4N w := fun W r _ => by
 unfold FnGives
 have hcase : (r < 48 ∧ r ≠ 45) ∨ r = 45 ∨ (48 ≤ r ∧ r ≤ 57) ∨ (57 < r ∧ r < 97) ∨ (97 ≤ r ∧ r ≤ 122) ∨ 122 < r := by omega
 rcases hcase with ⟨h1, h2⟩ | h1 | ⟨h1, h2⟩ | ⟨h1, h2⟩ | ⟨h1, h2⟩ | h1
 ·have e : z4N r = true := by simp [z4N]; omega
  have d1 : decide ((r : Int) < 97) = true := by simp; omega
  have d2 : decide ((r : Int) < 48) = true := by simp; omega
  have d3 : ((r : Int) != 45) = true := by simp; omega
  rw [e]
  clear e h1 h2
  go_enter Tryz.func140, Tryz.ntmps140
  go_wp2
  go_ret
  exact ⟨rfl, 0, rfl⟩
 ·subst h1
  have e : z4N 45 = false := by decide
  rw [e]
  go_enter Tryz.func140, Tryz.ntmps140
  go_wp2
  go_ret
  exact ⟨rfl, 0, rfl⟩
 ·have e : z4N r = false := by simp [z4N]; omega
  have d1 : decide ((r : Int) < 97) = true := by simp; omega
  have d2 : decide ((r : Int) < 48) = false := by simp; omega
  have d3 : decide ((57 : Int) < (r : Int)) = false := by simp; omega
  rw [e]
  clear e h1 h2
  go_enter Tryz.func140, Tryz.ntmps140
  go_wp2
  go_ret
  exact ⟨rfl, 0, rfl⟩
 ·have e : z4N r = true := by simp [z4N]; omega
  have d1 : decide ((r : Int) < 97) = true := by simp; omega
  have d2 : decide ((r : Int) < 48) = false := by simp; omega
  have d3 : decide ((57 : Int) < (r : Int)) = true := by simp; omega
  have d4 : ((r : Int) != 45) = true := by simp; omega
  rw [e]
  clear e h1 h2
  go_enter Tryz.func140, Tryz.ntmps140
  go_wp2
  go_ret
  exact ⟨rfl, 0, rfl⟩
 ·have e : z4N r = false := by simp [z4N]; omega
  have d1 : decide ((r : Int) < 97) = false := by simp; omega
  have d2 : decide ((122 : Int) < (r : Int)) = false := by simp; omega
  rw [e]
  clear e h1 h2
  go_enter Tryz.func140, Tryz.ntmps140
  go_wp2
  go_ret
  exact ⟨rfl, 0, rfl⟩
 ·have e : z4N r = true := by simp [z4N]; omega
  have d1 : decide ((r : Int) < 97) = false := by simp; omega
  have d2 : decide ((122 : Int) < (r : Int)) = true := by simp; omega
  have d3 : decide ((r : Int) < 48) = false := by simp; omega
  have d4 : decide ((57 : Int) < (r : Int)) = true := by simp; omega
  have d5 : ((r : Int) != 45) = true := by simp; omega
  rw [e]
  clear e h1
  go_enter Tryz.func140, Tryz.ntmps140
  go_wp2
  go_ret
  exact ⟨rfl, 0, rfl⟩
set_option maxHeartbeats 2000000 in
theorem z1W.calls (a0 : ByteArray) (r : Bool) (w : World) (h : z1W.f a0 = some r) :
  Calls Tryz.prog 113 #[.string a0] w fun e w' => e = .returned (.bool r) ∧ Below w.heap.size w w' := by
 have hC := Tryz.strings_ContainsFunc 140 #[] (enters_of Tryz.func140 (by kernel_rfl) rfl) _ a0 w (x4e w)
 have HC := z0a.mk hC
 clear hC
 unfold z1W.f at h
 by_cases h1 : a0.toList = ([] : List UInt8)
 ·rw [if_pos h1] at h
  obtain rfl := Option.some.inj h
  go_enter Tryz.func113, Tryz.ntmps113
  go_wp2
  go_ret
  exact ⟨rfl, Below.refl _ _⟩
 ·rw [if_neg h1] at h
  by_cases h2 : (a0.size : Int) ≤ 32
  ·rw [if_pos h2] at h
   obtain rfl := Option.some.inj h
   clear h
   generalize hp : decide (0 ≤ Lib.idxFunc z4N true a0) = p at *
   clear hp
   have hd : decide ((a0.size : Int) ≤ 32) = true := by simpa using h2
   go_enter Tryz.func113, Tryz.ntmps113
   go_wp2_with (go_at_call 139; refine (HC.out).mono ?_; rintro e w1 ⟨rfl, hb⟩)
   go_ret
   exact ⟨by simp [h1], hb⟩
  ·rw [if_neg h2] at h
   obtain rfl := Option.some.inj h
   have hd : decide ((a0.size : Int) ≤ 32) = false := by simpa using h2
   go_enter Tryz.func113, Tryz.ntmps113
   go_wp2
   go_ret
   exact ⟨rfl, Below.refl _ _⟩
def z3W : Nat → List ByteArray → List S81 → Option Bool
 | _, _, [] => some true
 | i, seen, b :: r => if y1a seen b.f0 = true then some false else (z1W.f b.f0).bind fun ok => if ok = true then
   (if 0 < i ∧ (b.f1 < 0 ∨ (i : Int) ≤ b.f1) then some false else z3W (i + 1) (seen ++ [b.f0]) r) else some false
def z2h.f (l0 : List S81) : Option (Bool) :=
 match l0 with
 | [] => some false
 | b :: r => if (b :: r).length > 32 then some false else if b.f1 ≠ -1 then some false else if b.f2.length > 0 then some false else z3W 0 [] (b :: r)
theorem z6r (w : World) : (zeroValue 172).run Tryz.prog w = .ok (.agg #[]) w := by kernel_rfl
theorem kstr' : x6u Tryz.prog 9 Value.string := y4y Tryz.underlying9
set_option maxHeartbeats 8000000 in
set_option maxRecDepth 100000 in
theorem z2h.calls (A0 : Option Addr) (c0 : Nat) (l0 : List S81) (r : Bool) (w : World) (hr0 : Kd.C k81 w A0 l0.length l0) (hc0 : l0.length ≤ c0) (h : z2h.f l0 = some r) :
  Calls Tryz.prog 79 #[.slice A0 l0.length c0] w fun e w' => e = .returned (.bool r) ∧ Below w.heap.size w w' := by
 have HR := z0a.mk hr0
 clear hr0
 have hu39 := Tryz.underlying81
 unfold z2h.f at h
 cases l0 with
 | nil =>
  obtain rfl := Option.some.inj h
  go_enter Tryz.func79, Tryz.ntmps79
  go_wp2
  go_ret
  exact ⟨rfl, Below.refl _ _⟩
 | cons b0 rest =>
  simp only at h
  have hlen0 : ((b0 :: rest).length : Int) = (rest.length : Int) + 1 := by simp
  have hne : (((b0 :: rest).length : Int) == 0) = false := by rw [hlen0]; simp; omega
  by_cases h1 : (b0 :: rest).length > 32
  ·rw [if_pos h1] at h
   obtain rfl := Option.some.inj h
   have hd : decide ((32 : Int) < ((b0 :: rest).length : Int)) = true := by simp only [decide_eq_true_eq]; omega
   generalize (b0 :: rest) = l at *
   clear hlen0
   go_enter Tryz.func79, Tryz.ntmps79
   go_wp2
   go_ret
   exact ⟨rfl, Below.refl _ _⟩
  rw [if_neg h1] at h
  have hd1 : decide ((32 : Int) < ((b0 :: rest).length : Int)) = false := by simp only [decide_eq_false_iff_not]; omega
  obtain ⟨ad, A2, c2, hA, hx0, hx1, hx2, hx3⟩ := z3e HR.out (0 : Int) (by omega) (by rw [hlen0]; omega)
  subst hA
  have e0 : z0s (b0 :: rest) 0 = b0 := rfl
  rw [e0] at hx0 hx1 hx2 hx3
  simp only [Int.toNat_zero, Nat.zero_mul, show ad.add 0 = ad from rfl] at hx0 hx1 hx2
  have HX3 := z0a.mk hx3
  have hin : (0 : Int) < ((b0 :: rest).length : Int) := by rw [hlen0]; omega
  clear hx3 e0 hlen0
  generalize hl : (b0 :: rest) = l at *
  by_cases h2 : b0.f1 ≠ -1
  ·rw [if_pos h2] at h
   obtain rfl := Option.some.inj h
   have hd2 : (b0.f1 != -1) = true := by simpa using h2
   have HL := z0a.mk hl
   clear hl
   go_enter Tryz.func79, Tryz.ntmps79
   go_wp2
   go_ret
   exact ⟨rfl, Below.refl _ _⟩
  rw [if_neg h2] at h
  have hd2 : (b0.f1 != -1) = false := by simpa using h2
  clear h2
  by_cases h3 : b0.f2.length > 0
  ·rw [if_pos h3] at h
   obtain rfl := Option.some.inj h
   have hd3 : decide ((0 : Int) < (b0.f2.length : Int)) = true := by simp only [decide_eq_true_eq]; omega
   have HL := z0a.mk hl
   clear hl
   go_enter Tryz.func79, Tryz.ntmps79
   go_wp2
   go_ret
   exact ⟨rfl, Below.refl _ _⟩
  rw [if_neg h3] at h
  have hd3 : decide ((0 : Int) < (b0.f2.length : Int)) = false := by simp only [decide_eq_false_iff_not]; omega
  have hd4 : decide (0 < b0.f2.length) = false := decide_eq_false h3
  have H := z0a.mk h
  have hmm := @run_makeMap Tryz.prog
  have hn : l.length ≤ 32 := by omega
  clear h h1 h3 hl
  go_enter Tryz.func79, Tryz.ntmps79
  go_wp2
  clear hd4
  clear hx0 hx1 hx2 hd1 hd2 hd3 hne hin
  go_loopw [34] (fun i wr => ∃ k : Nat, ∃ seen : List ByteArray, k ≤ l.length ∧ i = .int .i64 k ∧ z0a (z9c Value.string (fun (_ : Unit) => Value.agg #[]) wr w.heap.size (setOf () seen)) ∧ z0a (Below w.heap.size w wr) ∧ z0a (z3W k seen (l.drop k) = some r)) (fun i _ => l.length - (intOf i).toNat)
  case atStart =>
   refine ⟨0, [], Nat.zero_le _, rfl, ⟨?_⟩, ⟨?_⟩, ⟨by simpa using H.out⟩⟩
   ·exact z9c.made Value.string (fun (_ : Unit) => Value.agg #[]) w
   ·exact (Below.refl _ _).alloc (by simp) _
  case round =>
   obtain ⟨k, seen, hk, rfl, HM, HBW, HF⟩ := hrel
   have hbw := HBW.out
   have hs3 : w.heap.size < wr.heap.size := HM.out.lt
   by_cases hlt : k < l.length
   ·obtain ⟨ad', A2', c2', hA', hy0, hy1, hy2, hy3⟩ := z3e (Kd.z0t HR.out hbw) (k : Int) (by omega) (by omega)
    obtain rfl := Option.some.inj hA'
    rw [Int.toNat_natCast] at hy0 hy1 hy2
    obtain ⟨x, hx⟩ : ∃ x, x = z0s l (k : Int) := ⟨_, rfl⟩
    rw [← hx] at hy0 hy1 hy2 hy3
    have hcons : l.drop k = x :: l.drop (k + 1) := by
     rw [hx, List.drop_eq_getElem_cons hlt]
     simp [z0s, List.getD_eq_getElem?_getD, hlt]
    have hF := HF.out
    rw [hcons] at hF
    unfold z3W at hF
    clear HF hx hcons hA'
    have HBE := z0a.mk (fun (o o' : Obj) => show Below w.heap.size w ((wr.alloc o).alloc o') from (hbw.alloc (by omega) o).alloc (by simp; omega) o')
    clear HBW hbw
    have HY3 := z0a.mk hy3
    clear hy3
    by_cases hmem : y1a seen x.f0 = true
    ·rw [if_pos hmem] at hF
     obtain rfl := Option.some.inj hF
     have hg : mhas (setOf () seen) x.f0 = true := by rw [y5e]; exact hmem
     clear hmem
     go_wp2_with (first | (at_lookup; refine z5b kstr' Tryz.underlying171 () (z6r _) (HM.out.alloc _) x.f0 rfl _ _ true rfl rfl rfl ?_))
     go_ret
     exact ⟨rfl, HBE.out (.cells #[.string x.f0, .int .i64 x.f1, .slice A2' x.f2.length c2'] 81) (.cells #[] 172)⟩
    ·rw [if_neg hmem] at hF
     have hm : y1a seen x.f0 = false := by simpa using hmem
     have hg : mhas (setOf () seen) x.f0 = false := by rw [y5e]; exact hm
     have HME := z0a.mk hm
     clear hmem hm
     cases hfn : z1W.f x.f0 with
     | none => rw [hfn] at hF; simp at hF
     | some q =>
      rw [hfn] at hF
      simp only [Option.bind_some] at hF
      have HFN := z0a.mk hfn
      clear hfn
      cases q with
      | false =>
       simp only [Bool.false_eq_true, if_false, Option.some.injEq] at hF
       subst hF
       go_wp2_with (first | (at_lookup; refine z5b kstr' Tryz.underlying171 () (z6r _) (HM.out.alloc _) x.f0 rfl _ _ true rfl rfl rfl ?_) | (go_at_call 113; refine (z1W.calls x.f0 false _ HFN.out).mono ?_; rintro e w4 ⟨rfl, hb4⟩; obtain ⟨hcc, hff⟩ := bcell hb4; have HB4 := z0a.mk hb4; clear hb4))
       go_ret
       exact ⟨rfl, (HBE.out (.cells #[.string x.f0, .int .i64 x.f1, .slice A2' x.f2.length c2'] 81) (.cells #[] 172)).trans (HB4.out.mono (by have := (HBE.out (.cells #[.string x.f0, .int .i64 x.f1, .slice A2' x.f2.length c2'] 81) (.cells #[] 172)).size; exact this))⟩
      | true =>
       simp only [if_true] at hF
       by_cases hk0 : 0 < k
       ·have hz1 : decide ((0 : Int) < (k : Int)) = true := by simp only [decide_eq_true_eq]; omega
        have hz2 : decide (0 < k) = true := decide_eq_true hk0
        by_cases hp0 : x.f1 < 0
        ·rw [if_pos ⟨hk0, .inl hp0⟩] at hF
         obtain rfl := Option.some.inj hF
         have hz3 : decide (x.f1 < 0) = true := decide_eq_true hp0
         clear hp0 hk0 hF
         go_wp2_with (first | (at_lookup; refine z5b kstr' Tryz.underlying171 () (z6r _) (HM.out.alloc _) x.f0 rfl _ _ true rfl rfl rfl ?_) | (go_at_call 113; refine (z1W.calls x.f0 true _ HFN.out).mono ?_; rintro e w4 ⟨rfl, hb4⟩; obtain ⟨hcc, hff⟩ := bcell hb4; have HB4 := z0a.mk hb4; clear hb4))
         go_ret
         exact ⟨rfl, (HBE.out (.cells #[.string x.f0, .int .i64 x.f1, .slice A2' x.f2.length c2'] 81) (.cells #[] 172)).trans (HB4.out.mono (by have := (HBE.out (.cells #[.string x.f0, .int .i64 x.f1, .slice A2' x.f2.length c2'] 81) (.cells #[] 172)).size; exact this))⟩
        ·have hz3 : decide (x.f1 < 0) = false := decide_eq_false hp0
         by_cases hp1 : (k : Int) ≤ x.f1
         ·rw [if_pos ⟨hk0, .inr hp1⟩] at hF
          obtain rfl := Option.some.inj hF
          have hz4 : decide ((k : Int) ≤ x.f1) = true := decide_eq_true hp1
          clear hp0 hp1 hk0 hF
          go_wp2_with (first | (at_lookup; refine z5b kstr' Tryz.underlying171 () (z6r _) (HM.out.alloc _) x.f0 rfl _ _ true rfl rfl rfl ?_) | (go_at_call 113; refine (z1W.calls x.f0 true _ HFN.out).mono ?_; rintro e w4 ⟨rfl, hb4⟩; obtain ⟨hcc, hff⟩ := bcell hb4; have HB4 := z0a.mk hb4; clear hb4))
          go_ret
          exact ⟨rfl, (HBE.out (.cells #[.string x.f0, .int .i64 x.f1, .slice A2' x.f2.length c2'] 81) (.cells #[] 172)).trans (HB4.out.mono (by have := (HBE.out (.cells #[.string x.f0, .int .i64 x.f1, .slice A2' x.f2.length c2'] 81) (.cells #[] 172)).size; exact this))⟩
         ·rw [if_neg (fun h => h.2.elim hp0 hp1)] at hF
          have HF3 := z0a.mk hF
          have hz4 : decide ((k : Int) ≤ x.f1) = false := decide_eq_false hp1
          clear hp0 hp1 hk0 hF
          go_wp2_with (first | (at_lookup; refine z5b kstr' Tryz.underlying171 () (z6r _) (HM.out.alloc _) x.f0 rfl _ _ true rfl rfl rfl ?_) | (go_at_call 113; refine (z1W.calls x.f0 true _ HFN.out).mono ?_; rintro e w4 ⟨rfl, hb4⟩; obtain ⟨hcc, hff⟩ := bcell hb4; have HB4 := z0a.mk hb4; clear hb4) | (at_mapUpdate; refine y5d kstr' Tryz.underlying171 (((HM.out.alloc _).alloc _).below HB4.out) x.f0 () rfl _ _ _ rfl rfl rfl rfl ?_; intro w5 hm5 hg5 hz5; have HM5 := z0a.mk hm5; have HG5 := z0a.mk hg5; clear hm5 hg5))
          have h4s : wr.heap.size + 2 ≤ w4.heap.size := by have := HB4.out.size; simpa using this
          go_roundw
          case rel =>
           refine ⟨k + 1, seen ++ [x.f0], by omega, by go_num, ⟨?_⟩, ⟨?_⟩, HF3⟩
           ·have := HM5.out
            rwa [y1t _ _ _ HME.out] at this
           ·exact ((HBE.out (.cells #[.string x.f0, .int .i64 x.f1, .slice A2' x.f2.length c2'] 81) (.cells #[] 172)).trans (HB4.out.mono (by have := (HBE.out (.cells #[.string x.f0, .int .i64 x.f1, .slice A2' x.f2.length c2'] 81) (.cells #[] 172)).size; exact this))).grown HG5.out (by omega) (fun j hj => by cases hj; exact Nat.le_refl _)
          case measure => simp [intOf]; omega
       ·rw [if_neg (fun h => hk0 h.1)] at hF
        have hz1 : decide ((0 : Int) < (k : Int)) = false := by simp only [decide_eq_false_iff_not]; omega
        have hz2 : decide (0 < k) = false := decide_eq_false hk0
        have HF3 := z0a.mk hF
        clear hk0 hF
        go_wp2_with (first | (at_lookup; refine z5b kstr' Tryz.underlying171 () (z6r _) (HM.out.alloc _) x.f0 rfl _ _ true rfl rfl rfl ?_) | (go_at_call 113; refine (z1W.calls x.f0 true _ HFN.out).mono ?_; rintro e w4 ⟨rfl, hb4⟩; obtain ⟨hcc, hff⟩ := bcell hb4; have HB4 := z0a.mk hb4; clear hb4) | (at_mapUpdate; refine y5d kstr' Tryz.underlying171 (((HM.out.alloc _).alloc _).below HB4.out) x.f0 () rfl _ _ _ rfl rfl rfl rfl ?_; intro w5 hm5 hg5 hz5; have HM5 := z0a.mk hm5; have HG5 := z0a.mk hg5; clear hm5 hg5))
        have h4s : wr.heap.size + 2 ≤ w4.heap.size := by have := HB4.out.size; simpa using this
        go_roundw
        case rel =>
         refine ⟨k + 1, seen ++ [x.f0], by omega, by go_num, ⟨?_⟩, ⟨?_⟩, HF3⟩
         ·have := HM5.out
          rwa [y1t _ _ _ HME.out] at this
         ·exact ((HBE.out (.cells #[.string x.f0, .int .i64 x.f1, .slice A2' x.f2.length c2'] 81) (.cells #[] 172)).trans (HB4.out.mono (by have := (HBE.out (.cells #[.string x.f0, .int .i64 x.f1, .slice A2' x.f2.length c2'] 81) (.cells #[] 172)).size; exact this))).grown HG5.out (by omega) (fun j hj => by cases hj; exact Nat.le_refl _)
        case measure => simp [intOf]; omega
   ·have hke : k = l.length := by omega
    have hF := HF.out
    rw [hke] at hF
    simp [z3W] at hF
    subst hF
    go_wp2
    go_ret
    exact ⟨rfl, HBW.out⟩
end Go.Proofs.YtplkoabikliagaaGreatDoor.K
namespace Go.Proofs.YtplkoabikliagaaGreatDoor.K
open Go.RowKit Go.Proofs.YtplkoabikliagaaGreatDoorW.PrintWords Go.Proofs.YtplkoabikliagaaGreatDoorW.PrintLast Go.Proofs.YtplkoabikliagaaGreatDoorW.PrintMore
attribute [local go_sem] z1o z1p z1B z1C z1b z1c z1q z1r
set_option linter.unusedVariables false
set_option linter.unusedSimpArgs false
def z0S.l0 : Nat → List (S81) → Int → Int → List ByteArray → List (z1J) → List (S81) → Option (Int)
 | 0, _, _, _, _, _, _ => none
 | k + 1, x18, x19, x20, x4f, x4g, w0n => if x20 < x19 then (if 0 ≤ x20 then (if x20 < (x18.length : Int) then ((z1M.f k x4f x4g ((z0s x18 x20).f2)).bind fun t172 => (if t172 = 0 then (z0S.l0 k x18 x19 (wrap64 (x20 + 1)) x4f x4g w0n) else (some t172))) else (none)) else (none)) else (some 0)
def z0S.f (k : Nat) (l0_0 : List ByteArray) (l0_1 : List (z1J)) (l0_2 : List (S81)) : Option (Int) := (z0T.f l0_0 l0_1).bind fun t168 => (if t168 = 0 then ((z2h.f l0_2).bind fun t169 => (if t169 = true then (z0S.l0 k l0_2 (l0_2.length : Int) 0 l0_0 l0_1 l0_2) else (some 270))) else (some t168))
theorem z0S.z1t : ∀ k, (∀ y0 y1 y2 y3 y4 y5, LeO (z0S.l0 k y0 y1 y2 y3 y4 y5) (z0S.l0 (k + 1) y0 y1 y2 y3 y4 y5))
 | 0 => fun _ _ _ _ _ _ r h => by simp [z0S.l0] at h
 | k + 1 => by
  have ih0 := z0S.z1t k
  ·intro y0 y1 y2 y3 y4 y5
   unfold z0S.l0
   repeat' first
   | (with_reducible exact ih0 _ _ _ _ _ _)
   | (with_reducible exact z1M.mono _ _ _ _)
   | (with_reducible exact LeO.refl _)
   | (with_reducible exact LeO.none _)
   | (with_reducible refine LeO.ite ?_ ?_)
   | (with_reducible refine LeO.bind ?_ (fun _ => ?_))
theorem z0S.mono : ∀ a0 a1 a2 k, LeO (z0S.f k a0 a1 a2) (z0S.f (k + 1) a0 a1 a2) := by
 intro a0 a1 a2 k
 have ih0 := z0S.z1t k
 unfold z0S.f
 repeat' first
   | (with_reducible exact ih0 _ _ _ _ _ _)
   | (with_reducible exact z1M.mono _ _ _ _)
   | (with_reducible exact LeO.refl _)
   | (with_reducible exact LeO.none _)
   | (with_reducible refine LeO.ite ?_ ?_)
   | (with_reducible refine LeO.bind ?_ (fun _ => ?_))
set_option maxHeartbeats 8000000 in
set_option maxRecDepth 100000 in
theorem z0S.calls (k : Nat) (z0U : Option Addr) (c0_0 : Nat) (l0_0 : List ByteArray) (z0X : Option Addr) (c0_1 : Nat) (l0_1 : List (z1J)) (z2c : Option Addr) (c0_2 : Nat) (l0_2 : List (S81)) (r : Int) (w : World) (hr0_0 : Kd.C Kd.string w z0U l0_0.length l0_0) (hc0_0 : l0_0.length ≤ c0_0) (hr0_1 : Kd.C z5a w z0X l0_1.length l0_1) (hc0_1 : l0_1.length ≤ c0_1) (hr0_2 : Kd.C k81 w z2c l0_2.length l0_2) (hc0_2 : l0_2.length ≤ c0_2) (h : z0S.f k l0_0 l0_1 l0_2 = some r) :
  Calls Tryz.prog 36 #[.agg #[.slice z0U l0_0.length c0_0, .slice z0X l0_1.length c0_1, .slice z2c l0_2.length c0_2]] w fun e w' => e = .returned (.int .i64 r) ∧ Below w.heap.size w w' := by
 have hu28 := Tryz.underlying28
 have hu25 := Tryz.underlying25
 have hu81 := Tryz.underlying81
 have z2g := z0a.mk hr0_0
 have z1g := z0a.mk hc0_0
 clear hr0_0 hc0_0
 have z2x := z0a.mk hr0_1
 have z1j := z0a.mk hc0_1
 clear hr0_1 hc0_1
 have z3X := z0a.mk hr0_2
 have z2T := z0a.mk hc0_2
 clear hr0_2 hc0_2
 have HB := z0a.mk (Below.refl w.heap.size w)
 have H : ((z0T.f l0_0 l0_1).bind fun t168 => (if t168 = 0 then ((z2h.f l0_2).bind fun t169 => (if t169 = true then (z0S.l0 k l0_2 (l0_2.length : Int) 0 l0_0 l0_1 l0_2) else (some 270))) else (some t168))) = some r := h
 clear h
 replace H := Option.bind_eq_some_iff.mp H
 obtain ⟨t168, A20, H⟩ := H
 replace H : (if t168 = 0 then ((z2h.f l0_2).bind fun t169 => (if t169 = true then (z0S.l0 k l0_2 (l0_2.length : Int) 0 l0_0 l0_1 l0_2) else (some 270))) else (some t168)) = some r := H
 have A2 := z0a.mk A20
 clear A20
 by_cases c3 : t168 = 0
 rotate_left
 ·rw [if_neg c3] at H
  have c3b0 : (t168 == 0) = false := beq_eq_false_iff_ne.mpr c3
  have c3b1 : (t168 != 0) = true := bne_iff_ne.mpr c3
  obtain rfl := Option.some.inj H
  go_enter Tryz.func36, Tryz.ntmps36
  go_wp2_with (first | ((with_reducible refine z0o (N := 1) rfl ?_); refine zo (cs := #[.slice z0U l0_0.length c0_0, .slice z0X l0_1.length c0_1, .slice z2c l0_2.length c0_2]) (t := 28) ?_; intro x4h hg w32 hbox hb; have z3Z := z0a.mk hbox; have w2O := zG HB hg; have w2P := zG HB hg; replace HB := zB HB hb; clear hb hbox hg; obtain ⟨y7T, y7U, y7V, y7W, y7X, y7Y⟩ := zc3 w32 z3Z.out) | ((with_reducible refine z0m (f := 78) rfl ?_); refine z1a (some 9) rfl rfl Tryz.func78 (by kernel_rfl) rfl #[.agg #[.slice z0U l0_0.length c0_0, .slice z0X l0_1.length c0_1]] rfl zq ?_; (with_reducible refine (z0T.calls _ _ l0_0 _ _ l0_1 t168 _ ?z0M z1g.out ?z0Q z1j.out A2.out).mono ?_); (case z0M => exact zs); (case z0Q => exact zs); rintro e w34 ⟨rfl, hb⟩; refine ⟨_, rfl, ?_⟩; replace z3Z := zK z3Z hb; replace HB := zB HB hb; (try clear hb)))
  go_ret
  exact ⟨zr, zb⟩
 rw [if_pos c3] at H
 have c3b0 : (t168 == 0) = true := beq_iff_eq.mpr c3
 have c3b1 : (t168 != 0) = false := bne_eq_false_iff_eq.mpr c3
 clear c3
 replace H := Option.bind_eq_some_iff.mp H
 obtain ⟨t169, A40, H⟩ := H
 replace H : (if t169 = true then (z0S.l0 k l0_2 (l0_2.length : Int) 0 l0_0 l0_1 l0_2) else (some 270)) = some r := H
 have A4 := z0a.mk A40
 clear A40
 by_cases c5 : t169 = true
 rotate_left
 ·replace c5 := Bool.eq_false_iff.mpr c5
  subst c5
  have H1 : (some 270) = some r := by rw [if_neg (show ¬ (false = true) by decide)] at H; exact H
  clear H
  have H := H1
  clear H1
  obtain rfl := Option.some.inj H
  go_enter Tryz.func36, Tryz.ntmps36
  go_wp2_with (first | ((with_reducible refine z0o (N := 1) rfl ?_); refine zo (cs := #[.slice z0U l0_0.length c0_0, .slice z0X l0_1.length c0_1, .slice z2c l0_2.length c0_2]) (t := 28) ?_; intro x4h hg w27 hbox hb; have z3Z := z0a.mk hbox; have w2O := zG HB hg; have w2P := zG HB hg; replace HB := zB HB hb; clear hb hbox hg; obtain ⟨y1R, y5n, w0o, y1S, y5o, w0p⟩ := zc3 w27 z3Z.out) | ((with_reducible refine z0m (f := 78) rfl ?_); refine z1a (some 9) rfl rfl Tryz.func78 (by kernel_rfl) rfl #[.agg #[.slice z0U l0_0.length c0_0, .slice z0X l0_1.length c0_1]] rfl zq ?_; (with_reducible refine (z0T.calls _ _ l0_0 _ _ l0_1 t168 _ ?z0M z1g.out ?z0Q z1j.out A2.out).mono ?_); (case z0M => exact zs); (case z0Q => exact zs); rintro e w29 ⟨rfl, hb⟩; refine ⟨_, rfl, ?_⟩; replace z3Z := zK z3Z hb; replace HB := zB HB hb; (try clear hb); obtain ⟨y5P, y8A, y8B, y5Q, y8C, y8D⟩ := zc3 w29 z3Z.out) | ((with_reducible refine z0m (f := 79) rfl ?_); refine z1a (some 15) rfl rfl Tryz.func79 (by kernel_rfl) rfl #[.slice z2c l0_2.length c0_2] rfl zq ?_; (with_reducible refine (z2h.calls _ _ l0_2 false _ ?z0M z2T.out A4.out).mono ?_); (case z0M => exact zs); rintro e w31 ⟨rfl, hb⟩; refine ⟨_, rfl, ?_⟩; replace z3Z := zK z3Z hb; replace HB := zB HB hb; (try clear hb)))
  go_ret
  exact ⟨zr, zb⟩
 subst c5
 have H1 : (z0S.l0 k l0_2 (l0_2.length : Int) 0 l0_0 l0_1 l0_2) = some r := by rw [if_pos rfl] at H; exact H
 clear H
 have H := H1
 clear H1
 have H' := z0a.mk H
 clear H
 go_enter Tryz.func36, Tryz.ntmps36
 go_wp2_with (first | ((with_reducible refine z0o (N := 1) rfl ?_); refine zo (cs := #[.slice z0U l0_0.length c0_0, .slice z0X l0_1.length c0_1, .slice z2c l0_2.length c0_2]) (t := 28) ?_; intro x4h hg w6 hbox hb; have z3Z := z0a.mk hbox; have w2O := zG HB hg; have w2P := zG HB hg; replace HB := zB HB hb; clear hb hbox hg; obtain ⟨z4b, z4c, z5U, z4d, z4e, z5V⟩ := zc3 w6 z3Z.out) | ((with_reducible refine z0m (f := 78) rfl ?_); refine z1a (some 9) rfl rfl Tryz.func78 (by kernel_rfl) rfl #[.agg #[.slice z0U l0_0.length c0_0, .slice z0X l0_1.length c0_1]] rfl zq ?_; (with_reducible refine (z0T.calls _ _ l0_0 _ _ l0_1 t168 _ ?z0M z1g.out ?z0Q z1j.out A2.out).mono ?_); (case z0M => exact zs); (case z0Q => exact zs); rintro e w8 ⟨rfl, hb⟩; refine ⟨_, rfl, ?_⟩; replace z3Z := zK z3Z hb; replace HB := zB HB hb; (try clear hb); obtain ⟨z5l, z5m, z9e, z5n, z5o, z9f⟩ := zc3 w8 z3Z.out) | ((with_reducible refine z0m (f := 79) rfl ?_); refine z1a (some 15) rfl rfl Tryz.func79 (by kernel_rfl) rfl #[.slice z2c l0_2.length c0_2] rfl zq ?_; (with_reducible refine (z2h.calls _ _ l0_2 true _ ?z0M z2T.out A4.out).mono ?_); (case z0M => exact zs); rintro e w10 ⟨rfl, hb⟩; refine ⟨_, rfl, ?_⟩; replace z3Z := zK z3Z hb; replace HB := zB HB hb; (try clear hb); obtain ⟨z3M, z6J, z6K, z3N, z6L, z6M⟩ := zc3 w10 z3Z.out))
 go_loopg [20] k (fun kq v20 w' => ∃ (x20_1 : Int), v20 = .int .i64 x20_1 ∧ z0a (z0S.l0 kq l0_2 (l0_2.length : Int) x20_1 l0_0 l0_1 l0_2 = some r) ∧ z0a (kq ≤ k) ∧ z0a (w'.heap[x4h]? = some (.cells #[(.slice z0U l0_0.length c0_0), (.slice z0X l0_1.length c0_1), (.slice z2c l0_2.length c0_2)] 28 (0, 0))) ∧ z0a (Below w.heap.size w w'))
 case atStart => exact ⟨(0), ze, H', ⟨Nat.le_refl _⟩, ⟨zk⟩, ⟨zb⟩⟩
 case round =>
  clear H'
  try clear c3
  try clear c3b0
  try clear c3b1
  try clear c5
  try clear z3M
  try clear z6J
  try clear z6K
  try clear z4b
  try clear z4c
  try clear z5U
  try clear z5l
  try clear z5m
  try clear z9e
  try clear z3N
  try clear z6L
  try clear z6M
  try clear z4d
  try clear z4e
  try clear z5V
  try clear z5n
  try clear z5o
  try clear z9f
  obtain ⟨x20_1, rfl, HA, HK1, z3Z, HB⟩ := hrel
  cases gk with
  | zero => exact absurd HA.out (by simp [z0S.l0])
  | succ k1 =>
   have H := HA.out
   clear HA
   simp only [z0S.l0] at H
   by_cases c12 : x20_1 < (l0_2.length : Int)
   rotate_left
   ·rw [if_neg c12] at H
    have c12b0 : decide (x20_1 < (l0_2.length : Int)) = false := decide_eq_false c12
    clear c12
    obtain rfl := Option.some.inj H
    go_wp2
    go_ret
    exact ⟨zr, zb⟩
   rw [if_pos c12] at H
   have c12b0 : decide (x20_1 < (l0_2.length : Int)) = true := decide_eq_true c12
   clear c12
   by_cases c13 : 0 ≤ x20_1
   rotate_left
   ·rw [if_neg c13] at H
    exact absurd H (by simp)
   rw [if_pos c13] at H
   have c13b0 : decide (0 ≤ x20_1) = true := decide_eq_true c13
   clear c13
   by_cases c14 : x20_1 < (l0_2.length : Int)
   rotate_left
   ·rw [if_neg c14] at H
    exact absurd H (by simp)
   rw [if_pos c14] at H
   have c14b0 : decide (x20_1 < (l0_2.length : Int)) = true := decide_eq_true c14
   clear c14
   replace H := Option.bind_eq_some_iff.mp H
   obtain ⟨t172, A150, H⟩ := H
   replace H : (if t172 = 0 then (z0S.l0 k1 l0_2 (l0_2.length : Int) (wrap64 (x20_1 + 1)) l0_0 l0_1 l0_2) else (some t172)) = some r := H
   have A15 := z0a.mk A150
   clear A150
   by_cases c16 : t172 = 0
   rotate_left
   ·rw [if_neg c16] at H
    have c16b0 : (t172 == 0) = false := beq_eq_false_iff_ne.mpr c16
    have c16b1 : (t172 != 0) = true := bne_iff_ne.mpr c16
    obtain rfl := Option.some.inj H
    have p170 : 0 ≤ (x20_1 : Int) := za
    have q170 : x20_1 < (l0_2.length : Int) := za
    obtain ⟨ad170, y7h, c170_2, e170, y2N, y2O, y2P, y2Q, y2R⟩ := z3e z3X.out x20_1 p170 q170
    cases e170
    replace y2N := zx HB y2N
    replace y2O := zx HB y2O
    replace y2P := zx HB y2P
    have y9b := z0a.mk y2R
    have y9c := z0a.mk y2Q
    clear y2R y2Q
    replace p170 := eq_true p170
    replace q170 := eq_true q170
    go_wp2_with (first | ((with_reducible refine z0o (N := 5) rfl ?_); refine zo (cs := #[.string (⟨#[]⟩ : ByteArray), .int .i64 0, .slice none 0 0]) (t := 81) ?_; intro w0q hg w22 hbox hb; have y9d := z0a.mk hbox; have GW171 := zG HB hg; have GE171 := zG HB hg; have z4O := zN z3Z hg; have y2S := zM z3Z hg; replace z3Z := zK z3Z hb; replace HB := zB HB hb; clear hb hbox hg; have hnb23 := y2S.out; have hnc23 := z4O.out; obtain ⟨x3v, x3w, x3x, x3y, x3z, x3A⟩ := zc3 w22 y9d.out; obtain ⟨x3L, x3M, x9D, x3N, x3O, x9E⟩ := zc3 w22 z3Z.out) | ((with_reducible refine z0m (f := 80) rfl ?_); refine z1a (some 28) rfl rfl Tryz.func80 (by kernel_rfl) rfl #[.agg #[.slice z0U l0_0.length c0_0, .slice z0X l0_1.length c0_1], .slice y7h ((z0s l0_2 x20_1).f2).length c170_2] rfl zq ?_; (with_reducible refine (z1M.calls k1 _ _ l0_0 _ _ l0_1 _ _ ((z0s l0_2 x20_1).f2) t172 _ ?z0M z1g.out ?z0Q z1j.out ?z1z y9c.out A15.out).mono ?_); (case z0M => exact Kd.z0t z2g.out zb); (case z0Q => exact Kd.z0t z2x.out zb); (case z1z => exact Kd.z0t y9b.out zb); rintro e w26 ⟨rfl, hb⟩; refine ⟨_, rfl, ?_⟩; replace z3Z := z0a.mk (z0O (g := x4h) (o := .cells #[.slice z0U l0_0.length c0_0, .slice z0X l0_1.length c0_1, .slice (some ad170) l0_2.length c0_2] 28 (0, 0)) (by (with_reducible repeat (first | refine z0c ?_ _ | refine z0e ?_ | refine z0b ?_ _)); refine z0n ?_ z4O.out _; (with_reducible repeat (first | refine z0c ?_ _ | refine z0e ?_ | refine z0b ?_ _)); refine z0n ?_ z4O.out _; (with_reducible repeat (first | refine z0c ?_ _ | refine z0e ?_ | refine z0b ?_ _)); refine z0n ?_ z4O.out _; (with_reducible repeat (first | refine z0c ?_ _ | refine z0e ?_ | refine z0b ?_ _)); exact z3Z.out) hb); replace y9d := z0a.mk (z0O (g := w0q) (o := .cells #[.string ((z0s l0_2 x20_1).f0), .int .i64 ((z0s l0_2 x20_1).f1), .slice y7h ((z0s l0_2 x20_1).f2).length c170_2] 81 (0, 0)) (by (with_reducible repeat (first | refine z0c ?_ _ | refine z0e ?_ | refine z0b ?_ _)); refine z0N (cs := #[.string ((z0s l0_2 x20_1).f0), .int .i64 ((z0s l0_2 x20_1).f1), .slice none 0 0]) ?_ 2 _ rfl; (with_reducible repeat (first | refine z0c ?_ _ | refine z0e ?_ | refine z0b ?_ _)); refine z0N (cs := #[.string ((z0s l0_2 x20_1).f0), .int .i64 0, .slice none 0 0]) ?_ 1 _ rfl; (with_reducible repeat (first | refine z0c ?_ _ | refine z0e ?_ | refine z0b ?_ _)); refine z0N (cs := #[.string (⟨#[]⟩ : ByteArray), .int .i64 0, .slice none 0 0]) ?_ 0 _ rfl; (with_reducible repeat (first | refine z0c ?_ _ | refine z0e ?_ | refine z0b ?_ _)); exact y9d.out) hb); replace HB := zB HB hb; (try clear hb)))
    go_ret
    exact ⟨zr, zb⟩
   rw [if_pos c16] at H
   have c16b0 : (t172 == 0) = true := beq_iff_eq.mpr c16
   have c16b1 : (t172 != 0) = false := bne_eq_false_iff_eq.mpr c16
   clear c16
   have H' := z0a.mk H
   clear H
   have p170 : 0 ≤ (x20_1 : Int) := za
   have q170 : x20_1 < (l0_2.length : Int) := za
   obtain ⟨ad170, y7h, c170_2, e170, y2N, y2O, y2P, y2Q, y2R⟩ := z3e z3X.out x20_1 p170 q170
   cases e170
   replace y2N := zx HB y2N
   replace y2O := zx HB y2O
   replace y2P := zx HB y2P
   have y9b := z0a.mk y2R
   have y9c := z0a.mk y2Q
   clear y2R y2Q
   replace p170 := eq_true p170
   replace q170 := eq_true q170
   go_wp2_with (first | ((with_reducible refine z0o (N := 5) rfl ?_); refine zo (cs := #[.string (⟨#[]⟩ : ByteArray), .int .i64 0, .slice none 0 0]) (t := 81) ?_; intro w0q hg w17 hbox hb; have y9d := z0a.mk hbox; have GW171 := zG HB hg; have GE171 := zG HB hg; have z4O := zN z3Z hg; have y2S := zM z3Z hg; replace z3Z := zK z3Z hb; replace HB := zB HB hb; clear hb hbox hg; have hnb18 := y2S.out; have hnc18 := z4O.out; obtain ⟨z6A, z8e, z8f, z6B, z8g, z8h⟩ := zc3 w17 y9d.out; obtain ⟨z5x, z6a, y2f, z5y, z6b, y2g⟩ := zc3 w17 z3Z.out) | ((with_reducible refine z0m (f := 80) rfl ?_); refine z1a (some 28) rfl rfl Tryz.func80 (by kernel_rfl) rfl #[.agg #[.slice z0U l0_0.length c0_0, .slice z0X l0_1.length c0_1], .slice y7h ((z0s l0_2 x20_1).f2).length c170_2] rfl zq ?_; (with_reducible refine (z1M.calls k1 _ _ l0_0 _ _ l0_1 _ _ ((z0s l0_2 x20_1).f2) t172 _ ?z0M z1g.out ?z0Q z1j.out ?z1z y9c.out A15.out).mono ?_); (case z0M => exact Kd.z0t z2g.out zb); (case z0Q => exact Kd.z0t z2x.out zb); (case z1z => exact Kd.z0t y9b.out zb); rintro e w21 ⟨rfl, hb⟩; refine ⟨_, rfl, ?_⟩; replace z3Z := z0a.mk (z0O (g := x4h) (o := .cells #[.slice z0U l0_0.length c0_0, .slice z0X l0_1.length c0_1, .slice (some ad170) l0_2.length c0_2] 28 (0, 0)) (by (with_reducible repeat (first | refine z0c ?_ _ | refine z0e ?_ | refine z0b ?_ _)); refine z0n ?_ z4O.out _; (with_reducible repeat (first | refine z0c ?_ _ | refine z0e ?_ | refine z0b ?_ _)); refine z0n ?_ z4O.out _; (with_reducible repeat (first | refine z0c ?_ _ | refine z0e ?_ | refine z0b ?_ _)); refine z0n ?_ z4O.out _; (with_reducible repeat (first | refine z0c ?_ _ | refine z0e ?_ | refine z0b ?_ _)); exact z3Z.out) hb); replace y9d := z0a.mk (z0O (g := w0q) (o := .cells #[.string ((z0s l0_2 x20_1).f0), .int .i64 ((z0s l0_2 x20_1).f1), .slice y7h ((z0s l0_2 x20_1).f2).length c170_2] 81 (0, 0)) (by (with_reducible repeat (first | refine z0c ?_ _ | refine z0e ?_ | refine z0b ?_ _)); refine z0N (cs := #[.string ((z0s l0_2 x20_1).f0), .int .i64 ((z0s l0_2 x20_1).f1), .slice none 0 0]) ?_ 2 _ rfl; (with_reducible repeat (first | refine z0c ?_ _ | refine z0e ?_ | refine z0b ?_ _)); refine z0N (cs := #[.string ((z0s l0_2 x20_1).f0), .int .i64 0, .slice none 0 0]) ?_ 1 _ rfl; (with_reducible repeat (first | refine z0c ?_ _ | refine z0e ?_ | refine z0b ?_ _)); refine z0N (cs := #[.string (⟨#[]⟩ : ByteArray), .int .i64 0, .slice none 0 0]) ?_ 0 _ rfl; (with_reducible repeat (first | refine z0c ?_ _ | refine z0e ?_ | refine z0b ?_ _)); exact y9d.out) hb); replace HB := zB HB hb; (try clear hb)))
   go_roundg k1
   case measure => have := HK1.out; omega
   case rel => exact ⟨(wrap64 (x20_1 + 1)), ze, H', ⟨by have := HK1.out; omega⟩, ⟨zk⟩, ⟨zb⟩⟩
def z0L.l0 : Nat → List Int → Int → Int → List ByteArray → List (z1J) → List (S81) → Option (Int)
 | 0, _, _, _, _, _, _ => none
 | k + 1, x13, x14, x15, w0r, w0s, x4i => if x15 < x14 then (if 0 ≤ x15 then (if x15 < (x13.length : Int) then (if (rd x13 x15) < 0 then (some 8) else (if (rd x13 x15) ≥ (x4i.length : Int) then (some 8) else (z0L.l0 k x13 x14 (wrap64 (x15 + 1)) w0r w0s x4i))) else (none)) else (none)) else (some 0)
def z0L.f (k : Nat) (l0_0 : List ByteArray) (l0_1 : List (z1J)) (l0_2 : List (S81)) (l1 : List Int) : Option (Int) := (z0S.f k l0_0 l0_1 l0_2).bind fun t174 => (if t174 = 0 then (z0L.l0 k l1 (l1.length : Int) 0 l0_0 l0_1 l0_2) else (some t174))
theorem z0L.z1t : ∀ k, (∀ y0 y1 y2 y3 y4 y5, LeO (z0L.l0 k y0 y1 y2 y3 y4 y5) (z0L.l0 (k + 1) y0 y1 y2 y3 y4 y5))
 | 0 => fun _ _ _ _ _ _ r h => by simp [z0L.l0] at h
 | k + 1 => by
  have ih0 := z0L.z1t k
  ·intro y0 y1 y2 y3 y4 y5
   unfold z0L.l0
   repeat' first
   | (with_reducible exact ih0 _ _ _ _ _ _)
   | (with_reducible exact z0S.mono _ _ _ _)
   | (with_reducible exact LeO.refl _)
   | (with_reducible exact LeO.none _)
   | (with_reducible refine LeO.ite ?_ ?_)
   | (with_reducible refine LeO.bind ?_ (fun _ => ?_))
theorem z0L.mono : ∀ a0 a1 a2 a3 k, LeO (z0L.f k a0 a1 a2 a3) (z0L.f (k + 1) a0 a1 a2 a3) := by
 intro a0 a1 a2 a3 k
 have ih0 := z0L.z1t k
 unfold z0L.f
 repeat' first
   | (with_reducible exact ih0 _ _ _ _ _ _)
   | (with_reducible exact z0S.mono _ _ _ _)
   | (with_reducible exact LeO.refl _)
   | (with_reducible exact LeO.none _)
   | (with_reducible refine LeO.ite ?_ ?_)
   | (with_reducible refine LeO.bind ?_ (fun _ => ?_))
set_option maxHeartbeats 8000000 in
set_option maxRecDepth 100000 in
theorem z0L.calls (k : Nat) (z0U : Option Addr) (c0_0 : Nat) (l0_0 : List ByteArray) (z0X : Option Addr) (c0_1 : Nat) (l0_1 : List (z1J)) (z2c : Option Addr) (c0_2 : Nat) (l0_2 : List (S81)) (A1 : Option Addr) (c1 : Nat) (l1 : List Int) (r : Int) (w : World) (hr0_0 : Kd.C Kd.string w z0U l0_0.length l0_0) (hc0_0 : l0_0.length ≤ c0_0) (hr0_1 : Kd.C z5a w z0X l0_1.length l0_1) (hc0_1 : l0_1.length ≤ c0_1) (hr0_2 : Kd.C k81 w z2c l0_2.length l0_2) (hc0_2 : l0_2.length ≤ c0_2) (hr1 : Kd.C (Kd.int .i64) w A1 l1.length l1) (hc1 : l1.length ≤ c1) (h : z0L.f k l0_0 l0_1 l0_2 l1 = some r) :
  Calls Tryz.prog 52 #[.agg #[.slice z0U l0_0.length c0_0, .slice z0X l0_1.length c0_1, .slice z2c l0_2.length c0_2], .slice A1 l1.length c1] w fun e w' => e = .returned (.int .i64 r) ∧ Below w.heap.size w w' := by
 have hu28 := Tryz.underlying28
 have z2g := z0a.mk hr0_0
 have z1g := z0a.mk hc0_0
 clear hr0_0 hc0_0
 have z2x := z0a.mk hr0_1
 have z1j := z0a.mk hc0_1
 clear hr0_1 hc0_1
 have z3X := z0a.mk hr0_2
 have z2T := z0a.mk hc0_2
 clear hr0_2 hc0_2
 have HR1 := z0a.mk hr1
 have HC1 := z0a.mk hc1
 clear hr1 hc1
 have HB := z0a.mk (Below.refl w.heap.size w)
 have H : ((z0S.f k l0_0 l0_1 l0_2).bind fun t174 => (if t174 = 0 then (z0L.l0 k l1 (l1.length : Int) 0 l0_0 l0_1 l0_2) else (some t174))) = some r := h
 clear h
 replace H := Option.bind_eq_some_iff.mp H
 obtain ⟨t174, A30, H⟩ := H
 replace H : (if t174 = 0 then (z0L.l0 k l1 (l1.length : Int) 0 l0_0 l0_1 l0_2) else (some t174)) = some r := H
 have A3 := z0a.mk A30
 clear A30
 by_cases c4 : t174 = 0
 rotate_left
 ·rw [if_neg c4] at H
  have c4b0 : (t174 == 0) = false := beq_eq_false_iff_ne.mpr c4
  have c4b1 : (t174 != 0) = true := bne_iff_ne.mpr c4
  obtain rfl := Option.some.inj H
  go_enter Tryz.func52, Tryz.ntmps52
  go_wp2_with (first | ((with_reducible refine z0o (N := 2) rfl ?_); refine zo (cs := #[.slice z0U l0_0.length c0_0, .slice z0X l0_1.length c0_1, .slice z2c l0_2.length c0_2]) (t := 28) ?_; intro w2Q hg w15 hbox hb; have y4l := z0a.mk hbox; have GW173 := zG HB hg; have GE173 := zG HB hg; replace HB := zB HB hb; clear hb hbox hg; obtain ⟨z5Y, z6y, z8t, z5Z, z6z, z8u⟩ := zc3 w15 y4l.out) | ((with_reducible refine z0m (f := 36) rfl ?_); refine z1a (some 9) rfl rfl Tryz.func36 (by kernel_rfl) rfl #[.agg #[.slice z0U l0_0.length c0_0, .slice z0X l0_1.length c0_1, .slice z2c l0_2.length c0_2]] rfl zq ?_; (with_reducible refine (z0S.calls k _ _ l0_0 _ _ l0_1 _ _ l0_2 t174 _ ?z0M z1g.out ?z0Q z1j.out ?z1z z2T.out A3.out).mono ?_); (case z0M => exact zs); (case z0Q => exact zs); (case z1z => exact zs); rintro e w17 ⟨rfl, hb⟩; refine ⟨_, rfl, ?_⟩; replace y4l := zK y4l hb; replace HB := zB HB hb; (try clear hb)))
  go_ret
  exact ⟨zr, zb⟩
 rw [if_pos c4] at H
 have c4b0 : (t174 == 0) = true := beq_iff_eq.mpr c4
 have c4b1 : (t174 != 0) = false := bne_eq_false_iff_eq.mpr c4
 clear c4
 have H' := z0a.mk H
 clear H
 go_enter Tryz.func52, Tryz.ntmps52
 go_wp2_with (first | ((with_reducible refine z0o (N := 2) rfl ?_); refine zo (cs := #[.slice z0U l0_0.length c0_0, .slice z0X l0_1.length c0_1, .slice z2c l0_2.length c0_2]) (t := 28) ?_; intro w2Q hg w5 hbox hb; have y4l := z0a.mk hbox; have GW173 := zG HB hg; have GE173 := zG HB hg; replace HB := zB HB hb; clear hb hbox hg; obtain ⟨z8a, z8b, y0c, z8c, z8d, y0d⟩ := zc3 w5 y4l.out) | ((with_reducible refine z0m (f := 36) rfl ?_); refine z1a (some 9) rfl rfl Tryz.func36 (by kernel_rfl) rfl #[.agg #[.slice z0U l0_0.length c0_0, .slice z0X l0_1.length c0_1, .slice z2c l0_2.length c0_2]] rfl zq ?_; (with_reducible refine (z0S.calls k _ _ l0_0 _ _ l0_1 _ _ l0_2 t174 _ ?z0M z1g.out ?z0Q z1j.out ?z1z z2T.out A3.out).mono ?_); (case z0M => exact zs); (case z0Q => exact zs); (case z1z => exact zs); rintro e w7 ⟨rfl, hb⟩; refine ⟨_, rfl, ?_⟩; replace y4l := zK y4l hb; replace HB := zB HB hb; (try clear hb)))
 go_loopg [15] k (fun kq v15 w' => ∃ (x15_1 : Int), v15 = .int .i64 x15_1 ∧ z0a (z0L.l0 kq l1 (l1.length : Int) x15_1 l0_0 l0_1 l0_2 = some r) ∧ z0a (kq ≤ k) ∧ z0a (w'.heap[w2Q]? = some (.cells #[(.slice z0U l0_0.length c0_0), (.slice z0X l0_1.length c0_1), (.slice z2c l0_2.length c0_2)] 28 (0, 0))) ∧ z0a (Below w.heap.size w w'))
 case atStart => exact ⟨(0), ze, H', ⟨Nat.le_refl _⟩, ⟨zk⟩, ⟨zb⟩⟩
 case round =>
  clear H'
  try clear c1
  try clear c4
  try clear c4b0
  try clear c4b1
  try clear z8a
  try clear z8b
  try clear y0c
  try clear z8c
  try clear z8d
  try clear y0d
  obtain ⟨x15_1, rfl, HA, HK1, y4l, HB⟩ := hrel
  cases gk with
  | zero => exact absurd HA.out (by simp [z0L.l0])
  | succ k1 =>
   have H := HA.out
   clear HA
   simp only [z0L.l0] at H
   by_cases c8 : x15_1 < (l1.length : Int)
   rotate_left
   ·rw [if_neg c8] at H
    have c8b0 : decide (x15_1 < (l1.length : Int)) = false := decide_eq_false c8
    clear c8
    obtain rfl := Option.some.inj H
    go_wp2
    go_ret
    exact ⟨zr, zb⟩
   rw [if_pos c8] at H
   have c8b0 : decide (x15_1 < (l1.length : Int)) = true := decide_eq_true c8
   clear c8
   by_cases c9 : 0 ≤ x15_1
   rotate_left
   ·rw [if_neg c9] at H
    exact absurd H (by simp)
   rw [if_pos c9] at H
   have c9b0 : decide (0 ≤ x15_1) = true := decide_eq_true c9
   clear c9
   by_cases c10 : x15_1 < (l1.length : Int)
   rotate_left
   ·rw [if_neg c10] at H
    exact absurd H (by simp)
   rw [if_pos c10] at H
   have c10b0 : decide (x15_1 < (l1.length : Int)) = true := decide_eq_true c10
   clear c10
   by_cases c11 : (rd l1 x15_1) < 0
   ·rw [if_pos c11] at H
    have c11b0 : decide ((rd l1 x15_1) < 0) = true := decide_eq_true c11
    clear c11
    obtain rfl := Option.some.inj H
    have p175 : 0 ≤ (x15_1 : Int) := za
    have q175 : x15_1 < (l1.length : Int) := za
    obtain ⟨ad175, e175, z8v⟩ := Kd.z3d HR1.out x15_1 p175 q175
    cases e175
    replace z8v := zx HB z8v
    replace p175 := eq_true p175
    replace q175 := eq_true q175
    go_wp2
    go_ret
    exact ⟨zr, zb⟩
   rw [if_neg c11] at H
   have c11b0 : decide ((rd l1 x15_1) < 0) = false := decide_eq_false c11
   clear c11
   by_cases c12 : (rd l1 x15_1) ≥ (l0_2.length : Int)
   ·rw [if_pos c12] at H
    have c12b0 : decide ((l0_2.length : Int) ≤ (rd l1 x15_1)) = true := decide_eq_true c12
    clear c12
    obtain rfl := Option.some.inj H
    have p175 : 0 ≤ (x15_1 : Int) := za
    have q175 : x15_1 < (l1.length : Int) := za
    obtain ⟨ad175, e175, z8v⟩ := Kd.z3d HR1.out x15_1 p175 q175
    cases e175
    replace z8v := zx HB z8v
    replace p175 := eq_true p175
    replace q175 := eq_true q175
    obtain ⟨z9l, z9m, y5T, z9n, z9o, y5U⟩ := zc3 wr y4l.out
    go_wp2
    go_ret
    exact ⟨zr, zb⟩
   rw [if_neg c12] at H
   have c12b0 : decide ((l0_2.length : Int) ≤ (rd l1 x15_1)) = false := decide_eq_false c12
   clear c12
   have H' := z0a.mk H
   clear H
   have p175 : 0 ≤ (x15_1 : Int) := za
   have q175 : x15_1 < (l1.length : Int) := za
   obtain ⟨ad175, e175, z8v⟩ := Kd.z3d HR1.out x15_1 p175 q175
   cases e175
   replace z8v := zx HB z8v
   replace p175 := eq_true p175
   replace q175 := eq_true q175
   obtain ⟨y1T, y7Z, x2v, y1U, y8a, x2w⟩ := zc3 wr y4l.out
   go_wp2
   go_roundg k1
   case measure => have := HK1.out; omega
   case rel => exact ⟨(wrap64 (x15_1 + 1)), ze, H', ⟨by have := HK1.out; omega⟩, ⟨zk⟩, ⟨zb⟩⟩
end Go.Proofs.YtplkoabikliagaaGreatDoor.K
