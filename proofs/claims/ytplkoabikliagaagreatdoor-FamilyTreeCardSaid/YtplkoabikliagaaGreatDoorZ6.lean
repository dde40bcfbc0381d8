/- Part 6 of a proof: walks and plain laws, merged by wip/tools/pack.py. -/
import Derived.Test.YtplkoabikliagaaGreatDoorZ3
import Derived.Test.YtplkoabikliagaaGreatDoorZ5
namespace Go.Proofs.YtplkoabikliagaaGreatDoor.K
open Go.RowKit Go.Proofs.YtplkoabikliagaaGreatDoorW.PrintWords Go.Proofs.YtplkoabikliagaaGreatDoorW.PrintLast Go.Proofs.YtplkoabikliagaaGreatDoorW.PrintMore
open Go.Proofs.YtplkoabikliagaaGreatDoor.L
theorem w2b : Kd.Heap k58 := Kd.z8P _ (Kd.z2H (Kd.z3E _) (Kd.z2H (Kd.z3E _) (Kd.z2H (Kd.z3E _) (Kd.z2H (Kd.z3E _) (Kd.z6m _ (Kd.z3E _))))))
theorem y4G : Kd.Heap k49 := Kd.z8P _ (Kd.z6m _ w2b)
theorem w2c : Kd.Heap k54 := Kd.z8P _ (Kd.z2H (Kd.z3E _) (Kd.z2H (Kd.z3E _) (Kd.z3E _)))
theorem w2d : Kd.Heap k56 := Kd.z8P _ (Kd.z2H (Kd.z3E _) (Kd.z2H (Kd.z3E _) (Kd.z2H (Kd.z3E _) (Kd.z3E _))))
theorem w2e : Kd.Heap k51 := Kd.z8P _ (Kd.z2H Kd.y1I (Kd.z2H (Kd.z6m _ w2c) (Kd.z2H (Kd.z6m _ w2d) (Kd.z2H y4G (Kd.z2H y4G (Kd.z2H (Kd.z3E _) Kd.x1V))))))
theorem x6f : Kd.Heap k81 := Kd.z8P _ (Kd.z2H Kd.y1I (Kd.z2H (Kd.z3E _) (Kd.z6m _ w2e)))
theorem z5W {w w1 w2 : World} (h : Below w.heap.size w w1) (k : Below w1.heap.size w1 w2) : Below w.heap.size w w2 := y4s h h.size k
section
variable {W : World} {S : Nat → Prop} {B : Nat} {ok : Nat → Prop} {v : Value}
theorem y7u {xs : List Int} (h : Kd.R (Kd.int .i64) 3 W B ok v xs) (hok : ∀ k, ok k → S k) : ∃ a cap, v = .slice a xs.length cap ∧ ∀ (i : Nat), i < xs.length → ∃ g, a = some ⟨g, 0, none⟩ ∧ Mine S W g i := by
 obtain ⟨a, cap, hv, hall⟩ := w2k h
 refine ⟨a, cap, hv, fun i hi => ?_⟩
 obtain ⟨g, cur, cs, ha, _, hg, hblk, hM, _, _, hc⟩ := hall i _ (List.getElem?_eq_getElem hi)
 have h0 := hc 0 (show 0 < 1 from Nat.one_pos)
 have hcs : cs = [.int .i64 xs[i]] := hM
 rw [hcs, show i * (Kd.int .i64).sz + 0 = i from Nat.mul_one i] at h0
 exact ⟨g, ha, y2V hblk (hok g hg) h0 (fun A n c e => by cases e)⟩
theorem x1m {xs : List S54} (h : Kd.R k54 54 W B ok v xs) (hok : ∀ k, ok k → S k) : ∃ a cap, v = .slice a xs.length cap ∧ ∀ (i : Nat), i < xs.length → ∃ g, a = some ⟨g, 0, none⟩ ∧ Mine S W g (i * 3) := by
 obtain ⟨a, cap, hv, hall⟩ := w2k h
 refine ⟨a, cap, hv, fun i hi => ?_⟩
 obtain ⟨g, cur, cs, ha, _, hg, hblk, hM, _, _, hc⟩ := hall i _ (List.getElem?_eq_getElem hi)
 have h0 := hc 0 (show 0 < 3 from by decide)
 obtain rfl := x2e hM
 exact ⟨g, ha, y2V hblk (hok g hg) h0 (fun A n c e => by cases e)⟩
theorem x1n {xs : List S56} (h : Kd.R k56 56 W B ok v xs) (hok : ∀ k, ok k → S k) : ∃ a cap, v = .slice a xs.length cap ∧ ∀ (i : Nat), i < xs.length → ∃ g, a = some ⟨g, 0, none⟩ ∧ Mine S W g (i * 4) := by
 obtain ⟨a, cap, hv, hall⟩ := w2k h
 refine ⟨a, cap, hv, fun i hi => ?_⟩
 obtain ⟨g, cur, cs, ha, _, hg, hblk, hM, _, _, hc⟩ := hall i _ (List.getElem?_eq_getElem hi)
 have h0 := hc 0 (show 0 < 4 from by decide)
 obtain rfl := x2f hM
 exact ⟨g, ha, y2V hblk (hok g hg) h0 (fun A n c e => by cases e)⟩
def y6s (S : Nat → Prop) (W : World) (g i : Nat) : Prop := Mine S W g (i * 5) ∧ ∃ a n c, Stays S W g (i * 5 + 4) (.slice a n c) ∧ n ≤ 9223372036854775807 ∧ ∀ j : Nat, j < n → ∃ h, a = some ⟨h, 0, none⟩ ∧ Mine S W h j
theorem y4H {xs : List S58} (h : Kd.R k58 58 W B ok v xs) (hok : ∀ k, ok k → S k) : ∃ a cap, v = .slice a xs.length cap ∧ ∀ (i : Nat), i < xs.length → ∃ g, a = some ⟨g, 0, none⟩ ∧ y6s S W g i := by
 obtain ⟨a, cap, hv, hall⟩ := w2k h
 refine ⟨a, cap, hv, fun i hi => ?_⟩
 obtain ⟨g, cur, cs, ha, _, hg, hblk, hM, _, _, hc⟩ := hall i _ (List.getElem?_eq_getElem hi)
 have h0 := hc 0 (show 0 < 5 from by decide)
 have h4 := hc 4 (show 4 < 5 from by decide)
 obtain ⟨v4, rfl, hk⟩ := x2g hM
 have m4 : xs[i].f4.length ≤ 9223372036854775807 := by obtain ⟨_, _, _, _, g⟩ := Kd.z4i hk; exact Kd.y1m g
 obtain ⟨a4, c4, rfl, hk4⟩ := y7u (S := S) hk (fun k hk => hok k hk.1)
 exact ⟨g, ha, y2V hblk (hok g hg) h0 (fun A n c e => by cases e), a4, _, c4, y0f hblk h4, m4, hk4⟩
def x7m (S : Nat → Prop) (W : World) (g i : Nat) : Prop := Mine S W g (i * 7 + 5) ∧
 (∃ a n c, Stays S W g (i * 7 + 1) (.slice a n c) ∧ n ≤ 9223372036854775807 ∧ ∀ j : Nat, j < n → ∃ h, a = some ⟨h, 0, none⟩ ∧ Mine S W h (j * 3)) ∧
 (∃ a n c, Stays S W g (i * 7 + 2) (.slice a n c) ∧ n ≤ 9223372036854775807 ∧ ∀ j : Nat, j < n → ∃ h, a = some ⟨h, 0, none⟩ ∧ Mine S W h (j * 4)) ∧
 (∃ a n c, Stays S W g (i * 7 + 3) (.slice a n c) ∧ n ≤ 9223372036854775807 ∧ ∀ j : Nat, j < n → ∃ h, a = some ⟨h, 0, none⟩ ∧ y6s S W h j) ∧
 (∃ a n c, Stays S W g (i * 7 + 4) (.slice a n c) ∧ n ≤ 9223372036854775807 ∧ ∀ j : Nat, j < n → ∃ h, a = some ⟨h, 0, none⟩ ∧ y6s S W h j)
theorem x1o {xs : List S51} (h : Kd.R k51 51 W B ok v xs) (hok : ∀ k, ok k → S k) : ∃ a cap, v = .slice a xs.length cap ∧ ∀ (i : Nat), i < xs.length → ∃ g, a = some ⟨g, 0, none⟩ ∧ x7m S W g i := by
 obtain ⟨a, cap, hv, hall⟩ := w2k h
 refine ⟨a, cap, hv, fun i hi => ?_⟩
 obtain ⟨g, cur, cs, ha, _, hg, hblk, hM, _, _, hc⟩ := hall i _ (List.getElem?_eq_getElem hi)
 have h1 := hc 1 (show 1 < 7 from by decide)
 have h2 := hc 2 (show 2 < 7 from by decide)
 have h3 := hc 3 (show 3 < 7 from by decide)
 have h4 := hc 4 (show 4 < 7 from by decide)
 have h5 := hc 5 (show 5 < 7 from by decide)
 obtain ⟨v1, v2, v3, v4, rfl, k1, k2, k3, k4⟩ := x2i hM
 have m1 : xs[i].f1.length ≤ 9223372036854775807 := by obtain ⟨_, _, _, _, g⟩ := Kd.z4i k1; exact Kd.y1m g
 have m2 : xs[i].f2.length ≤ 9223372036854775807 := by obtain ⟨_, _, _, _, g⟩ := Kd.z4i k2; exact Kd.y1m g
 have m3 : xs[i].f3.f0.length ≤ 9223372036854775807 := by obtain ⟨_, _, _, _, g⟩ := Kd.z4i k3; exact Kd.y1m g
 have m4 : xs[i].f4.f0.length ≤ 9223372036854775807 := by obtain ⟨_, _, _, _, g⟩ := Kd.z4i k4; exact Kd.y1m g
 obtain ⟨a1, c1, rfl, q1⟩ := x1m (S := S) k1 (fun k hk => hok k hk.1)
 obtain ⟨a2, c2, rfl, q2⟩ := x1n (S := S) k2 (fun k hk => hok k hk.1)
 obtain ⟨a3, c3, rfl, q3⟩ := y4H (S := S) k3 (fun k hk => hok k hk.1)
 obtain ⟨a4, c4, rfl, q4⟩ := y4H (S := S) k4 (fun k hk => hok k hk.1)
 exact ⟨g, ha, y2V hblk (hok g hg) h5 (fun A n c e => by cases e), ⟨a1, _, c1, y0f hblk h1, m1, q1⟩, ⟨a2, _, c2, y0f hblk h2, m2, q2⟩, ⟨a3, _, c3, y0f hblk h3, m3, q3⟩, ⟨a4, _, c4, y0f hblk h4, m4, q4⟩⟩
end
set_option maxHeartbeats 16000000 in
set_option maxRecDepth 1000000 in
theorem y3T (k : Nat) (A0 : Option Addr) (c0 : Nat) (fs : List ByteArray) (A1 : Option Addr) (c1 : Nat) (ls : List z1J) (A2 : Option Addr) (c2 : Nat) (bs : List S81) (x y : Int) (w : World)
  (hr0 : Kd.C Kd.string w A0 fs.length fs) (hc0 : fs.length ≤ c0) (hr1 : Kd.C z5a w A1 ls.length ls) (hc1 : ls.length ≤ c1) (hr2 : Kd.C k81 w A2 bs.length bs) (hc2 : bs.length ≤ c2)
  (haw : z1H.f k = some true) (hla : z0u.f k fs ls bs = some false)
  (p : List Int) (e1 : Int) (hp : z2V.f k fs ls bs x = some (p, e1)) (hp' : z1U.f k fs ls bs x = some (p, e1))
  (n e2 : Int) (hn : z1k.f k fs ls bs x y = some (n, e2)) (hn' : z0l.f k fs ls bs x y = some (n, e2))
  (L : List S51) (e3 : Int) (hL : z2C.f k fs ls bs x = some (L, e3)) (hL' : z0E.f k fs ls bs x = some (L, e3))
  (m : List Int) (e4 : Int) (hm : z1Z.f k fs ls bs = some (m, e4)) (hm' : z0q.f k fs ls bs = some (m, e4))
  (s : ByteArray) (e5 : Int) (hs : z1T.f k fs ls bs = some (s, e5)) (hs' : z1V.f k fs ls bs = some (s, e5))
  (hsp : z0D.f k p p = some true) (hsm : z0D.f k m m = some true) :
  Calls Tryz.prog 3 #[.agg #[.slice A0 fs.length c0, .slice A1 ls.length c1, .slice A2 bs.length c2], .int .i64 x, .int .i64 y] w fun e w' => e = .returned (.bool true) ∧ Below w.heap.size w w' := by
 have HR0 := z0a.mk hr0
 have HR1 := z0a.mk hr1
 have HR2 := z0a.mk hr2
 have HAW := z0a.mk haw
 have HLA := z0a.mk hla
 have HP := z0a.mk hp
 have HP' := z0a.mk hp'
 have HN := z0a.mk hn
 have HN' := z0a.mk hn'
 have HL := z0a.mk hL
 have HL' := z0a.mk hL'
 have HM := z0a.mk hm
 have HM' := z0a.mk hm'
 have HT := z0a.mk hs
 have HT' := z0a.mk hs'
 have HSP := z0a.mk hsp
 have HSM := z0a.mk hsm
 clear hr0 hr1 hr2 haw hla hp hp' hn hn' hL hL' hm hm' hs hs' hsp hsm
 have hu28 := Tryz.underlying28
 have HS := z0a.mk (St.start w)
 go_enter Tryz.func3, Tryz.ntmps3
 go_upto_region 16 with (first
  | ((with_reducible refine z0o (N := 3) rfl ?_); refine z2t HS.out rfl (cs := #[.slice A0 fs.length c0, .slice A1 ls.length c1, .slice A2 bs.length c2]) (t := 28) ?hr ?_; (case hr => first | (go_simp; done) | (go_simp; rfl)); clear HS; intro g3 w_g3 hs hb; have HS := z0a.mk hs; clear hs hb; (try clear hc_g3 hf_g3); obtain ⟨hc_g3, hf_g3⟩ := HS.out.cell 0 rfl)
  | (go_at_call 10; refine (z1H.calls k true _ HAW.out).mono ?_; rintro e w1 ⟨rfl, hb1⟩; have hs := HS.out.down hb1; clear HS; have HS := z0a.mk hs; clear hs hb1; skip; (try clear hc_g3 hf_g3); obtain ⟨hc_g3, hf_g3⟩ := HS.out.cell 0 rfl)
  | (go_at_call 11; refine (z0u.calls k _ _ _ _ _ _ _ _ _ false _ (Kd.z0t HR0.out HS.out.below) hc0 (Kd.z0t HR1.out HS.out.below) hc1 (Kd.z0t HR2.out HS.out.below) hc2 HLA.out).mono ?_; rintro e w2 ⟨rfl, hb2⟩; have hs := HS.out.down hb2; clear HS; have HS := z0a.mk hs; clear hs hb2; skip; (try clear hc_g3 hf_g3); obtain ⟨hc_g3, hf_g3⟩ := HS.out.cell 0 rfl)
  | (go_at_call 12; refine (z2V.calls k _ _ _ _ _ _ _ _ _ x p e1 _ (Kd.z0t HR0.out HS.out.below) hc0 (Kd.z0t HR1.out HS.out.below) hc1 (Kd.z0t HR2.out HS.out.below) hc2 HP.out).mono ?_; rintro e w3 ⟨v8, rfl, hv, hb3⟩; have HS3 := HS; have hs := HS.out.down hb3; clear HS; have HS := z0a.mk hs; have HV8 := z0a.mk hv; have HB3 := z0a.mk hb3; clear hs hb3 hv; skip; (try clear hc_g3 hf_g3); obtain ⟨hc_g3, hf_g3⟩ := HS.out.cell 0 rfl)
  | (go_at_call 13; refine (z1U.calls k _ _ _ _ _ _ _ _ _ x p e1 _ (Kd.z0t HR0.out HS.out.below) hc0 (Kd.z0t HR1.out HS.out.below) hc1 (Kd.z0t HR2.out HS.out.below) hc2 HP'.out).mono ?_; rintro e w4 ⟨v10, rfl, hv, hb4⟩; have hs := HS.out.down hb4; clear HS; have HS := z0a.mk hs; have HV10 := z0a.mk hv; have HB4 := z0a.mk hb4; clear hs hb4 hv; skip; (try clear hc_g3 hf_g3); obtain ⟨hc_g3, hf_g3⟩ := HS.out.cell 0 rfl)
  | (go_at_call 14; refine (z1k.calls k _ _ _ _ _ _ _ _ _ x y n e2 _ (Kd.z0t HR0.out HS.out.below) hc0 (Kd.z0t HR1.out HS.out.below) hc1 (Kd.z0t HR2.out HS.out.below) hc2 HN.out).mono ?_; rintro e w5 ⟨rfl, hb5⟩; have hs := HS.out.down hb5; clear HS; have HS := z0a.mk hs; have HB5 := z0a.mk hb5; clear hs hb5; skip; (try clear hc_g3 hf_g3); obtain ⟨hc_g3, hf_g3⟩ := HS.out.cell 0 rfl)
  | (go_at_call 15; refine (z0l.calls k _ _ _ _ _ _ _ _ _ x y n e2 _ (Kd.z0t HR0.out HS.out.below) hc0 (Kd.z0t HR1.out HS.out.below) hc1 (Kd.z0t HR2.out HS.out.below) hc2 HN'.out).mono ?_; rintro e w6 ⟨rfl, hb6⟩; have hs := HS.out.down hb6; clear HS; have HS := z0a.mk hs; have HB6 := z0a.mk hb6; clear hs hb6; skip; (try clear hc_g3 hf_g3); obtain ⟨hc_g3, hf_g3⟩ := HS.out.cell 0 rfl)
  | (go_at_call 16; refine (z2C.calls k _ _ _ _ _ _ _ _ _ x L e3 _ (Kd.z0t HR0.out HS.out.below) hc0 (Kd.z0t HR1.out HS.out.below) hc1 (Kd.z0t HR2.out HS.out.below) hc2 HL.out).mono ?_; rintro e w7 ⟨v16, rfl, hv, hb7⟩; have hs := HS.out.down hb7; clear HS; have HS := z0a.mk hs; have HV16 := z0a.mk hv; have HB7 := z0a.mk hb7; clear hs hb7 hv; skip; (try clear hc_g3 hf_g3); obtain ⟨hc_g3, hf_g3⟩ := HS.out.cell 0 rfl)
  | (go_at_call 17; refine (z0E.calls k _ _ _ _ _ _ (fun b => b < w.heap.size) _ _ _ x L e3 _ (Kd.z0t HR0.out HS.out.below) hc0 (Kd.z0t HR1.out HS.out.below) hc1 (Kd.V_mk hc2 (Kd.x7L (Kd.C_F x6f HR2.out) (fun b hb _ => HS.out.below.block b hb))) HL'.out).mono ?_; rintro e w8 ⟨v18, rfl, hv, hb8⟩; have HS8 := HS; have hs := HS.out.down hb8; clear HS; have HS := z0a.mk hs; have HV18 := z0a.mk hv; have HB8 := z0a.mk hb8; clear hs hb8 hv; skip; (try clear hc_g3 hf_g3); obtain ⟨hc_g3, hf_g3⟩ := HS.out.cell 0 rfl)
  | (go_at_call 18; refine (z1Z.calls k _ _ _ _ _ _ _ _ _ m e4 _ (Kd.z0t HR0.out HS.out.below) hc0 (Kd.z0t HR1.out HS.out.below) hc1 (Kd.z0t HR2.out HS.out.below) hc2 HM.out).mono ?_; rintro e w9 ⟨v20, rfl, hv, hb9⟩; have hs := HS.out.down hb9; clear HS; have HS := z0a.mk hs; have HV20 := z0a.mk hv; have HB9 := z0a.mk hb9; clear hs hb9 hv; skip; (try clear hc_g3 hf_g3); obtain ⟨hc_g3, hf_g3⟩ := HS.out.cell 0 rfl)
  | (go_at_call 19; refine (z0q.calls k _ _ _ _ _ _ _ _ _ m e4 _ (Kd.z0t HR0.out HS.out.below) hc0 (Kd.z0t HR1.out HS.out.below) hc1 (Kd.z0t HR2.out HS.out.below) hc2 HM'.out).mono ?_; rintro e w10 ⟨v22, rfl, hv, hb10⟩; have hs := HS.out.down hb10; clear HS; have HS := z0a.mk hs; have HV22 := z0a.mk hv; have HB10 := z0a.mk hb10; clear hs hb10 hv; skip; (try clear hc_g3 hf_g3); obtain ⟨hc_g3, hf_g3⟩ := HS.out.cell 0 rfl)
  | (go_at_call 20; refine (z1T.calls k _ _ _ _ _ _ _ _ _ s e5 _ (Kd.z0t HR0.out HS.out.below) hc0 (Kd.z0t HR1.out HS.out.below) hc1 (Kd.z0t HR2.out HS.out.below) hc2 HT.out).mono ?_; rintro e w11 ⟨rfl, hb11⟩; have hs := HS.out.down hb11; clear HS; have HS := z0a.mk hs; have HB11 := z0a.mk hb11; clear hs hb11; skip; (try clear hc_g3 hf_g3); obtain ⟨hc_g3, hf_g3⟩ := HS.out.cell 0 rfl)
  | (go_at_call 21; refine (z1V.calls k _ _ _ _ _ _ _ _ _ s e5 _ (Kd.z0t HR0.out HS.out.below) hc0 (Kd.z0t HR1.out HS.out.below) hc1 (Kd.z0t HR2.out HS.out.below) hc2 HT'.out).mono ?_; rintro e w12 ⟨rfl, hb12⟩; have hs := HS.out.down hb12; clear HS; have HS := z0a.mk hs; have HB12 := z0a.mk hb12; clear hs hb12; skip; (try clear hc_g3 hf_g3); obtain ⟨hc_g3, hf_g3⟩ := HS.out.cell 0 rfl)
  | fail)
 have b11 := HB12.out
 have b10 := z5W HB11.out b11
 have b9 := z5W HB10.out b10
 have b8 := z5W HB9.out b9
 have b7 := z5W HB8.out b8
 have b6 := z5W HB7.out b7
 have b5 := z5W HB6.out b6
 have b4 := z5W HB5.out b5
 have b3 := z5W HB4.out b4
 obtain ⟨A8, c8, rfl, l8, g8⟩ := Kd.z4i HV8.out
 obtain ⟨A10, c10, rfl, l10, g10⟩ := Kd.z4i HV10.out
 obtain ⟨A16, c16, rfl, l16, g16⟩ := Kd.z4i HV16.out
 obtain ⟨A18, c18, rfl, l18, g18⟩ := Kd.x8q HV18.out
 obtain ⟨A20, c20, rfl, l20, g20⟩ := Kd.z4i HV20.out
 obtain ⟨A22, c22, rfl, l22, g22⟩ := Kd.z4i HV22.out
 have G8 := z0a.mk (Kd.z0t g8 b3)
 have G10 := z0a.mk (Kd.z0t g10 b4)
 have G16 := z0a.mk (Kd.z0t g16 b7)
 have G18 := z0a.mk (Kd.z0t g18 b8)
 have G20 := z0a.mk (Kd.z0t g20 b9)
 have G22 := z0a.mk (Kd.z0t g22 b10)
 have Z3 := z0a.mk b3
 have Z7 := z0a.mk b7
 have Z8 := z0a.mk b8
 have HSA := HS
 clear b3 b4 b5 b6 b7 b8 b9 b10 b11 g8 g10 g16 g18 g20 g22
 go_wp2_with (first
  | (go_at_call 22; ((with_reducible refine (z0D.calls k _ _ p _ _ p true _ G8.out l8 G10.out l10 HSP.out).mono ?_); rintro e wA ⟨rfl, hd⟩); have HBA := z0a.mk (z1v.below hd); have hs := HS.out.down HBA.out; clear HS; have HS := z0a.mk hs; clear hs hd; skip; (try clear hc_g3 hf_g3); obtain ⟨hc_g3, hf_g3⟩ := HS.out.cell 0 rfl)
  | (go_at_call 23; ((with_reducible refine (y3S L _ _ _ _ _ (Kd.z0t G16.out HBA.out) (Kd.z0t G18.out HBA.out)).mono ?_); rintro e wB ⟨rfl, hb⟩); have HBB := z0a.mk (z5W HBA.out hb); have hs := HS.out.down hb; clear HS; have HS := z0a.mk hs; clear hs hb; skip; (try clear hc_g3 hf_g3); obtain ⟨hc_g3, hf_g3⟩ := HS.out.cell 0 rfl)
  | (go_at_call 22; ((with_reducible refine (z0D.calls k _ _ m _ _ m true _ (Kd.z0t G20.out HBB.out) l20 (Kd.z0t G22.out HBB.out) l22 HSM.out).mono ?_); rintro e wE ⟨rfl, hd⟩); have HBE := z0a.mk (z5W HBB.out (z1v.below hd)); have hs := HS.out.down (z1v.below hd); clear HS; have HS := z0a.mk hs; clear hs hd; skip; (try clear hc_g3 hf_g3); obtain ⟨hc_g3, hf_g3⟩ := HS.out.cell 0 rfl)
  | fail)
 have z2 := HS3.out.lt 0 rfl
 have z3 := HB3.out.size
 have z4 := HB4.out.size
 have z5 := HB5.out.size
 have z6 := HB6.out.size
 have z7 := HB7.out.size
 obtain ⟨a8, c8', hv8, hp8⟩ := y7u (W := wE) (S := fun b => g3 < b ∧ b < w7.heap.size) (Kd.z2f (Kd.z4W HV8.out) (z5W Z3.out HBE.out)) (fun b hb => ⟨by have := hb.2.1; omega, by have := hb.2.2.1; omega⟩)
 obtain ⟨a16, c16', hv16, hp16⟩ := x1o (W := wE) (S := fun b => g3 < b ∧ b < w7.heap.size) (Kd.z2f (Kd.z4W HV16.out) (z5W Z7.out HBE.out)) (fun b hb => ⟨by have := hb.2.1; omega, hb.2.2.1⟩)
 simp only [Value.slice.injEq] at hv8 hv16
 obtain ⟨rfl, _, rfl⟩ := hv8
 obtain ⟨rfl, _, rfl⟩ := hv16
 have P8 := z0a.mk hp8
 have P16 := z0a.mk hp16
 have hpm := Kd.y1m G8.out
 have hLm := Kd.y1m G16.out
 clear z2 z3 z4 z5 z6 z7 hp8 hp16 hc_g3 hf_g3
 go_loopw [29] (fun i wr => ∃ j : Nat, j ≤ p.length ∧ i = .int .i64 j ∧ z0a (Spoil (fun b => g3 < b ∧ b < w7.heap.size) wE wr)) (fun i _ => p.length - (intOf i).toNat)
 case atStart => exact ⟨0, Nat.zero_le _, rfl, ⟨Spoil.refl _ _⟩⟩
 case round =>
  obtain ⟨j, hj, rfl, HP1⟩ := hrel
  by_cases hlt : j < p.length
  ·obtain ⟨g, rfl, hmi⟩ := P8.out j hlt
   have HMI := z0a.mk hmi
   obtain ⟨u, hu⟩ := hmi.cell HP1.out
   have hfr := hmi.free HP1.out
   clear hmi
   go_wp2
   go_roundw
   case rel => exact ⟨j + 1, by omega, by go_num, ⟨HMI.out.set HP1.out _⟩⟩
   case measure => simp [intOf]; omega
  ·go_wp2
   clear hlt hj
   go_loopw [30] (fun i wr => ∃ c : Nat, c ≤ L.length ∧ i = .int .i64 c ∧ z0a (Spoil (fun b => g3 < b ∧ b < w7.heap.size) wE wr)) (fun i _ => L.length - (intOf i).toNat)
   case atStart => exact ⟨0, Nat.zero_le _, rfl, HP1⟩
   case round =>
    clear HP1
    obtain ⟨c, hc, rfl, HP2⟩ := hrel
    by_cases hlt : c < L.length
    ·obtain ⟨g, rfl, hm5, ⟨a1, n1, d1, s1, m1, q1⟩, ⟨a2, n2, d2, s2, m2, q2⟩, ⟨a3, n3, d3, s3, m3, q3⟩, ⟨a4, n4, d4, s4, m4, q4⟩⟩ := P16.out c hlt
     have HM5 := z0a.mk hm5
     have S1 := z0a.mk s1
     have S2 := z0a.mk s2
     have S3 := z0a.mk s3
     have S4 := z0a.mk s4
     have Q1 := z0a.mk q1
     have Q2 := z0a.mk q2
     have Q3 := z0a.mk q3
     have Q4 := z0a.mk q4
     obtain ⟨u5, hu5⟩ := hm5.cell HP2.out
     have hf5 := hm5.free HP2.out
     clear hm5 s1 s2 s3 s4 q1 q2 q3 q4
     go_wp2
     skip
     go_loopw [31] (fun i wr => ∃ d : Nat, d ≤ n1 ∧ i = .int .i64 d ∧ z0a (Spoil (fun b => g3 < b ∧ b < w7.heap.size) wE wr)) (fun i _ => n1 - (intOf i).toNat)
     case atStart => exact ⟨0, Nat.zero_le _, rfl, ⟨HM5.out.set HP2.out _⟩⟩
     case round =>
      obtain ⟨d, hd, rfl, HQ1⟩ := hrel
      have hs1 := S1.out _ HQ1.out
      by_cases hlt1 : d < n1
      ·obtain ⟨h, rfl, hmi⟩ := Q1.out d hlt1
       have HMI := z0a.mk hmi
       obtain ⟨u, hu⟩ := hmi.cell HQ1.out
       have hfr := hmi.free HQ1.out
       clear hmi
       go_wp2
       go_roundw
       case rel => exact ⟨d + 1, by omega, by go_num, ⟨HMI.out.set HQ1.out _⟩⟩
       case measure => simp [intOf]; omega
      ·go_wp2
       clear hlt1 hs1 hd
       skip
       go_loopw [32] (fun i wr => ∃ d : Nat, d ≤ n2 ∧ i = .int .i64 d ∧ z0a (Spoil (fun b => g3 < b ∧ b < w7.heap.size) wE wr)) (fun i _ => n2 - (intOf i).toNat)
       case atStart => exact ⟨0, Nat.zero_le _, rfl, HQ1⟩
       case round =>
        obtain ⟨d, hd, rfl, HQ2⟩ := hrel
        have hs2 := S2.out _ HQ2.out
        by_cases hlt2 : d < n2
        ·obtain ⟨h, rfl, hmi⟩ := Q2.out d hlt2
         have HMI := z0a.mk hmi
         obtain ⟨u, hu⟩ := hmi.cell HQ2.out
         have hfr := hmi.free HQ2.out
         clear hmi
         go_wp2
         go_roundw
         case rel => exact ⟨d + 1, by omega, by go_num, ⟨HMI.out.set HQ2.out _⟩⟩
         case measure => simp [intOf]; omega
        ·go_wp2
         clear hlt2 hs2 hd
         go_loopw [33] (fun i wr => ∃ d : Nat, d ≤ n3 ∧ i = .int .i64 d ∧ z0a (Spoil (fun b => g3 < b ∧ b < w7.heap.size) wE wr)) (fun i _ => n3 - (intOf i).toNat)
         case atStart => exact ⟨0, Nat.zero_le _, rfl, HQ2⟩
         case round =>
          obtain ⟨d, hd, rfl, HQ3⟩ := hrel
          have hs3 := S3.out _ HQ3.out
          by_cases hlt3 : d < n3
          ·obtain ⟨h, rfl, hmi, a9, n9, d9, s9, m9, q9⟩ := Q3.out d hlt3
           have HMI := z0a.mk hmi
           have S9 := z0a.mk s9
           have Q9 := z0a.mk q9
           have hs9 := s9 _ HQ3.out
           clear hmi s9 q9
           go_wp2
           go_loopw [34] (fun i wr => ∃ b : Nat, b ≤ n9 ∧ i = .int .i64 b ∧ z0a (Spoil (fun b => g3 < b ∧ b < w7.heap.size) wE wr)) (fun i _ => n9 - (intOf i).toNat)
           case atStart => exact ⟨0, Nat.zero_le _, rfl, HQ3⟩
           case round =>
            obtain ⟨b, hb, rfl, HQ9⟩ := hrel
            clear hs3 hs9
            have hs3 := S3.out _ HQ9.out
            have hs9 := S9.out _ HQ9.out
            by_cases hlt9 : b < n9
            ·obtain ⟨h', rfl, hmi'⟩ := Q9.out b hlt9
             have HMI' := z0a.mk hmi'
             obtain ⟨u', hu'⟩ := hmi'.cell HQ9.out
             have hfr' := hmi'.free HQ9.out
             clear hmi'
             go_wp2
             go_roundw
             case rel => exact ⟨b + 1, by omega, by go_num, ⟨HMI'.out.set HQ9.out _⟩⟩
             case measure => simp [intOf]; omega
            ·skip
             obtain ⟨u, hu⟩ := HMI.out.cell HQ9.out
             have hfr := HMI.out.free HQ9.out
             go_wp2
             go_roundw
             case rel => exact ⟨d + 1, by omega, by go_num, ⟨HMI.out.set HQ9.out _⟩⟩
             case measure => simp [intOf]; omega
          ·go_wp2
           clear hlt3 hs3 hd
           go_loopw [35] (fun i wr => ∃ d : Nat, d ≤ n4 ∧ i = .int .i64 d ∧ z0a (Spoil (fun b => g3 < b ∧ b < w7.heap.size) wE wr)) (fun i _ => n4 - (intOf i).toNat)
           case atStart => exact ⟨0, Nat.zero_le _, rfl, HQ3⟩
           case round =>
            obtain ⟨d, hd, rfl, HQ4⟩ := hrel
            have hs4 := S4.out _ HQ4.out
            by_cases hlt4 : d < n4
            ·obtain ⟨h, rfl, hmi, a9, n9, d9, s9, m9, q9⟩ := Q4.out d hlt4
             have HMI := z0a.mk hmi
             have S9 := z0a.mk s9
             have Q9 := z0a.mk q9
             have hs9 := s9 _ HQ4.out
             clear hmi s9 q9
             go_wp2
             go_loopw [36] (fun i wr => ∃ b : Nat, b ≤ n9 ∧ i = .int .i64 b ∧ z0a (Spoil (fun b => g3 < b ∧ b < w7.heap.size) wE wr)) (fun i _ => n9 - (intOf i).toNat)
             case atStart => exact ⟨0, Nat.zero_le _, rfl, HQ4⟩
             case round =>
              obtain ⟨b, hb, rfl, HQ9⟩ := hrel
              clear hs4 hs9
              have hs4 := S4.out _ HQ9.out
              have hs9 := S9.out _ HQ9.out
              by_cases hlt9 : b < n9
              ·obtain ⟨h', rfl, hmi'⟩ := Q9.out b hlt9
               have HMI' := z0a.mk hmi'
               obtain ⟨u', hu'⟩ := hmi'.cell HQ9.out
               have hfr' := hmi'.free HQ9.out
               clear hmi'
               go_wp2
               go_roundw
               case rel => exact ⟨b + 1, by omega, by go_num, ⟨HMI'.out.set HQ9.out _⟩⟩
               case measure => simp [intOf]; omega
              ·skip
               obtain ⟨u, hu⟩ := HMI.out.cell HQ9.out
               have hfr := HMI.out.free HQ9.out
               go_wp2
               go_roundw
               case rel => exact ⟨d + 1, by omega, by go_num, ⟨HMI.out.set HQ9.out _⟩⟩
               case measure => simp [intOf]; omega
            ·go_wp2
             clear hlt4 hs4 hd
             go_roundw
             case rel => exact ⟨c + 1, by omega, by go_num, HQ4⟩
             case measure => simp [intOf]; omega
    ·have hg3 := HS.out.ge 0 rfl
     have HSR := z0a.mk (show St w wr [(g3, Obj.cells #[.slice A0 fs.length c0, .slice A1 ls.length c1, .slice A2 bs.length c2] 28 (0, 0))] from
      ⟨HS.out.below.trans (HP2.out.below (fun b hb => by have := hb.1; omega)), fun q hq => (HP2.out.out q.1 (by simp only [List.mem_cons, List.not_mem_nil, or_false] at hq; subst hq; simp)).trans (HS.out.at_ q hq), HS.out.base, HS.out.apart⟩)
     have HNR := z0a.mk (Kd.x7M (w1 := wr) (Kd.y1J HV18.out (z5W Z8.out HBE.out)) (fun b hb _ => HP2.out.out b (by rcases hb with hb | hb <;> omega)))
     obtain ⟨hc_g3, hf_g3⟩ := HSR.out.cell 0 rfl
     clear hc hg3
     go_wp2_with (first
      | (go_at_call 16; refine (z2C.calls k _ _ _ _ _ _ _ _ _ x L e3 _ (Kd.z0t HR0.out HSR.out.below) hc0 (Kd.z0t HR1.out HSR.out.below) hc1 (Kd.z0t HR2.out HSR.out.below) hc2 HL.out).mono ?_; rintro e wF ⟨v37, rfl, hv, hbF⟩; obtain ⟨A37, c37, hv37, l37, g37⟩ := Kd.z4i hv; subst hv37; have HBF := z0a.mk hbF; have G37 := z0a.mk g37; clear hv hbF g37)
      | (go_at_call 23; ((with_reducible refine (y3S L _ _ _ _ _ G37.out (Kd.x0t (Kd.y1J HNR.out HBF.out)).2.2).mono ?_); rintro e wG ⟨rfl, hb⟩); have HBG := z0a.mk (z5W HBF.out hb); clear hb)
      | fail)
     go_ret
     exact ⟨rfl, HSR.out.below.trans (HBG.out.mono HSR.out.below.size)⟩
set_option maxHeartbeats 4000000 in
set_option maxRecDepth 1000000 in
theorem y1p (k : Nat) (A0 : Option Addr) (c0 : Nat) (fs : List ByteArray) (A1 : Option Addr) (c1 : Nat) (ls : List z1J) (A2 : Option Addr) (c2 : Nat) (bs : List S81) (x y : Int) (w : World)
  (hr0 : Kd.C Kd.string w A0 fs.length fs) (hc0 : fs.length ≤ c0) (hr1 : Kd.C z5a w A1 ls.length ls) (hc1 : ls.length ≤ c1) (hr2 : Kd.C k81 w A2 bs.length bs) (hc2 : bs.length ≤ c2)
  (haw : z1H.f k = some true) (hla : z0u.f k fs ls bs = some true) :
  Calls Tryz.prog 3 #[.agg #[.slice A0 fs.length c0, .slice A1 ls.length c1, .slice A2 bs.length c2], .int .i64 x, .int .i64 y] w fun e w' => e = .returned (.bool true) ∧ Below w.heap.size w w' := by
 have HR0 := z0a.mk hr0
 have HR1 := z0a.mk hr1
 have HR2 := z0a.mk hr2
 have HAW := z0a.mk haw
 have HLA := z0a.mk hla
 clear hr0 hr1 hr2 haw hla
 have hu28 := Tryz.underlying28
 have HS := z0a.mk (St.start w)
 go_enter Tryz.func3, Tryz.ntmps3
 go_wp2_with (first
  | ((with_reducible refine z0o (N := 3) rfl ?_); refine z2t HS.out rfl (cs := #[.slice A0 fs.length c0, .slice A1 ls.length c1, .slice A2 bs.length c2]) (t := 28) ?hr ?_; (case hr => first | (go_simp; done) | (go_simp; rfl)); clear HS; intro g3 w_g3 hs hb; have HS := z0a.mk hs; clear hs hb; (try clear hc_g3 hf_g3); obtain ⟨hc_g3, hf_g3⟩ := HS.out.cell 0 rfl)
  | (go_at_call 10; refine (z1H.calls k true _ HAW.out).mono ?_; rintro e w1 ⟨rfl, hb1⟩; have hs := HS.out.down hb1; clear HS; have HS := z0a.mk hs; clear hs hb1; skip; (try clear hc_g3 hf_g3); obtain ⟨hc_g3, hf_g3⟩ := HS.out.cell 0 rfl)
  | (go_at_call 11; refine (z0u.calls k _ _ _ _ _ _ _ _ _ true _ (Kd.z0t HR0.out HS.out.below) hc0 (Kd.z0t HR1.out HS.out.below) hc1 (Kd.z0t HR2.out HS.out.below) hc2 HLA.out).mono ?_; rintro e w2 ⟨rfl, hb2⟩; have hs := HS.out.down hb2; clear HS; have HS := z0a.mk hs; clear hs hb2; skip; (try clear hc_g3 hf_g3); obtain ⟨hc_g3, hf_g3⟩ := HS.out.cell 0 rfl)
  | fail)
 go_ret
 exact ⟨rfl, HS.out.below⟩
end Go.Proofs.YtplkoabikliagaaGreatDoor.K
