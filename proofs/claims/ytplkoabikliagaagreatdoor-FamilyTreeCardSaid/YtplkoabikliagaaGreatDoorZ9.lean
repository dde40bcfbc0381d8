/- cognatelaw27.FamilyTree: for every family and every two numbers that can be read as data the law answers true, and the arguments read as before; the card, with its listed tables tied to the program's text. -/
import Derived.Test.YtplkoabikliagaaGreatDoorZ8
import Derived.Test.YtplkoabikliagaaGreatDoorTie
import Derived.Test.YtplkoabikliagaaGreatDoorCards
import Derived.SevenTiedAt
namespace Go.Proofs.YtplkoabikliagaaGreatDoor.familyTree
open Go
set_option maxRecDepth 100000 in
theorem card : Rows.FamilyTreeCardSaid :=
 Claim7.holds_tied_plain_at .later [] [.data, .pinned] true (true, "8bd359c578a2fa150971e828b31b69331b47cabd29741825f17f8b609b2d965e") false
  proved (fun _ h => by cases h) (by kernel_rfl) (fun _ h => by cases h) familyTree_row_tie rfl ⟨rfl, rfl⟩ (by kernel_rfl) rfl
  (fun f fn hf hfn => by
   obtain rfl : f = 3 := Option.some.inj ((show Tryz.prog.funcNamed Rows.familyTreeRow.func = some 3 by kernel_rfl).symm.trans hf) |>.symm
   obtain rfl : fn = Tryz.f3 := (Option.some.inj (Tryz.func3.symm.trans hfn)).symm
   refine ⟨by kernel_rfl, fun j t ht => ?_⟩
   rw [Tryz.params3] at ht
   have h3 : t = 28 ∨ t = 3 := by
    rcases j with _ | _ | _ | j
    ·exact .inl (by simpa using ht.symm)
    ·exact .inr (by simpa using ht.symm)
    ·exact .inr (by simpa using ht.symm)
    ·simp at ht
   rcases h3 with rfl | rfl
   ·exact (show Tryz.prog.wantsStandIn 28 = false by kernel_rfl)
   ·exact (show Tryz.prog.wantsStandIn 3 = false by kernel_rfl))
  (by kernel_rfl)
#print axioms card
end Go.Proofs.YtplkoabikliagaaGreatDoor.familyTree
