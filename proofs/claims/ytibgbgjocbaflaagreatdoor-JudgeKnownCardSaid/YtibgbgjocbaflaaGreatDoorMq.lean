/- JudgeKnown's card, if the library's functions do what they are taken for. -/
import Derived.Test.YtibgbgjocbaflaaGreatDoorMp
import Derived.SevenTiedAt
import Derived.Test.YtibgbgjocbaflaaGreatDoorMn
namespace Go.VC.Tz
open Go Go.VC Go.RowKit Go.Proofs Go.Proofs.YtibgbgjocbaflaaGreatDoor

theorem known_holds (hX : LinkS tzE xp) : Rows.JudgeKnownSaid :=
  OpenClaim.holds_of_wide 7 Tryz.f7 rfl rfl rfl rfl rfl rfl rfl ⟨rfl, rfl, rfl, rfl, rfl⟩ rfl rfl rfl rfl rfl (by kernel_rfl) Tryz.func7 jf
    (of_decide_eq_true (by kernel_rfl)) (by unfold Func.isWrapper; first | (rw [if_pos (by decide +kernel)]; kernel_rfl) | (rw [if_neg (by decide +kernel)]; exact ⟨rfl, rfl⟩))
    (fun os started H enc _ => lifted hX os started H enc)

theorem goes7 : Tryz.prog.goes 7 = false := by
  unfold Program.goes
  rw [clo7_eq, jf2]
  kernel_rfl

theorem named7 : Tryz.prog.funcNamed "ablaut/ablautlaw46.JudgeKnown" = some 7 := by kernel_rfl

theorem goesBy7 : false = Rows.judgeKnownRow.goesBy Tryz.prog := by
  show false = (Tryz.prog.goesFrom "ablaut/ablautlaw46.JudgeKnown" || false)
  unfold Program.goesFrom
  rw [named7, Option.any_some, goes7]
  rfl

theorem looks7 : true = Tryz.prog.looks [] := by kernel_rfl
theorem main7 : Tryz.prog.mainIs = some (true, "bfcc27ea27002729a21db6e1da7f1cd6ae01e6c9c6ecbf17947cbd9713e09ccc".toList) := by kernel_rfl

theorem known_card (hX : LinkS tzE xp) : Rows.JudgeKnownCardSaid :=
  Claim7.holds_tied_plain_at .later [] [.data, .data, .mapped, .funcs, .pinned] true (true, "bfcc27ea27002729a21db6e1da7f1cd6ae01e6c9c6ecbf17947cbd9713e09ccc") true
    (known_holds hX) (fun _ h => by cases h) (by kernel_rfl) (fun _ h => by cases h) judgeKnown_row_tie rfl ⟨rfl, rfl⟩ main7 rfl
    (fun f fn hf hfn => by
      obtain rfl : f = 7 := Option.some.inj (named7.symm.trans hf) |>.symm
      obtain rfl : fn = Tryz.f7 := (Option.some.inj (Tryz.func7.symm.trans hfn)).symm
      exact ⟨looks7, fun j t ht => by
        rw [Tryz.params7] at ht
        simp at ht⟩)
    goesBy7

end Go.VC.Tz

/- JudgeKnown: the examples of the chapter hold, whatever the input (there is none): the given card is proved, under no condition. -/
namespace Go.Proofs.YtibgbgjocbaflaaGreatDoor
open Go

theorem judgeKnown_card : Rows.JudgeKnownCardSaid := Go.VC.Tz.known_card (Go.VC.Tz.link Go.VC.Tz.libS)
#print axioms judgeKnown_card

end Go.Proofs.YtibgbgjocbaflaaGreatDoor

