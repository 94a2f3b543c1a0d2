/- What a function leads to, worked out fast. -/
import Derived.Test.YtibgbgjocbaflaaGreatDoorMa
import GoSem.ClaimFn
import Derived.Test.YtibgbgjocbaflaaGreatDoorMo
namespace Go.VC
open Go

/-- The functions to which one leads, those seen kept as bits. -/
def closureB (P : Program) : Nat → List FuncId → List FuncId → Nat → List FuncId
  | 0, _, seen, _ => seen.reverse
  | _, [], seen, _ => seen.reverse
  | n + 1, f :: todo, seen, bits => bif Nat.testBit bits f then closureB P n todo seen bits else closureB P n ((P.funcs[f]?).elim [] P.leadsTo ++ todo) (f :: seen) (bits ||| 1 <<< f)

theorem closureB_eq (P : Program) : ∀ (n : Nat) (todo seen : List FuncId) (bits : Nat), (∀ g, Nat.testBit bits g = seen.contains g) → P.closureVia n todo seen = closureB P n todo seen bits
  | 0, _, _, _, _ => by unfold Program.closureVia closureB; rfl
  | _ + 1, [], _, _, _ => by unfold Program.closureVia closureB; rfl
  | n + 1, f :: todo, seen, bits, h => by
    unfold Program.closureVia closureB
    rw [h f]
    cases hc : seen.contains f
    · simp only [hc, Bool.false_eq_true, if_false, cond_false]
      refine closureB_eq P n _ _ _ fun g => ?_
      rw [Nat.testBit_or, h g, Nat.one_shiftLeft, Nat.testBit_two_pow, List.contains_cons]
      by_cases hg : f = g
      · subst hg; simp
      · have : ¬ g = f := fun e => hg e.symm
        simp [hg, this]
    · simp only [hc, if_true, cond_true]
      exact closureB_eq P n _ _ _ h

theorem closure_fast (P : Program) (f : FuncId) : P.closure f = closureB P (1 + (P.funcs.toList.map fun g => (P.leadsTo g).length + 1).sum) [f] [] 0 :=
  closureB_eq P _ _ _ _ fun g => by simp

end Go.VC

/- The closed facts of JudgeKnown's row. -/
namespace Go.VC.Tz
open Go Go.VC Go.RowKit Go.Proofs Go.Proofs.YtibgbgjocbaflaaGreatDoor

def clo7 : List FuncId := [7, 25, 28, 39, 29, 38, 30, 22, 55, 130, 91, 153, 198, 154, 199, 178, 224, 56, 62, 131, 59, 138, 184, 58, 137, 183, 186, 228, 185, 227, 187, 44, 98, 99, 158, 157, 200, 159, 201, 231, 92, 155, 272, 273, 232, 202, 233, 274, 275, 160, 203, 162, 161, 204, 205, 206, 234, 276, 207, 163, 164, 132, 179, 63, 140, 188, 51, 120, 133, 134, 57, 49, 102, 103, 104, 105, 114, 115, 116, 172, 218, 171, 109, 117, 118, 119, 135, 181, 182, 226, 136, 180, 225, 47, 101, 168, 211, 243, 244, 212, 245, 246, 247, 281, 295, 248, 169, 213, 214, 215, 250, 249, 251, 253, 282, 252, 255, 285, 298, 283, 296, 284, 297, 305, 306, 307, 254, 192, 217, 216, 256, 24, 67, 142, 189, 190, 191, 193, 95, 156, 143, 68, 66, 141, 144, 69, 145, 70, 43, 97, 26, 71, 52, 48, 106, 107, 170, 108, 110, 111, 112, 113, 146, 147, 31, 23, 42, 65, 93, 94, 96, 61, 60, 139, 64, 33, 75, 149, 194, 195, 196, 229, 268, 40, 90, 287, 230, 269, 270, 271, 288, 299, 300, 308, 315, 316, 317, 318, 323, 324, 329, 325, 320, 327, 330, 331, 328, 319, 326, 321, 322, 150, 197, 73, 21, 53, 121, 173, 219, 257, 258, 259, 260, 261, 262, 263, 264, 265, 74, 122, 123, 124, 174, 220, 221, 222, 266, 223, 267, 286, 125, 175, 126, 127, 176, 128, 177, 129, 54, 81, 151, 152, 20, 50, 72, 148, 34, 27, 19, 17, 18, 10, 12, 41, 14]
theorem clo7_eq : Tryz.prog.closure 7 = clo7 := by rw [closure_fast]; kernel_rfl
theorem jf1 : Tryz.prog.inPlace 7 = Rows.judgeKnownRow.inPlace := by unfold Program.inPlace; rw [clo7_eq]; kernel_rfl
theorem jf2 : Tryz.prog.unfollowed 7 = Rows.judgeKnownRow.unfollowed := by unfold Program.unfollowed; rw [clo7_eq]; kernel_rfl
theorem jf3 : Tryz.prog.recurses 7 = Rows.judgeKnownRow.recurses := by unfold Program.recurses; rw [jf2]; rfl
theorem jf4 : Tryz.prog.varsNamed 7 = Rows.judgeKnownRow.named := by unfold Program.varsNamed; rw [clo7_eq]; kernel_rfl
end Go.VC.Tz

/- JudgeKnown's card, if the library's functions do what they are taken for. -/
namespace Go.VC.Tz
open Go Go.VC Go.RowKit Go.Proofs Go.Proofs.YtibgbgjocbaflaaGreatDoor

theorem jf : joinedFacts Tryz.prog 7 Tryz.f7 Rows.judgeKnownSpec Rows.judgeKnownRow = true := by
  unfold joinedFacts
  rw [jf1, jf2, jf3, jf4]
  kernel_rfl

end Go.VC.Tz

