/- JudgeKnown's statement, if the library's functions do what they are taken for. -/
import Derived.Test.YtibgbgjocbaflaaGreatDoorMn
import Derived.ProofKit
import Derived.LaidMore
import Derived.OpenShut
import Derived.Stop.Joined
import Derived.Test.YtibgbgjocbaflaaGreatDoorTie
import Derived.Test.YtibgbgjocbaflaaGreatDoorCards
namespace Go.VC.Tz
open Go Go.VC Go.RowKit Go.Proofs Go.Proofs.YtibgbgjocbaflaaGreatDoor Go.ChangeShapes Go.WideShapes Go.ChangeAt

theorem own : ownKnob Tryz.prog.godebug = none := by kernel_rfl

/-- The heap that the door's run leaves, with Go's own table in its place. -/
noncomputable def start (os : Os) : World :=
  let w := World.doorLaid Tryz.prog 109 os
  { w with heap := match (w.heap[4]? : Option Obj) with
    | some (Obj.cells _ t f) => w.heap.setIfInBounds 4 (Obj.cells (Go.Pinned.utf8FirstZ.map fun n => Value.int .u8 (n : Nat)).toArray t f)
    | _ => w.heap }

/-- It meets the condition. -/
theorem door_met (os : Os) (args : Array Value) : laidMetH Tryz.prog Rows.judgeKnownRow.laid ((start os).forCall (fun _ _ => 0) ⟨#[], args, []⟩).memory :=
  laidMetH_of_parts3 (fuel := 8) (laidMet_of_run' 8 (by kernel_rfl) (by kernel_rfl)) (by kernel_rfl) (by kernel_rfl)

end Go.VC.Tz

/- JudgeKnown's statement, if the library's functions do what they are taken for: the card. -/
namespace Go.VC.Tz
open Go Go.VC Go.RowKit Go.Proofs Go.Proofs.YtibgbgjocbaflaaGreatDoor Go.ChangeShapes Go.WideShapes Go.ChangeAt

set_option maxRecDepth 100000 in
theorem lifted (hX : LinkS tzE xp) (os : Os) (started : os.Started) (H : Type) (enc : TypeId × Value → H) :
    ReturnsInHanded {} Tryz.checked os 7 .any (fun w args => (Rows.judgeKnownSpec.pre enc Tryz.prog Tryz.f7 [] false w args ∧ laidMetH Tryz.prog Rows.judgeKnownRow.laid w) ∧ sizedMet enc Tryz.prog Tryz.f7 (OpenSpec.ofChange Rows.judgeKnownSpec) false w args)
      (Rows.judgeKnownSpec.post enc Tryz.prog Tryz.f7 false true false false) := by
  refine returnsInHanded_of_change_and (C := Tryz.checked) (X := fun w _ => laidMetH Tryz.prog Rows.judgeKnownRow.laid w) (fun _ _ _ hh h => h.of_heap hh) own started (by kernel_rfl) Tryz.func7
    (ChangeSpec.witness_shaped (enc := enc) (C := Tryz.checked) (os := os) (X := fun w _ => laidMetH Tryz.prog Rows.judgeKnownRow.laid w) false (start os) #[] 8 rfl (World.shaped_of_RefB (by kernel_rfl) (by kernel_rfl)) (by kernel_rfl) (by kernel_rfl) (by kernel_rfl) (door_met os _)) ?_
  intro W base args ds gs before hval0 hW _ _ hL _
  have hW' := hW
  obtain ⟨p, q, hA0, hV, rfl, hfz, hnd⟩ := hW
  have hA : DataW.TrodAll enc Tryz.prog W 0 (fun _ => true) true Tryz.f7.params.toList args.toList ds p := hA0
  rw [Tryz.params7] at hA
  obtain ⟨rfl, rfl, rfl⟩ := trodAll_none hA
  obtain ⟨rfl, rfl⟩ := trodVars_none hV
  simp only [List.append_nil] at hW'
  refine (callsIn_wide.1 (known_calls hX hL)).mono fun e W' ⟨he, hb⟩ => ?_
  subst he
  refine ⟨_, rfl, [], [], [], [], [], [], hW', trodAll_mk1 (shut_bool Tryz.underlying4 _), trodAll_mk0, rfl, hb.frame _, fun _ => ?_⟩
  refine ⟨ok_one (by kernel_rfl) rfl (okWide_bool_mk Tryz.underlying4 _), [.lit (.bool true)], [], [], ⟨[], [], trodAll_mk1 (shut_bool Tryz.underlying4 _), rfl, rfl, ?_, ?_⟩, ?_⟩
  · intro b off hp; cases hp
  · intro ha; simp
  · intro p hp _; cases hp

end Go.VC.Tz

