/- Texts under the proof, joined by a program (prune.py): OverShowTable. -/
import Derived.LaidSub
import Derived.Lib.LaidTab
import Derived.Lib.AppendIntMem
import Derived.Lib.ItoaLen
import Derived.Test.YtglaeambknhjlaaGreatDoorCShowTable02
import Derived.Test.YtglaeambknhjlaaGreatDoorRows
import Derived.Test.YtglaeambknhjlaaGreatDoorCards
import Derived.Test.YtglaeambknhjlaaGreatDoorTie
import Derived.Test.YtglaeambknhjlaaGreatDoorCShowTable15
import Derived.WalkKit
import Derived.ProofKit
import Derived.OpenShut
import Derived.ShutString
import Derived.ChangeOld
import Derived.Below
import Derived.SizedLaws
import Derived.Lib.SmallJoins
import Derived.Lay
import Derived.LaidOnce
import Derived.SevenTiedAt
import Derived.Deep.Strs
import Derived.Deep.DeepHandedRow
import Derived.WideKeyArgs
import Derived.Deep.SlicePairs
set_option linter.unusedVariables false
set_option linter.unusedSimpArgs false
set_option exponentiation.threshold 20001
set_option maxHeartbeats 8000000
set_option maxRecDepth 100000
section
namespace Go.Proofs.YtglaeambknhjlaaGreatDoor.showTable
open Go.ChangeShapes Go.WideShapes Go.ChangeAt Go.RowKit Go.Joins Go.Lib Go.Deep
open Go.ChangeMaps (open_string shut_string)
theorem and_true' {a b:Bool} (h:a=true) (k:b=true):(a && b)=true:=by rw [h,k]; rfl
theorem facts:joinedFacts Tryz.prog 4 Tryz.f4 (Rows.OpenSpec.upto Rows.showTableSpec).bare Rows.showTableUptoRow=true:=by
 unfold joinedFacts
 repeat' with_reducible refine and_true' ?_ ?_
 all_goals (as_aux_lemma=>kernel_rfl)
theorem over:Rows.showTableUptoRow.holds Tryz.pinned (Rows.OpenSpec.upto Rows.showTableSpec):=
 OpenClaim.holds_of_cond 4 Tryz.f4 rfl rfl rfl rfl rfl rfl rfl ⟨rfl,rfl,rfl,rfl,rfl⟩ rfl rfl rfl rfl rfl (by as_aux_lemma=>kernel_rfl) Tryz.func4 facts
  (of_decide_eq_true (by as_aux_lemma=>kernel_rfl)) (by unfold Func.isWrapper; first|(rw [if_pos (by decide +kernel)]; kernel_rfl)|(rw [if_neg (by decide +kernel)]; exact ⟨rfl,rfl⟩))
  (fun os started H enc _ F=>by rw [OpenClaim.pre_eq_preRow]; exact lifted os started H enc F)
end Go.Proofs.YtglaeambknhjlaaGreatDoor.showTable
end
