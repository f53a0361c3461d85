/- Part of a proof of a statement of the seat; see its last text. No condition. -/
import Derived.Test.YthkfepgmfjpkdaaC3
set_option linter.all false

namespace Go.AE
open Go Go.Proofs
set_option maxRecDepth 100000
set_option maxHeartbeats 1000000
set_option linter.unusedVariables false
section
variable (b0 : Blk) (c0 c1 c3 c4 c5 c7 c8 c9 c10 c11 : D) (r0 r1 r2 : Value) (rs : List P) (t : List Blk)
abbrev handH : List Blk := b0 :: .cells [c0, c1, .p (.sl 3 [[.sc r0, .sc r1, .sc r2], rs]), c3, c4, c5, .p (.sc (.int .i64 0)), c7, c8, c9, c10, c11] :: t
theorem stage_ok : CallOK Try.prog 53 [.ref 1 0] (handH b0 c0 c1 c3 c4 c5 c7 c8 c9 c10 c11 r0 r1 r2 rs t) fun r h' => r = .ret (.agg [.p (.sc r0), .p (.sc r1), .p (.sc r2)]) ∧ h' = handH b0 c0 c1 c3 c4 c5 c7 c8 c9 c10 c11 r0 r1 r2 rs t :=
  (runok 16 36).call 53 _ _ _ _ (by kernel_rfl)
end
/-- the stage of a hand -/
def stageM (ds : List D) (h : List Blk) : Option Res := match ds, h with
  | [.ref 1 0], _ :: .cells [_, _, .p (.sl 3 [[.sc r0, .sc r1, .sc r2], _]), _, _, _, .p (.sc (.int .i64 (.ofNat 0))), _, _, _, _, _] :: _ => some (.ret (.agg [.p (.sc r0), .p (.sc r1), .p (.sc r2)]))
  | _, _ => none
theorem stageM_ok : ∀ ds h r, stageM ds h = some r → CallOK Try.prog 53 ds h fun r' h'' => r' = r ∧ h'' = h := by
  intro ds h r e
  unfold stageM at e
  split at e
  · simp only [Option.some.injEq] at e
    subst e
    exact stage_ok _ _ _ _ _ _ _ _ _ _ _ _ _ _ _ _
  · cases e
noncomputable def mode3 : FuncId → FuncId → RMode := fun g f => if g == 36 && f == 53 then .keep stageM else mode2 g f
theorem specs3 : SpecOK Try.prog mode3 where
  spec g f F hF ds h r h' e := by
    unfold mode3 at hF
    split at hF
    · cases hF
    · exact specs2.spec g f F hF ds h r h' e
  keep g f F hF ds h r e := by
    unfold mode3 at hF
    split at hF
    · rename_i hc
      simp only [Bool.and_eq_true, beq_iff_eq] at hc
      obtain ⟨_, rfl⟩ := hc
      simp only [RMode.keep.injEq] at hF; subst hF
      exact stageM_ok ds h r e
    · exact specs2.keep g f F hF ds h r e
theorem runok3 (d : Nat) (g : FuncId) : RunOK Try.prog (run Try.prog cau mode3 d g) := run_ok fnok specs3 d g
end Go.AE
