/- A part of the proof of the statement 'FnExactParseRef': for every input the law returns true and leaves its arguments as they were. No condition beyond the statement's own. The walks' text was written by a program of this claim, out of the program's own print. -/
import Derived.Test.YtoonbcdkbdedkaaRows
import Derived.WalkKit
import Derived.ProofKit
import Derived.OpenShut
import Derived.ShutString
import Derived.ChangeOld
import Derived.Below
import Derived.SizedLaws
import Derived.ChangeSlices
import Derived.Carry
import Derived.Test.YtoonbcdkbdedkaaKFnExactParseRefq1
/- The statement 'FnExactParseRef' of the seat: for every input the law returns true and leaves its arguments as they were. Conditions: none beyond the statement's own. -/
namespace Go.Proofs.Ytoonbcdkbdedkaa.fnExactParseRef
open Go.ChangeShapes Go.WideShapes Go.ChangeAt Go.RowKit Go.Proofs.Ytoonbcdkbdedkaa.G Go.Proofs.Ytoonbcdkbdedkaa.Open Go.Proofs.YtoonbcdkbdedkaaW.PrintWords
open Go.ChangeMaps (open_string shut_string)
set_option linter.unusedVariables false
theorem own : ownKnob Try.prog.godebug = none := by kernel_rfl
theorem laidOut : laidOutB Try.prog = true := by kernel_rfl
set_option maxRecDepth 100000 in
theorem lifted (os : Os) (started : os.Started) (H : Type) (enc : TypeId × Value → H) :
    ReturnsInHanded {} Try.checked os 5 .any (Rows.fnExactParseRefSpec.pre6 enc Try.prog Try.f5 Rows.fnExactParseRefRow.domain false) (Rows.fnExactParseRefSpec.post enc Try.prog Try.f5 false true false false) := by
  refine returnsInHanded_of_change_sized (C := Try.checked) own started (by kernel_rfl) Try.func5
    (ChangeSpec.witness6 (enc := enc) (C := Try.checked) false ⟨#[], #[.string ByteArray.empty], []⟩ 8 (by kernel_rfl) (by kernel_rfl) (by kernel_rfl) (by kernel_rfl)) ?_
  intro W base args ds gs before hval0 hW hcnd hsz0 _
  have hval : ∀ (j : Nat) t v, Try.f5.params[j]? = some t → args[j]? = some v → Value.okWide Try.prog W .any base t v := hval0
  have hW' := hW
  obtain ⟨p, q, hA0, hV, rfl, hfz, hnd⟩ := hW
  have hA : DataW.TrodAll enc Try.prog W 0 (fun _ => true) true Try.f5.params.toList args.toList ds p := hA0
  rw [Try.params5] at hA hval
  obtain ⟨v0, vs0, d0, ds0, p0, q0, hargs, rfl, rfl, h0, r0⟩ := trodAll_cons hA
  obtain ⟨rfl, rfl, rfl⟩ := trodAll_nil r0
  obtain rfl : args = #[v0] := by cases args; simp_all
  obtain ⟨rfl, rfl⟩ := trodVars_none hV
  obtain ⟨a0, rfl, rfl, rfl, w0⟩ := open_string Try.underlying9 (hval 0 9 v0 rfl rfl) h0
  clear hA0 hval0 hsz0
  have pu := laws_FnExactParseRef.pure a0 (by unfold maxLen at w0; simpa using w0)
  obtain ⟨k, pu⟩ := pu
  refine (laws_FnExactParseRef.calls k a0 true ⟨rfl⟩ W  pu).mono fun e W' ⟨he, bel0⟩ => ?_
  have bel : Below W.heap.size W W' := by first | exact bel0 | exact bel0.below
  subst he
  exact ⟨_, rfl, _, _, _, [], _, [], hW', trodAll_mk1 (shut_bool Try.underlying4 _), (trodAll_cons_mk (shut_string Try.underlying9 w0) trodAll_mk0), rfl, bel.frame _, fun h => by cases h⟩
theorem over : Rows.fnExactParseRefRow.holds Try.pinned (OpenSpec.ofChange Rows.fnExactParseRefSpec) :=
  OpenClaim.holds_of_wide 5 Try.f5 rfl rfl rfl rfl rfl rfl rfl ⟨rfl, rfl, rfl, rfl, rfl⟩ rfl rfl rfl rfl rfl (by kernel_rfl) Try.func5 (by kernel_rfl)
    (of_decide_eq_true (by kernel_rfl)) (by unfold Func.isWrapper; first | (rw [if_pos (by decide +kernel)]; kernel_rfl) | (rw [if_neg (by decide +kernel)]; exact ⟨rfl, rfl⟩))
    (fun os started H enc _ => lifted os started H enc)
end Go.Proofs.Ytoonbcdkbdedkaa.fnExactParseRef
namespace Go.Proofs.Ytoonbcdkbdedkaa
/-- The row, under a short name, for the claim. -/
theorem fnExactParseRef_holds : Rows.FnExactParseRefSaid := fnExactParseRef.over
#print axioms fnExactParseRef_holds
end Go.Proofs.Ytoonbcdkbdedkaa
