/- hypogeumlaw07.NodeEncodes, as the row NodeEncodesSaid states it: whatever the list of records, the law answers true and the input reads as it did. No condition beyond the given statement's own. -/
import Derived.Test.YtmgjmdlmnbjaiaaNF
import Derived.Test.YtmgjmdlmnbjaiaaN8
import Derived.Test.YtmgjmdlmnbjaiaaN0
import Derived.Test.YtmgjmdlmnbjaiaaRows
import Derived.WalkKit
import Derived.ProofKit
import Derived.OpenShut
import Derived.ShutString
import Derived.ChangeOld
import Derived.Below
import Derived.SizedLaws
namespace Go.Proofs.Ytmgjmdlmnbjaiaa.A
open Go Go.AM Go.ChangeShapes Go.WideShapes Go.ChangeAt Go.RowKit
open Go.ChangeMaps (open_string shut_string)
set_option linter.unusedVariables false
theorem own3 : ownKnob Try.prog.godebug = none := by kernel_rfl
theorem laidOut3 : laidOutB Try.prog = true := by kernel_rfl

set_option maxRecDepth 100000 in
theorem nodeEncodes_lifted (ha : HasAny) (os : Os) (started : os.Started) (H : Type) (enc : TypeId × Value → H) :
    ReturnsInHanded {} Try.checked os 4 .any (Rows.nodeEncodesSpec.pre6 enc Try.prog Try.f4 Rows.nodeEncodesRow.domain false) (Rows.nodeEncodesSpec.post enc Try.prog Try.f4 false true false false) := by
  refine returnsInHanded_of_change_sized (C := Try.checked) own3 started (by kernel_rfl) Try.func4
    (ChangeSpec.witness6 (enc := enc) (C := Try.checked) false ⟨#[], #[.slice none 0 0], []⟩ 8 (by kernel_rfl) (by kernel_rfl) (by kernel_rfl) (by kernel_rfl)) ?_
  intro W base args ds gs before hval0 hW hcnd hsz0 _
  have hsz : (DataW.weightsEach Try.prog (Try.f4.params.toList ++ Rows.nodeEncodesSpec.plain.varTypes Try.prog) (ds ++ gs)).all (· ≤ reachBytes) = true := hsz0
  have hval : ∀ (j : Nat) t v, Try.f4.params[j]? = some t → args[j]? = some v → Value.okWide Try.prog W .any base t v := hval0
  have hW' := hW
  obtain ⟨p, q, hA0, hV, rfl, hfz, hnd⟩ := hW
  have hA : DataW.TrodAll enc Try.prog W 0 (fun _ => true) true Try.f4.params.toList args.toList ds p := hA0
  rw [Try.params4] at hA hval hsz
  obtain ⟨v0, vs0, d0, ds0, p0, q0, hargs, rfl, rfl, h0, r0⟩ := trodAll_cons hA
  obtain ⟨rfl, rfl, rfl⟩ := trodAll_nil r0
  obtain rfl : args = #[v0] := by cases args; simp_all
  obtain ⟨rfl, rfl⟩ := trodVars_none hV
  obtain ⟨s0, f0, g0, k0⟩ := trod_segs inTypes_ok (by decide) h0 (weights_all hsz (j := 0) (t := 29) rfl rfl)
  obtain ⟨ns, rfl, hlen, hn⟩ := list_of k0
  have lt0 : ∀ x ∈ p0, x.block < W.heap.size := by obtain ⟨m, hm⟩ := h0; exact DataW.trod_lt m _ _ _ hm
  have e0 : v0.cells.toList = [v0] := by
    have := hval 0 29 v0 rfl rfl
    unfold Value.okWide at this
    rw [Try.underlying29] at this
    unfold Cell.okWide Cell.ok at this
    rw [Try.underlying29] at this
    cases v0 <;> first | rfl | (simp at this)
  have hr : Reps (cx0 W) [.sle none 39 (nds ns)] [v0] := reps1 (one_rep rfl e0 g0)
  refine (calls_of_pu (nodeEncodes_tr ha ns none (fun n h => (hn n h).ok)) hr).mono fun e W' ⟨he, bel⟩ => ?_
  subst he
  exact ⟨_, rfl, _, _, _, [], _, [], hW', trodAll_mk1 (shut_bool Try.underlying4 _), (trodAll_cons_mk (Below.trod laidOut3 (by kernel_rfl) (of_decide_eq_true (by kernel_rfl)) h0 bel lt0) trodAll_mk0), rfl, bel.frame _, fun h => by cases h⟩
end Go.Proofs.Ytmgjmdlmnbjaiaa.A

namespace Go.Proofs.Ytmgjmdlmnbjaiaa
open Go Go.AM Go.Proofs.Ytmgjmdlmnbjaiaa.A

theorem nodeEncodes_over : Rows.nodeEncodesRow.holds Try.pinned (OpenSpec.ofChange Rows.nodeEncodesSpec) :=
  OpenClaim.holds_of_wide 4 Try.f4 rfl rfl rfl rfl rfl rfl rfl ⟨rfl, rfl, rfl, rfl, rfl⟩ rfl rfl rfl rfl rfl (by kernel_rfl) Try.func4 (by kernel_rfl) (of_decide_eq_true (by kernel_rfl))
    (by unfold Func.isWrapper; first | (rw [if_pos (by decide +kernel)]; kernel_rfl) | (rw [if_neg (by decide +kernel)]; exact ⟨rfl, rfl⟩))
    (fun os started H enc _ => nodeEncodes_lifted hasAny os started H enc)

/-- The law of checks on a record: the given statement. -/
theorem nodeEncodes_holds : Rows.NodeEncodesSaid := nodeEncodes_over
#print axioms nodeEncodes_holds
end Go.Proofs.Ytmgjmdlmnbjaiaa
