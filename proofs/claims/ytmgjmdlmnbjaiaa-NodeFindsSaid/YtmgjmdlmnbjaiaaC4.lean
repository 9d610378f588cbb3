/- hypogeumlaw07.NodeFinds, as the row NodeFindsSaid states it: whatever the list of records and the name, the law answers true and the input reads as it did. No condition beyond the given statement's own. -/
import Derived.Test.YtmgjmdlmnbjaiaaNJ
import Derived.Test.YtmgjmdlmnbjaiaaN8
import Derived.Test.YtmgjmdlmnbjaiaaN0
import Derived.Test.YtmgjmdlmnbjaiaaRows
import Derived.WalkKit
import Derived.ProofKit
import Derived.OpenShut
import Derived.ShutString
import Derived.ChangeOld
import Derived.Below
import Derived.SizedLaws
namespace Go.Proofs.Ytmgjmdlmnbjaiaa.A
open Go Go.AM Go.ChangeShapes Go.WideShapes Go.ChangeAt Go.RowKit
open Go.ChangeMaps (open_string shut_string)
set_option linter.unusedVariables false
theorem own4 : ownKnob Try.prog.godebug = none := by kernel_rfl
theorem laidOut4 : laidOutB Try.prog = true := by kernel_rfl

set_option maxRecDepth 100000 in
theorem nodeFinds_lifted (ha : HasAny) (os : Os) (started : os.Started) (H : Type) (enc : TypeId × Value → H) :
    ReturnsInHanded {} Try.checked os 6 .any (Rows.nodeFindsSpec.pre6 enc Try.prog Try.f6 Rows.nodeFindsRow.domain false) (Rows.nodeFindsSpec.post enc Try.prog Try.f6 false true false false) := by
  refine returnsInHanded_of_change_sized (C := Try.checked) own4 started (by kernel_rfl) Try.func6
    (ChangeSpec.witness6 (enc := enc) (C := Try.checked) false ⟨#[], #[.slice none 0 0, .string ByteArray.empty], []⟩ 8 (by kernel_rfl) (by kernel_rfl) (by kernel_rfl) (by kernel_rfl)) ?_
  intro W base args ds gs before hval0 hW hcnd hsz0 _
  have hsz : (DataW.weightsEach Try.prog (Try.f6.params.toList ++ Rows.nodeFindsSpec.plain.varTypes Try.prog) (ds ++ gs)).all (· ≤ reachBytes) = true := hsz0
  have hval : ∀ (j : Nat) t v, Try.f6.params[j]? = some t → args[j]? = some v → Value.okWide Try.prog W .any base t v := hval0
  have hW' := hW
  obtain ⟨p, q, hA0, hV, rfl, hfz, hnd⟩ := hW
  have hA : DataW.TrodAll enc Try.prog W 0 (fun _ => true) true Try.f6.params.toList args.toList ds p := hA0
  rw [Try.params6] at hA hval hsz
  obtain ⟨v0, vs0, d0, ds0, p0, q0, hargs, rfl, rfl, h0, r0⟩ := trodAll_cons hA
  obtain ⟨v1, vs1, d1, ds1, p1, q1, rfl, rfl, rfl, h1, r1⟩ := trodAll_cons r0
  obtain ⟨rfl, rfl, rfl⟩ := trodAll_nil r1
  obtain rfl : args = #[v0, v1] := by cases args; simp_all
  obtain ⟨rfl, rfl⟩ := trodVars_none hV
  obtain ⟨s0, f0, g0, k0⟩ := trod_segs inTypes_ok (by decide) h0 (weights_all hsz (j := 0) (t := 29) rfl rfl)
  obtain ⟨s1, f1, g1, k1⟩ := trod_segs inTypes_ok (by decide) h1 (weights_all hsz (j := 1) (t := 9) rfl rfl)
  obtain ⟨ns, rfl, hlen, hn⟩ := list_of k0
  obtain ⟨s, rfl, hs⟩ := Has_str Try.underlying9 k1
  have lt1 : ∀ x ∈ p1, x.block < W.heap.size := by obtain ⟨m, hm⟩ := h1; exact DataW.trod_lt m _ _ _ hm
  have e1 : v1.cells.toList = [v1] := by
    have := hval 1 9 v1 rfl rfl
    unfold Value.okWide at this
    rw [Try.underlying9] at this
    unfold Cell.okWide Cell.ok at this
    rw [Try.underlying9] at this
    cases v1 <;> first | rfl | (simp at this)
  have lt0 : ∀ x ∈ p0, x.block < W.heap.size := by obtain ⟨m, hm⟩ := h0; exact DataW.trod_lt m _ _ _ hm
  have e0 : v0.cells.toList = [v0] := by
    have := hval 0 29 v0 rfl rfl
    unfold Value.okWide at this
    rw [Try.underlying29] at this
    unfold Cell.okWide Cell.ok at this
    rw [Try.underlying29] at this
    cases v0 <;> first | rfl | (simp at this)
  have hr : Reps (cx0 W) [.sle none 39 (nds ns), .str s] [v0, v1] := reps2 (one_rep rfl e0 g0) (one_rep rfl e1 g1)
  refine (calls_of_pu (nodeFinds_tr ha ns none s (fun n h => (hn n h).ok)) hr).mono fun e W' ⟨he, bel⟩ => ?_
  subst he
  exact ⟨_, rfl, _, _, _, [], _, [], hW', trodAll_mk1 (shut_bool Try.underlying4 _), (trodAll_cons_mk (Below.trod laidOut4 (by kernel_rfl) (of_decide_eq_true (by kernel_rfl)) h0 bel lt0) (trodAll_cons_mk (Below.trod laidOut4 (by kernel_rfl) (of_decide_eq_true (by kernel_rfl)) h1 bel lt1) trodAll_mk0)), rfl, bel.frame _, fun h => by cases h⟩
end Go.Proofs.Ytmgjmdlmnbjaiaa.A

namespace Go.Proofs.Ytmgjmdlmnbjaiaa
open Go Go.AM Go.Proofs.Ytmgjmdlmnbjaiaa.A

theorem nodeFinds_over : Rows.nodeFindsRow.holds Try.pinned (OpenSpec.ofChange Rows.nodeFindsSpec) :=
  OpenClaim.holds_of_wide 6 Try.f6 rfl rfl rfl rfl rfl rfl rfl ⟨rfl, rfl, rfl, rfl, rfl⟩ rfl rfl rfl rfl rfl (by kernel_rfl) Try.func6 (by kernel_rfl) (of_decide_eq_true (by kernel_rfl))
    (by unfold Func.isWrapper; first | (rw [if_pos (by decide +kernel)]; kernel_rfl) | (rw [if_neg (by decide +kernel)]; exact ⟨rfl, rfl⟩))
    (fun os started H enc _ => nodeFinds_lifted hasAny os started H enc)

/-- The law of checks on a record: the given statement. -/
theorem nodeFinds_holds : Rows.NodeFindsSaid := nodeFinds_over
#print axioms nodeFinds_holds
end Go.Proofs.Ytmgjmdlmnbjaiaa
