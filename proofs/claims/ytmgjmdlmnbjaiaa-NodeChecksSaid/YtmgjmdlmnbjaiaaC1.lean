/- hypogeumlaw07.NodeChecks, as the row NodeChecksSaid states it: whatever the record and the string, the law answers true and the input reads as it did. No condition beyond the given statement's own. -/
import Derived.Test.YtmgjmdlmnbjaiaaN7
import Derived.Test.YtmgjmdlmnbjaiaaN8
import Derived.Test.YtmgjmdlmnbjaiaaN0
import Derived.Test.YtmgjmdlmnbjaiaaRows
import Derived.WalkKit
import Derived.ProofKit
import Derived.OpenShut
import Derived.ShutString
import Derived.ChangeOld
import Derived.Below
import Derived.SizedLaws
namespace Go.Proofs.Ytmgjmdlmnbjaiaa.A
open Go Go.AM Go.ChangeShapes Go.WideShapes Go.ChangeAt Go.RowKit
open Go.ChangeMaps (open_string shut_string)
set_option linter.unusedVariables false
theorem own : ownKnob Try.prog.godebug = none := by kernel_rfl
theorem laidOut : laidOutB Try.prog = true := by kernel_rfl

set_option maxRecDepth 100000 in
theorem nodeChecks_lifted (ha : HasAny) (os : Os) (started : os.Started) (H : Type) (enc : TypeId × Value → H) :
    ReturnsInHanded {} Try.checked os 3 .any (Rows.nodeChecksSpec.pre6 enc Try.prog Try.f3 Rows.nodeChecksRow.domain false) (Rows.nodeChecksSpec.post enc Try.prog Try.f3 false true false false) := by
  refine returnsInHanded_of_change_sized (C := Try.checked) own started (by kernel_rfl) Try.func3
    (ChangeSpec.witness6 (enc := enc) (C := Try.checked) false ⟨#[], #[.agg (#[.string ByteArray.empty, .int .i64 0, .int .i64 0, .int .i64 0, .int .i64 0, .string ByteArray.empty, .slice none 0 0] ++ Array.replicate 32 (.int .u8 0)), .string ByteArray.empty], []⟩ 8 (by kernel_rfl) (by kernel_rfl) (by kernel_rfl) (by kernel_rfl)) ?_
  intro W base args ds gs before hval0 hW hcnd hsz0 _
  have hsz : (DataW.weightsEach Try.prog (Try.f3.params.toList ++ Rows.nodeChecksSpec.plain.varTypes Try.prog) (ds ++ gs)).all (· ≤ reachBytes) = true := hsz0
  have hval : ∀ (j : Nat) t v, Try.f3.params[j]? = some t → args[j]? = some v → Value.okWide Try.prog W .any base t v := hval0
  have hW' := hW
  obtain ⟨p, q, hA0, hV, rfl, hfz, hnd⟩ := hW
  have hA : DataW.TrodAll enc Try.prog W 0 (fun _ => true) true Try.f3.params.toList args.toList ds p := hA0
  rw [Try.params3] at hA hval hsz
  obtain ⟨v0, vs0, d0, ds0, p0, q0, hargs, rfl, rfl, h0, r0⟩ := trodAll_cons hA
  obtain ⟨v1, vs1, d1, ds1, p1, q1, rfl, rfl, rfl, h1, r1⟩ := trodAll_cons r0
  obtain ⟨rfl, rfl, rfl⟩ := trodAll_nil r1
  obtain rfl : args = #[v0, v1] := by cases args; simp_all
  obtain ⟨rfl, rfl⟩ := trodVars_none hV
  obtain ⟨s0, f0, g0, k0⟩ := trod_segs inTypes_ok (by decide) h0 (weights_all hsz (j := 0) (t := 26) rfl rfl)
  obtain ⟨s1, f1, g1, k1⟩ := trod_segs inTypes_ok (by decide) h1 (weights_all hsz (j := 1) (t := 9) rfl rfl)
  obtain ⟨n, rfl, hn⟩ := nd_of k0
  obtain ⟨s, rfl, hs⟩ := Has_str Try.underlying9 k1
  have lt0 : ∀ x ∈ p0, x.block < W.heap.size := by obtain ⟨m, hm⟩ := h0; exact DataW.trod_lt m _ _ _ hm
  have lt1 : ∀ x ∈ p1, x.block < W.heap.size := by obtain ⟨m, hm⟩ := h1; exact DataW.trod_lt m _ _ _ hm
  have e1 : v1.cells.toList = [v1] := by
    have := hval 1 9 v1 rfl rfl
    unfold Value.okWide at this
    rw [Try.underlying9] at this
    unfold Cell.okWide Cell.ok at this
    rw [Try.underlying9] at this
    cases v1 <;> first | rfl | (simp at this)
  have hr : Reps (cx0 W) [.agg (n.segs none), .str s] [v0, v1] := reps2 (agg_rep Try.underlying26 (hval 0 26 v0 rfl rfl) g0) (one_rep rfl e1 g1)
  have hb : n.parts.length * 32 ≤ 140737488355328 := Nat.le_trans hn.parts (by decide)
  refine (calls_of_pu (nodeChecks_tr ha n s hb) hr).mono fun e W' ⟨he, bel⟩ => ?_
  subst he
  exact ⟨_, rfl, _, _, _, [], _, [], hW', trodAll_mk1 (shut_bool Try.underlying4 _), (trodAll_cons_mk (Below.trod laidOut (by kernel_rfl) (of_decide_eq_true (by kernel_rfl)) h0 bel lt0) (trodAll_cons_mk (Below.trod laidOut (by kernel_rfl) (of_decide_eq_true (by kernel_rfl)) h1 bel lt1) trodAll_mk0)), rfl, bel.frame _, fun h => by cases h⟩
end Go.Proofs.Ytmgjmdlmnbjaiaa.A

namespace Go.Proofs.Ytmgjmdlmnbjaiaa
open Go Go.AM Go.Proofs.Ytmgjmdlmnbjaiaa.A

theorem nodeChecks_over : Rows.nodeChecksRow.holds Try.pinned (OpenSpec.ofChange Rows.nodeChecksSpec) :=
  OpenClaim.holds_of_wide 3 Try.f3 rfl rfl rfl rfl rfl rfl rfl ⟨rfl, rfl, rfl, rfl, rfl⟩ rfl rfl rfl rfl rfl (by kernel_rfl) Try.func3 (by kernel_rfl) (of_decide_eq_true (by kernel_rfl))
    (by unfold Func.isWrapper; first | (rw [if_pos (by decide +kernel)]; kernel_rfl) | (rw [if_neg (by decide +kernel)]; exact ⟨rfl, rfl⟩))
    (fun os started H enc _ => nodeChecks_lifted hasAny os started H enc)

/-- The law of checks on a record: the given statement. -/
theorem nodeChecks_holds : Rows.NodeChecksSaid := nodeChecks_over
#print axioms nodeChecks_holds
end Go.Proofs.Ytmgjmdlmnbjaiaa
