/- Part of the proof: what functions of the program do, step by step. No condition of its own. -/
import Derived.Test.YtmgjmdlmnbjaiaaU
import Derived.Test.YtmgjmdlmnbjaiaaS1
set_option linter.unusedSimpArgs false
namespace Go.Proofs.Ytmgjmdlmnbjaiaa.A
open Go Go.AM

theorem within_tr (n lo hi : Int) : Pu Try.prog id_node_within [.int .i64 n, .int .i64 lo, .int .i64 hi] (.bool (decide (lo ≤ n ∧ n ≤ hi))) := by
  refine node_within_tr nok ?_
  simp only [node_within_S, node_within_R0, go_sem, Int.reducePow, reduceIte, reduceCtorEq, Nat.reduceEqDiff, Nat.reduceLeDiff, Nat.reduceLT, Nat.reduceAdd, Nat.reduceSub, Nat.reduceMul, Nat.reduceBEq, Int.reduceToNat, Int.reduceLE, Int.reduceLT, Int.reduceAdd, Int.reduceSub, Int.reduceNeg, Int.reduceEq]
  split <;> refine fin_eq ?_ <;> simp <;> omega

/-- A node, as it goes by value. -/
structure Nd where
  name : List UInt8
  kind : Int
  mode : Int
  time : Int
  size : Int
  target : List UInt8
  parts : List (List UInt8)
  tree : List UInt8
def zs (z : Option Bool) (sz : Nat) (l : List (List UInt8)) : V := .sle z sz (l.map fun x => [.byt 32 x])
def Nd.segs (z : Option Bool) (n : Nd) : List V := [.str n.name, .int .i64 n.kind, .int .i64 n.mode, .int .i64 n.time, .int .i64 n.size, .str n.target, zs z 32 n.parts, .byt 32 n.tree]

def Nd.Fits (n : Nd) : Prop :=
  (n.kind = 0 ∧ n.target = [] ∧ n.tree = zero32 ∧ 0 ≤ n.size ∧ n.size ≤ 1048576 ∧ (n.parts.length : Int) ≤ n.size ∧ ((n.parts.length : Int) = 0 ↔ n.size = 0)) ∨
  (n.kind = 1 ∧ n.target = [] ∧ (n.parts.length : Int) = 0 ∧ n.size = 0) ∨
  (n.kind = 2 ∧ 1 ≤ (n.target.length : Int) ∧ (n.target.length : Int) ≤ 4095 ∧ (n.parts.length : Int) = 0 ∧ n.size = 0 ∧ n.tree = zero32)
instance (n : Nd) : Decidable n.Fits := by unfold Nd.Fits; infer_instance

theorem fits_tr (n : Nd) (z : Option Bool) : Pu Try.prog id_node_Node_fits [.agg (n.segs z)] (.bool (decide n.Fits)) := by
  refine node_Node_fits_tr nok ?_
  simp only [node_Node_fits_S, node_Node_fits_R0, node_Node_fits_R1, node_Node_fits_R2, node_Node_fits_R3, Nd.segs, go_sem, Int.reducePow, reduceIte, reduceCtorEq, Nat.reduceEqDiff, Nat.reduceLeDiff, Nat.reduceLT, Nat.reduceAdd, Nat.reduceSub, Nat.reduceMul, Nat.reduceBEq, Int.reduceToNat, Int.reduceLE, Int.reduceLT, Int.reduceAdd, Int.reduceSub, Int.reduceNeg, Int.reduceEq, zs]
  have nil : n.target = [] → n.target.length = 0 := fun h => by rw [h]; rfl
  repeat' split
  all_goals first
    | (refine fin_dec ?_; grind [Nd.Fits])
    | ((refine ecall_pu (within_tr _ _ _) (by (try simp only [go_sem, Int.reducePow, reduceIte, reduceCtorEq, Nat.reduceEqDiff, Nat.reduceLeDiff, Nat.reduceLT, Nat.reduceAdd, Nat.reduceSub, Nat.reduceMul, Nat.reduceBEq, Int.reduceToNat, Int.reduceLE, Int.reduceLT, Int.reduceAdd, Int.reduceSub, Int.reduceNeg, Int.reduceEq]) <;> first | done | ((repeat' apply And.intro) <;> first | rfl | trivial | exact wkEs_refl _ | exact wkV_refl _ | (left; rfl) | (right; rfl))) ?_)
       simp only [go_sem, Int.reducePow, reduceIte, reduceCtorEq, Nat.reduceEqDiff, Nat.reduceLeDiff, Nat.reduceLT, Nat.reduceAdd, Nat.reduceSub, Nat.reduceMul, Nat.reduceBEq, Int.reduceToNat, Int.reduceLE, Int.reduceLT, Int.reduceAdd, Int.reduceSub, Int.reduceNeg, Int.reduceEq]
       repeat' split
       all_goals refine fin_dec ?_
       all_goals grind [Nd.Fits])

def IsName (s : List UInt8) : Prop := s ≠ [] ∧ (s.length : Int) ≤ 255 ∧ s ≠ [46] ∧ s ≠ [46, 46] ∧ s.contains 47 = false ∧ s.contains 0 = false
instance (s : List UInt8) : Decidable (IsName s) := by unfold IsName; infer_instance

/-- strings.ContainsAny(s, "/", 0). -/
def HasAny : Prop := ∀ s : List UInt8, s.length ≤ 255 → Pu Try.prog id_strings_ContainsAny [.str s, .str [47, 0]] (.bool (s.contains 47 || s.contains 0))

theorem isName_tr (ha : HasAny) (s : List UInt8) : Pu Try.prog id_node_IsName [.str s] (.bool (decide (IsName s))) := by
  refine node_IsName_tr nok ?_
  simp only [node_IsName_S, node_IsName_R0, go_sem, Int.reducePow, reduceIte, reduceCtorEq, Nat.reduceEqDiff, Nat.reduceLeDiff, Nat.reduceLT, Nat.reduceAdd, Nat.reduceSub, Nat.reduceMul, Nat.reduceBEq, Int.reduceToNat, Int.reduceLE, Int.reduceLT, Int.reduceAdd, Int.reduceSub, Int.reduceNeg, Int.reduceEq]
  repeat' split
  all_goals first
    | (refine fin_dec ?_; grind [IsName])
    | ((refine ecall_pu (ha s (by grind)) (by (try simp only [go_sem, Int.reducePow, reduceIte, reduceCtorEq, Nat.reduceEqDiff, Nat.reduceLeDiff, Nat.reduceLT, Nat.reduceAdd, Nat.reduceSub, Nat.reduceMul, Nat.reduceBEq, Int.reduceToNat, Int.reduceLE, Int.reduceLT, Int.reduceAdd, Int.reduceSub, Int.reduceNeg, Int.reduceEq]) <;> first | done | ((repeat' apply And.intro) <;> first | rfl | trivial | exact wkEs_refl _ | exact wkV_refl _ | (left; rfl) | (right; rfl))) ?_)
       simp only [go_sem, Int.reducePow, reduceIte, reduceCtorEq, Nat.reduceEqDiff, Nat.reduceLeDiff, Nat.reduceLT, Nat.reduceAdd, Nat.reduceSub, Nat.reduceMul, Nat.reduceBEq, Int.reduceToNat, Int.reduceLE, Int.reduceLT, Int.reduceAdd, Int.reduceSub, Int.reduceNeg, Int.reduceEq]
       refine fin_dec ?_
       grind [IsName])

def Nd.check (n : Nd) : Int := if IsName n.name then (if 0 ≤ n.mode ∧ n.mode ≤ 4095 ∧ 0 ≤ n.time ∧ n.time ≤ 1099511627776 ∧ n.Fits then 0 else 2) else 5

theorem check_tr (ha : HasAny) (n : Nd) (z : Option Bool) : Pu Try.prog id_node_Check [.agg (n.segs z)] (.int .i64 n.check) := by
  refine node_Check_tr nok ?_
  simp only [node_Check_S, node_Check_R0, Nd.segs, go_sem, Int.reducePow, reduceIte, reduceCtorEq, Nat.reduceEqDiff, Nat.reduceLeDiff, Nat.reduceLT, Nat.reduceAdd, Nat.reduceSub, Nat.reduceMul, Nat.reduceBEq, Int.reduceToNat, Int.reduceLE, Int.reduceLT, Int.reduceAdd, Int.reduceSub, Int.reduceNeg, Int.reduceEq, zs]
  (refine ecall_pu (isName_tr ha _) (by (try simp only [go_sem, Int.reducePow, reduceIte, reduceCtorEq, Nat.reduceEqDiff, Nat.reduceLeDiff, Nat.reduceLT, Nat.reduceAdd, Nat.reduceSub, Nat.reduceMul, Nat.reduceBEq, Int.reduceToNat, Int.reduceLE, Int.reduceLT, Int.reduceAdd, Int.reduceSub, Int.reduceNeg, Int.reduceEq]) <;> first | done | ((repeat' apply And.intro) <;> first | rfl | trivial | exact wkEs_refl _ | exact wkV_refl _ | (left; rfl) | (right; rfl))) ?_)
  simp only [go_sem, Int.reducePow, reduceIte, reduceCtorEq, Nat.reduceEqDiff, Nat.reduceLeDiff, Nat.reduceLT, Nat.reduceAdd, Nat.reduceSub, Nat.reduceMul, Nat.reduceBEq, Int.reduceToNat, Int.reduceLE, Int.reduceLT, Int.reduceAdd, Int.reduceSub, Int.reduceNeg, Int.reduceEq]
  split
  · refine fin_eq ?_; grind [Nd.check]
  (refine ecall_pu (within_tr _ _ _) (by (try simp only [go_sem, Int.reducePow, reduceIte, reduceCtorEq, Nat.reduceEqDiff, Nat.reduceLeDiff, Nat.reduceLT, Nat.reduceAdd, Nat.reduceSub, Nat.reduceMul, Nat.reduceBEq, Int.reduceToNat, Int.reduceLE, Int.reduceLT, Int.reduceAdd, Int.reduceSub, Int.reduceNeg, Int.reduceEq]) <;> first | done | ((repeat' apply And.intro) <;> first | rfl | trivial | exact wkEs_refl _ | exact wkV_refl _ | (left; rfl) | (right; rfl))) ?_)
  simp only [go_sem, Int.reducePow, reduceIte, reduceCtorEq, Nat.reduceEqDiff, Nat.reduceLeDiff, Nat.reduceLT, Nat.reduceAdd, Nat.reduceSub, Nat.reduceMul, Nat.reduceBEq, Int.reduceToNat, Int.reduceLE, Int.reduceLT, Int.reduceAdd, Int.reduceSub, Int.reduceNeg, Int.reduceEq]
  split
  · refine fin_eq ?_; grind [Nd.check]
  (refine ecall_pu (within_tr _ _ _) (by (try simp only [go_sem, Int.reducePow, reduceIte, reduceCtorEq, Nat.reduceEqDiff, Nat.reduceLeDiff, Nat.reduceLT, Nat.reduceAdd, Nat.reduceSub, Nat.reduceMul, Nat.reduceBEq, Int.reduceToNat, Int.reduceLE, Int.reduceLT, Int.reduceAdd, Int.reduceSub, Int.reduceNeg, Int.reduceEq]) <;> first | done | ((repeat' apply And.intro) <;> first | rfl | trivial | exact wkEs_refl _ | exact wkV_refl _ | (left; rfl) | (right; rfl))) ?_)
  simp only [go_sem, Int.reducePow, reduceIte, reduceCtorEq, Nat.reduceEqDiff, Nat.reduceLeDiff, Nat.reduceLT, Nat.reduceAdd, Nat.reduceSub, Nat.reduceMul, Nat.reduceBEq, Int.reduceToNat, Int.reduceLE, Int.reduceLT, Int.reduceAdd, Int.reduceSub, Int.reduceNeg, Int.reduceEq]
  split
  · refine fin_eq ?_; grind [Nd.check]
  (refine ecall_pu (fits_tr n z) (by (try simp only [go_sem, Int.reducePow, reduceIte, reduceCtorEq, Nat.reduceEqDiff, Nat.reduceLeDiff, Nat.reduceLT, Nat.reduceAdd, Nat.reduceSub, Nat.reduceMul, Nat.reduceBEq, Int.reduceToNat, Int.reduceLE, Int.reduceLT, Int.reduceAdd, Int.reduceSub, Int.reduceNeg, Int.reduceEq]) <;> first | done | ((repeat' apply And.intro) <;> first | rfl | trivial | exact wkEs_refl _ | exact wkV_refl _ | (left; rfl) | (right; rfl))) ?_)
  simp only [go_sem, Int.reducePow, reduceIte, reduceCtorEq, Nat.reduceEqDiff, Nat.reduceLeDiff, Nat.reduceLT, Nat.reduceAdd, Nat.reduceSub, Nat.reduceMul, Nat.reduceBEq, Int.reduceToNat, Int.reduceLE, Int.reduceLT, Int.reduceAdd, Int.reduceSub, Int.reduceNeg, Int.reduceEq]
  split
  · refine fin_eq ?_; grind [Nd.check]
  · refine fin_eq ?_; grind [Nd.check]

theorem refIsName_tr (s : List UInt8) : Pu Try.prog id_ref07_IsName [.str s] (.bool (decide (IsName s))) := by
  refine ref07_IsName_tr nok ?_
  simp only [ref07_IsName_R1, ref07_IsName_J2, ref07_IsName_R0, ref07_IsName_S, go_sem, Int.reducePow, reduceIte, reduceCtorEq, Nat.reduceEqDiff, Nat.reduceLeDiff, Nat.reduceLT, Nat.reduceAdd, Nat.reduceSub, Nat.reduceMul, Nat.reduceBEq, Int.reduceToNat, Int.reduceLE, Int.reduceLT, Int.reduceAdd, Int.reduceSub, Int.reduceNeg, Int.reduceEq]
  repeat' split
  all_goals first
    | (refine fin_dec ?_; grind [IsName])
    | skip
  refine lp_0 (fun xs k => ∃ i : Nat, xs = [.str s, .int .i64 i] ∧ i ≤ s.length ∧ k = s.length - i ∧ (s.take i).contains 47 = false ∧ (s.take i).contains 0 = false) s.length ⟨0, rfl, by omega, by omega, by simp, by simp⟩ ?_
  rintro xs k ⟨i, rfl, hi, rfl, h1, h2⟩
  simp only [ref07_IsName_R1, ref07_IsName_J2, ref07_IsName_B4, ref07_IsName_R0, ref07_IsName_S, go_sem, Int.reducePow, reduceIte, reduceCtorEq, Nat.reduceEqDiff, Nat.reduceLeDiff, Nat.reduceLT, Nat.reduceAdd, Nat.reduceSub, Nat.reduceMul, Nat.reduceBEq, Int.reduceToNat, Int.reduceLE, Int.reduceLT, Int.reduceAdd, Int.reduceSub, Int.reduceNeg, Int.reduceEq]
  have e47 : ∀ x : UInt8, ((x.toNat : Int) = 47) = (x = 47) := fun x => u8n x 47 (by omega)
  simp only [Int.toNat_natCast, u8z, e47]
  split
  · rename_i hlt
    have hlt' : i < s.length := by omega
    have t1 := contains_take s 47 hlt'
    have t2 := contains_take s 0 hlt'
    refine ⟨by omega, ?_⟩
    split
    · rename_i hc
      have := contains_getD hlt' hc
      refine fin_dec ?_; grind [IsName]
    refine ⟨by omega, ?_⟩
    split
    · rename_i hc
      have := contains_getD hlt' hc
      refine fin_dec ?_; grind [IsName]
    refine nx0 ⟨i + 1, by rw [w64 (by omega) (by omega)]; rfl, by omega, rfl, by grind, by grind⟩ (by omega)
  · have : s.take i = s := List.take_of_length_le (by omega)
    rw [this] at h1 h2
    refine fin_dec ?_; grind [IsName]
end Go.Proofs.Ytmgjmdlmnbjaiaa.A
