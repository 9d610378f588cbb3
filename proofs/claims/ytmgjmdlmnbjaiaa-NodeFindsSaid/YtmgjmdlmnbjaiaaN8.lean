/- Part of the proof: what functions of the program do, step by step. No condition of its own. -/
import Derived.Test.YtmgjmdlmnbjaiaaU
import Derived.Test.YtmgjmdlmnbjaiaaN3
import Derived.KernelRfl
set_option linter.unusedSimpArgs false
namespace Go.Proofs.Ytmgjmdlmnbjaiaa.A
open Go Go.AM

theorem byts_of {P : Program} {B f : Nat} {l : List (List V)} (h : ∀ x ∈ l, Has P B f 24 x) (hu : P.underlying 24 = some (.array 32 5)) (h5 : P.underlying 5 = some (.int .u8)) : ∃ ps : List (List UInt8), l = ps.map (fun x => [.byt 32 x]) ∧ ∀ x ∈ ps, x.length = 32 := by
  induction l with
  | nil => exact ⟨[], rfl, fun _ h => by cases h⟩
  | cons x l ih =>
    obtain ⟨ps, rfl, h2⟩ := ih (fun y hy => h y (List.mem_cons_of_mem _ hy))
    have hx := h x List.mem_cons_self
    cases f with
    | zero => exact hx.elim
    | succ f =>
      unfold Has at hx
      rw [hu] at hx
      simp only [h5] at hx
      obtain ⟨b, rfl, hb⟩ := hx
      refine ⟨b :: ps, rfl, fun y hy => ?_⟩
      rcases List.mem_cons.1 hy with rfl | hy
      · exact hb
      · exact h2 y hy

theorem i64_of {P : Program} {B f : Nat} {t : TypeId} {e : List V} (hu : P.underlying t = some (.int .i64)) (h : Has P B f t e) : ∃ n : Int, e = [.int .i64 n] ∧ -9223372036854775808 ≤ n ∧ n ≤ 9223372036854775807 := by
  obtain ⟨n, rfl, hn⟩ := Has_ints hu h
  refine ⟨n, rfl, ?_⟩
  simp [Lit.wf, IntKind.min, IntKind.max, IntKind.signed, IntKind.bits] at hn
  omega

/-- What a node is like that came in. -/
structure Nd.In (B : Nat) (n : Nd) : Prop where
  ok : n.Ok
  name : n.name.length ≤ B
  target : n.target.length ≤ B
  parts : n.parts.length * 32 ≤ B
set_option maxRecDepth 100000 in
theorem nd_of {B f : Nat} {e : List V} (h : Has Try.prog B f 26 e) : ∃ n : Nd, e = n.segs none ∧ n.In B := by
  cases f with
  | zero => exact h.elim
  | succ f =>
    unfold Has at h
    rw [Try.underlying26] at h
    obtain ⟨es, rfl, h⟩ := h
    cases h with
    | cons a1 h => cases h with
    | cons a2 h => cases h with
    | cons a3 h => cases h with
    | cons a4 h => cases h with
    | cons a5 h => cases h with
    | cons a6 h => cases h with
    | cons a7 h => cases h with
    | cons a8 h =>
    cases h
    obtain ⟨nm, rfl, b1⟩ := Has_str Try.underlying9 a1
    obtain ⟨kd, rfl, b2⟩ := i64_of Try.underlying3 a2
    obtain ⟨md, rfl, b3⟩ := i64_of Try.underlying3 a3
    obtain ⟨tm, rfl, b4⟩ := i64_of Try.underlying3 a4
    obtain ⟨sz, rfl, b5⟩ := i64_of Try.underlying3 a5
    obtain ⟨tg, rfl, b6⟩ := Has_str Try.underlying9 a6
    cases f with
    | zero => exact a7.elim
    | succ f =>
      unfold Has at a7 a8
      rw [Try.underlying22] at a7
      rw [Try.underlying24] at a8
      simp only [Try.underlying24, Try.underlying5] at a7 a8
      obtain ⟨l, rfl, b7, b8⟩ := a7
      obtain ⟨tr, rfl, b9⟩ := a8
      obtain ⟨ps, rfl, b10⟩ := byts_of b8 Try.underlying24 Try.underlying5
      have c24 : Try.prog.cellsOf 24 = 32 := by kernel_rfl
      have y24 : Try.prog.bytesOf 24 = 32 := by kernel_rfl
      rw [y24, List.length_map] at b7
      refine ⟨⟨nm, kd, md, tm, sz, tg, ps, tr⟩, ?_, ⟨b10, b9⟩, b1, b6, b7⟩
      simp only [List.flatten_cons, List.flatten_nil, Nd.segs, zs, c24, List.cons_append, List.nil_append]
theorem nds_of {B f : Nat} {l : List (List V)} (h : ∀ x ∈ l, Has Try.prog B f 26 x) : ∃ ns : List Nd, l = nds ns ∧ ∀ n ∈ ns, n.In B := by
  induction l with
  | nil => exact ⟨[], rfl, fun _ h => by cases h⟩
  | cons x l ih =>
    obtain ⟨ps, rfl, h2⟩ := ih (fun y hy => h y (List.mem_cons_of_mem _ hy))
    obtain ⟨n, rfl, hn⟩ := nd_of (h x List.mem_cons_self)
    refine ⟨n :: ps, rfl, fun y hy => ?_⟩
    rcases List.mem_cons.1 hy with rfl | hy
    · exact hn
    · exact h2 y hy
set_option maxRecDepth 100000 in
theorem list_of {B f : Nat} {e : List V} (h : Has Try.prog B f 29 e) : ∃ ns : List Nd, e = [.sle none 39 (nds ns)] ∧ ns.length * 120 ≤ B ∧ ∀ n ∈ ns, n.In B := by
  cases f with
  | zero => exact h.elim
  | succ f =>
    unfold Has at h
    rw [Try.underlying29] at h
    simp only [Try.underlying26] at h
    obtain ⟨l, rfl, b1, b2⟩ := h
    obtain ⟨ns, rfl, b3⟩ := nds_of b2
    have c : Try.prog.cellsOf 26 = 39 := by kernel_rfl
    have y : Try.prog.bytesOf 26 = 120 := by kernel_rfl
    rw [y, nds, List.length_map] at b1
    exact ⟨ns, by rw [c], b1, b3⟩
/-- The types of what comes in. -/
def inTypes : List TypeId := [3, 4, 5, 9, 22, 24, 26, 29, 40]
theorem inTypes_ok : closedB Try.prog inTypes = true := by kernel_rfl
end Go.Proofs.Ytmgjmdlmnbjaiaa.A
