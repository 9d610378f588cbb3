/- Part of the proof: what functions of the program do, step by step. No condition of its own. -/
import Derived.Test.YtmgjmdlmnbjaiaaS6
import Derived.Test.YtmgjmdlmnbjaiaaW
import Derived.Test.YtmgjmdlmnbjaiaaU
set_option linter.unusedVariables false
namespace Go.Proofs.Ytmgjmdlmnbjaiaa.A
open Go Go.Proofs Go.Shelf Go.RowKit Go.Lib Go.AM
def lays150_ren : Go.Shelf.Ren := ⟨fun | 150 => 28 | 153 => 48 | 152 => 58 | 226 => 59 | 227 => 60 | 228 => 61 | 137 => 65 | 119 => 66 | 224 => 67 | 225 => 68 | 217 => 69 | 266 => 70 | n => n, fun | 9 => 9 | 4 => 4 | 3 => 3 | 5 => 5 | 21 => 21 | 117 => 96 | 116 => 95 | 0 => 0 | 46 => 99 | 124 => 105 | n => n, fun n => n⟩
theorem lays150 : Lays.n150 Try.prog lays150_ren where
  mixed := by kernel_rfl
  f119 := Try.func66.trans (congrArg some (by kernel_rfl))
  f137 := Try.func65.trans (congrArg some (by kernel_rfl))
  f150 := Try.func28.trans (congrArg some (by kernel_rfl))
  f152 := Try.func58.trans (congrArg some (by kernel_rfl))
  f153 := Try.func48.trans (congrArg some (by kernel_rfl))
  f217 := Try.func69.trans (congrArg some (by kernel_rfl))
  f224 := Try.func67.trans (congrArg some (by kernel_rfl))
  f225 := Try.func68.trans (congrArg some (by kernel_rfl))
  f226 := Try.func59.trans (congrArg some (by kernel_rfl))
  f227 := Try.func60.trans (congrArg some (by kernel_rfl))
  f228 := Try.func61.trans (congrArg some (by kernel_rfl))
  f266 := Try.func70.trans (congrArg some (by kernel_rfl))
  t0 := Try.underlying0
  a0 := Try.isAgg0
  z0 := Try.sizeOf0
  v0 := Try.zeroValue0
  t3 := Try.underlying3
  a3 := Try.isAgg3
  z3 := Try.sizeOf3
  v3 := Try.zeroValue3
  t4 := Try.underlying4
  a4 := Try.isAgg4
  z4 := Try.sizeOf4
  v4 := Try.zeroValue4
  t5 := Try.underlying5
  a5 := Try.isAgg5
  z5 := Try.sizeOf5
  v5 := Try.zeroValue5
  t9 := Try.underlying9
  a9 := Try.isAgg9
  z9 := Try.sizeOf9
  v9 := Try.zeroValue9
  t21 := Try.underlying21
  a21 := Try.isAgg21
  z21 := Try.sizeOf21
  v21 := Try.zeroValue21
  t46 := Try.underlying99
  a46 := Try.isAgg99
  z46 := Try.sizeOf99
  v46 := Try.zeroValue99
  t116 := Try.underlying95
  a116 := Try.isAgg95
  z116 := Try.sizeOf95
  t117 := Try.underlying96
  a117 := Try.isAgg96
  z117 := Try.sizeOf96
  v117 := Try.zeroValue96
  t124 := Try.underlying105
  a124 := Try.isAgg105
  z124 := Try.sizeOf105
  v124 := Try.zeroValue105

/-- A contract of the shelf's as one of ours: no memory of the caller's is touched; nothing is handed back but a plain value. -/
theorem pu_of_below {P : Program} {f : FuncId} {vals : List V} {res : V} (hc : callable P f = true)
    (h : ∀ (c : Cx) (us : List Value), Reps c vals us → Calls P f ⟨us⟩ c.w fun e w' => ∃ u, e = .returned u ∧ (∀ c' : Cx, Rep c' res u) ∧ Below c.w.heap.size c.w w') : Pu P f vals res := by
  refine ⟨hc, (fun q hq => by cases hq), fun w ok φ us hs hx => ?_⟩
  refine (h _ us hx).mono ?_
  rintro e w' ⟨u, rfl, hr, hb⟩
  have hlt : ∀ b, b < w.heap.size → w'.heap[b]? = w.heap[b]? := fun b hb' => hb.block b hb'
  refine ⟨u, ⟨w', ok, φ, 0⟩, rfl, rfl, ?_⟩
  have hdead : ∀ i, φ i = .dead := fun i => hs.dom i rfl
  exact {
    frame := ⟨hb.os, hb.tape, hb.output, hb.size, fun b h1 _ => hlt b h1, fun b h1 => by unfold sizeAt; rw [hlt b h1]⟩
    oks := fun _ h => h
    okn := fun _ h => .inl h
    old := fun _ _ => .inl rfl
    n := ⟨rfl, Nat.le_refl _⟩
    hs := ⟨fun i x h => by simp [getB] at h, fun i _ => hdead i, fun i a s h => (nomatch (hdead i).symm.trans h), fun i j a s s' h => (nomatch (hdead i).symm.trans h), fun a h => Nat.lt_of_lt_of_le (hs.lt a h) hb.size⟩
    res := hr _ }

theorem hasAny : ∀ s : List UInt8, s.length ≤ 255 → Pu Try.prog id_strings_ContainsAny [.str s, .str [47, 0]] (.bool (s.contains 47 || s.contains 0)) := by
  intro s hl
  refine pu_of_below rfl ?_
  rintro c us ⟨u, r, rfl, h1, u2, r2, rfl, h2, h3⟩
  cases h1; cases h2; cases h3
  refine (containsAny_two lays150 (by kernel_rfl) ⟨⟨s⟩⟩ c.w (by show s.length < _; omega)).mono ?_
  rintro e w' ⟨rfl, hb⟩
  exact ⟨_, rfl, fun c' => rfl, hb⟩
end Go.Proofs.Ytmgjmdlmnbjaiaa.A
