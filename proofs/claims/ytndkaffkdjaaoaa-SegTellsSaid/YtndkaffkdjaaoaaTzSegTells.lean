/- SegTells: for every segment, every two addresses and every bytes the program's Put, Get, Len and Less answer as the reference's do. No condition: the statement itself. -/
import Derived.Test.YtndkaffkdjaaoaaRows
import Derived.WalkKit
import Derived.ProofKit
import Derived.OpenShut
import Derived.ShutString
import Derived.ChangeOld
import Derived.Below
import Derived.SizedLaws
import Derived.Carry
import Derived.Test.YtndkaffkdjaaoaaTn
namespace Go.Proofs.Ytndkaffkdjaaoaa.segTells
open Go.ChangeShapes Go.WideShapes Go.ChangeAt Go.RowKit Go.Deep
open Go.ChangeMaps (open_string shut_string)
open Go.Proofs.Ytndkaffkdjaaoaa.H
set_option linter.unusedVariables false
theorem own : ownKnob Try.prog.godebug = none := by kernel_rfl
theorem list8 {l : List Value} (h : l.length = 8) : ∃ x0 x1 x2 x3 x4 x5 x6 x7, l = [x0, x1, x2, x3, x4, x5, x6, x7] := by
  match l, h with
  | [x0, x1, x2, x3, x4, x5, x6, x7], _ => exact ⟨_, _, _, _, _, _, _, _, rfl⟩
theorem laidOut : laidOutB Try.prog = true := by kernel_rfl
set_option maxHeartbeats 1600000 in
set_option maxRecDepth 100000 in
theorem lifted (os : Os) (started : os.Started) (H : Type) (enc : TypeId × Value → H) :
    ReturnsInHanded {} Try.checked os 3 .any (Rows.segTellsSpec.pre6 enc Try.prog Try.f3 Rows.segTellsRow.domain false) (Rows.segTellsSpec.post enc Try.prog Try.f3 false true false false) := by
  refine returnsInHanded_of_change_sized (C := Try.checked) own started (by kernel_rfl) Try.func3
    (ChangeSpec.witness6 (enc := enc) (C := Try.checked) false ⟨#[], #[.agg #[.int .i64 0, .int .i64 0, .int .u32 0, .int .u32 0, .int .i64 0, .int .i64 0, .int .i64 0, .slice none 0 0], .int .u32 0, .int .u32 0, .slice none 0 0], []⟩ 8 (by kernel_rfl) (by kernel_rfl) (by kernel_rfl) (by kernel_rfl)) ?_
  intro W base args ds gs before hval0 hW hcnd hsz0 _
  have hval : ∀ (j : Nat) t v, Try.f3.params[j]? = some t → args[j]? = some v → Value.okWide Try.prog W .any base t v := hval0
  have hW' := hW
  obtain ⟨p, q, hA0, hV, rfl, hfz, hnd⟩ := hW
  have hA : DataW.TrodAll enc Try.prog W 0 (fun _ => true) true Try.f3.params.toList args.toList ds p := hA0
  rw [Try.params3] at hA hval
  obtain ⟨v0, vs0, d0, ds0, p0, q0, hargs, rfl, rfl, h0, r0⟩ := trodAll_cons hA
  obtain ⟨v1, vs1, d1, ds1, p1, q1, rfl, rfl, rfl, h1, r1⟩ := trodAll_cons r0
  obtain ⟨v2, vs2, d2, ds2, p2, q2, rfl, rfl, rfl, h2, r2⟩ := trodAll_cons r1
  obtain ⟨v3, vs3, d3, ds3, p3, q3, rfl, rfl, rfl, h3, r3⟩ := trodAll_cons r2
  obtain ⟨rfl, rfl, rfl⟩ := trodAll_nil r3
  obtain rfl : args = #[v0, v1, v2, v3] := by cases args; simp_all
  obtain ⟨rfl, rfl⟩ := trodVars_none hV
  have k0 := h0
  have lt0 : ∀ x ∈ p0, x.block < W.heap.size := by obtain ⟨m, hm⟩ := k0; exact DataW.trod_lt m _ _ _ hm
  obtain ⟨cs0, fn0, rfl, hl0, hf0⟩ := open_agg Try.underlying25 (by kernel_rfl) (by kernel_rfl) (hval 0 25 v0 rfl rfl) h0
  obtain ⟨x0_0, x0_1, x0_2, x0_3, x0_4, x0_5, x0_6, x0_7, rfl⟩ := list8 hl0
  obtain ⟨u0_0, y0_0, eu0_0, ty0_0⟩ := hf0 0 _ rfl
  obtain rfl : x0_0 = u0_0 := Option.some.inj eu0_0
  clear eu0_0
  obtain ⟨i0_0, ei0_0, _, w0_0⟩ := DataW.trod_int Try.underlying3 ty0_0
  obtain rfl : x0_0 = .int .i64 i0_0 := by simpa using ei0_0
  clear ei0_0
  obtain ⟨u0_1, y0_1, eu0_1, ty0_1⟩ := hf0 1 _ rfl
  obtain rfl : x0_1 = u0_1 := Option.some.inj eu0_1
  clear eu0_1
  obtain ⟨i0_1, ei0_1, _, w0_1⟩ := DataW.trod_int Try.underlying3 ty0_1
  obtain rfl : x0_1 = .int .i64 i0_1 := by simpa using ei0_1
  clear ei0_1
  obtain ⟨u0_2, y0_2, eu0_2, ty0_2⟩ := hf0 2 _ rfl
  obtain rfl : x0_2 = u0_2 := Option.some.inj eu0_2
  clear eu0_2
  obtain ⟨i0_2, ei0_2, _, w0_2⟩ := DataW.trod_int Try.underlying22 ty0_2
  obtain rfl : x0_2 = .int .u32 i0_2 := by simpa using ei0_2
  clear ei0_2
  obtain ⟨u0_3, y0_3, eu0_3, ty0_3⟩ := hf0 3 _ rfl
  obtain rfl : x0_3 = u0_3 := Option.some.inj eu0_3
  clear eu0_3
  obtain ⟨i0_3, ei0_3, _, w0_3⟩ := DataW.trod_int Try.underlying22 ty0_3
  obtain rfl : x0_3 = .int .u32 i0_3 := by simpa using ei0_3
  clear ei0_3
  obtain ⟨u0_4, y0_4, eu0_4, ty0_4⟩ := hf0 4 _ rfl
  obtain rfl : x0_4 = u0_4 := Option.some.inj eu0_4
  clear eu0_4
  obtain ⟨i0_4, ei0_4, _, w0_4⟩ := DataW.trod_int Try.underlying3 ty0_4
  obtain rfl : x0_4 = .int .i64 i0_4 := by simpa using ei0_4
  clear ei0_4
  obtain ⟨u0_5, y0_5, eu0_5, ty0_5⟩ := hf0 5 _ rfl
  obtain rfl : x0_5 = u0_5 := Option.some.inj eu0_5
  clear eu0_5
  obtain ⟨i0_5, ei0_5, _, w0_5⟩ := DataW.trod_int Try.underlying3 ty0_5
  obtain rfl : x0_5 = .int .i64 i0_5 := by simpa using ei0_5
  clear ei0_5
  obtain ⟨u0_6, y0_6, eu0_6, ty0_6⟩ := hf0 6 _ rfl
  obtain rfl : x0_6 = u0_6 := Option.some.inj eu0_6
  clear eu0_6
  obtain ⟨i0_6, ei0_6, _, w0_6⟩ := DataW.trod_int Try.underlying3 ty0_6
  obtain rfl : x0_6 = .int .i64 i0_6 := by simpa using ei0_6
  clear ei0_6
  obtain ⟨u0_7, y0_7, eu0_7, ty0_7⟩ := hf0 7 _ rfl
  obtain rfl : x0_7 = u0_7 := Option.some.inj eu0_7
  clear eu0_7
  obtain ⟨A0_7, l0_7, c0_7, ei0_7, hc0_7, hr0_7, hb0_7⟩ := bytes_arg Try.underlying23 Try.underlying5 (by kernel_rfl) ty0_7
  obtain rfl : x0_7 = .slice A0_7 l0_7.length c0_7 := by simpa using ei0_7
  clear ei0_7
  obtain ⟨i1, rfl, rfl, rfl, w1⟩ := open_int Try.underlying22 (hval 1 22 v1 rfl rfl) h1
  obtain ⟨i2, rfl, rfl, rfl, w2⟩ := open_int Try.underlying22 (hval 2 22 v2 rfl rfl) h2
  have k3 := h3
  have lt3 : ∀ x ∈ p3, x.block < W.heap.size := by obtain ⟨m, hm⟩ := k3; exact DataW.trod_lt m _ _ _ hm
  obtain ⟨A3, len3, c3, rfl⟩ := okWide_slice Try.underlying23 (hval 3 23 v3 rfl rfl)
  obtain ⟨fu3, hf3⟩ := h3
  obtain ⟨A3', l3, c3', e3, hc3, hr3, hb3⟩ := bytes_arg Try.underlying23 Try.underlying5 (by kernel_rfl) hf3
  simp only [Value.cells, List.cons.injEq, Value.slice.injEq, and_true] at e3
  obtain ⟨rfl, rfl, rfl⟩ := e3
  clear hA0 hval0 hsz0
  refine (law_SegTells i0_0 i0_1 i0_2 i0_3 i0_4 i0_5 i0_6 A0_7 A3 c0_7 c3 l0_7 l3 i1 i2 W hr0_7 hc0_7 ⟨hb0_7, u32_wf w0_2, u32_wf w0_3, u32_wf w1, u32_wf w2⟩ hr3 hc3 hb3).mono fun e W' ⟨he, bel⟩ => ?_
  subst he
  exact ⟨_, rfl, _, _, _, [], _, [], hW', trodAll_mk1 (shut_bool Try.underlying4 _), (trodAll_cons_mk (Below.trod laidOut (by kernel_rfl) (of_decide_eq_true (by kernel_rfl)) k0 bel lt0) (trodAll_cons_mk (shut_int Try.underlying22 w1) (trodAll_cons_mk (shut_int Try.underlying22 w2) (trodAll_cons_mk (Below.trod laidOut (by kernel_rfl) (of_decide_eq_true (by kernel_rfl)) k3 bel lt3) trodAll_mk0)))), rfl, bel.frame _, fun h => by cases h⟩
theorem over : Rows.segTellsRow.holds Try.pinned (OpenSpec.ofChange Rows.segTellsSpec) :=
  OpenClaim.holds_of_wide 3 Try.f3 rfl rfl rfl rfl rfl rfl rfl ⟨rfl, rfl, rfl, rfl, rfl⟩ rfl rfl rfl rfl rfl (by kernel_rfl) Try.func3 (by kernel_rfl)
    (of_decide_eq_true (by kernel_rfl)) (by unfold Func.isWrapper; first | (rw [if_pos (by decide +kernel)]; kernel_rfl) | (rw [if_neg (by decide +kernel)]; exact ⟨rfl, rfl⟩))
    (fun os started H enc _ => lifted os started H enc)
theorem proved : Rows.SegTellsSaid := over
#print axioms proved
end Go.Proofs.Ytndkaffkdjaaoaa.segTells
namespace Go.Proofs.Ytndkaffkdjaaoaa
/-- The row, under a short name, for the claim. -/
theorem segTells_holds : Rows.SegTellsSaid := segTells.proved
end Go.Proofs.Ytndkaffkdjaaoaa
