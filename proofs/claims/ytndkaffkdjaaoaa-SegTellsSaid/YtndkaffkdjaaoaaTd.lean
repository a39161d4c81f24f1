/- seg.same: are a segment's fields those of its head? -/
import Derived.Deep.RegionHeld3
import Derived.Deep.QuietTactic
import Derived.BigQuiet
import Derived.Test.YtndkaffkdjaaoaaTc
namespace Go.Proofs.Ytndkaffkdjaaoaa.H
open Go.RowKit Go.Proofs.YtndkaffkdjaaoaaW.PrintWords Go.Proofs.YtndkaffkdjaaoaaW.PrintLast Go.Proofs.YtndkaffkdjaaoaaW.PrintMore Go.Proofs.Ytndkaffkdjaaoaa.QSeg
set_option linter.unusedVariables false
set_option linter.unusedSimpArgs false

/-- May a segment be written, as far as its fields go? -/
def sameB (a0 a1 a4 a5 : Int) : Bool := decide ((0 ≤ a0 ∧ a0 < 65536) ∧ (0 ≤ a1 ∧ a1 < 65536) ∧ (0 ≤ a4 ∧ a4 < 64) ∧ (0 ≤ a5 ∧ a5 < 65536))
theorem u16_w (x : Int) : IntKind.u16.wrap x = x % 65536 := by simp [IntKind.wrap, IntKind.bits, IntKind.signed]
theorem wrap64_in (x : Int) (h0 : -9223372036854775808 ≤ x) (h1 : x < 9223372036854775808) : wrap64 x = x := by unfold wrap64; omega
theorem seg_of_c (a0 a1 a2 a3 a4 a5 a6 b0 b1 b4 b5 : Int) (A : Option Addr) (c : Nat) (l : List Int) (w : World) (hr : Kd.C (Kd.int .u8) w A l.length l) (hc : l.length ≤ c) (h0 : a0 % 65536 = b0) (h1 : a1 % 65536 = b1) (h4 : a4 % 256 = b4) (h5 : a5 % 65536 = b5) :
    Calls Try.prog 21 #[.agg #[.int .i64 a0, .int .i64 a1, .int .u32 a2, .int .u32 a3, .int .i64 a4, .int .i64 a5, .int .i64 a6, .slice A l.length c]] w fun e w' => e = .returned (.agg #[.int .u16 b0, .int .u16 b1, .int .u32 a2, .int .u32 a3, .int .u8 b4, .int .u16 b5]) ∧ Below w.heap.size w w' := by
  subst h0 h1 h4 h5
  refine seg_of.calls a0 a1 a2 a3 a4 a5 a6 A c l _ _ _ _ _ _ w hr hc ?_
  unfold seg_of.f
  rw [u16_w, u16_w, u16_w]
theorem seg_of_nil (a0 a1 a2 a3 a4 a5 a6 b0 b1 b4 b5 : Int) (A : Option Addr) (c : Nat) (w : World) (hr : Kd.C (Kd.int .u8) w A 0 []) (hc : 0 ≤ c) (h0 : a0 % 65536 = b0) (h1 : a1 % 65536 = b1) (h4 : a4 % 256 = b4) (h5 : a5 % 65536 = b5) :
    Calls Try.prog 21 #[.agg #[.int .i64 a0, .int .i64 a1, .int .u32 a2, .int .u32 a3, .int .i64 a4, .int .i64 a5, .int .i64 a6, .slice A 0 c]] w fun e w' => e = .returned (.agg #[.int .u16 b0, .int .u16 b1, .int .u32 a2, .int .u32 a3, .int .u8 b4, .int .u16 b5]) ∧ Below w.heap.size w w' := seg_of_c a0 a1 a2 a3 a4 a5 a6 b0 b1 b4 b5 A c [] w hr hc h0 h1 h4 h5
theorem seg_seg_c (b0 b1 a2 a3 b4 b5 : Int) (w : World) (h0 : 0 ≤ b0 ∧ b0 < 65536) (h1 : 0 ≤ b1 ∧ b1 < 65536) (h4 : 0 ≤ b4 ∧ b4 < 256) (h5 : 0 ≤ b5 ∧ b5 < 65536) :
    Calls Try.prog 33 #[.agg #[.int .u16 b0, .int .u16 b1, .int .u32 a2, .int .u32 a3, .int .u8 b4, .int .u16 b5]] w fun e w' => ∃ v7_ : Value, e = .returned (.agg #[.int .i64 b0, .int .i64 b1, .int .u32 a2, .int .u32 a3, .int .i64 b4, .int .i64 b5, .int .i64 0, v7_]) ∧ Kd.R (Kd.int .u8) 5 w' w.heap.size (fun _ => True) v7_ [] ∧ Below w.heap.size w w' := by
  refine seg_head_seg.calls b0 b1 a2 a3 b4 b5 b0 b1 a2 a3 b4 b5 0 [] w ?_
  unfold seg_head_seg.f
  rw [wrap64_in b0 (by omega) (by omega), wrap64_in b1 (by omega) (by omega), wrap64_in b4 (by omega) (by omega), wrap64_in b5 (by omega) (by omega)]

set_option maxHeartbeats 3200000 in
set_option maxRecDepth 100000 in
theorem seg_same_0 (a0 a1 a2 a3 a4 a5 a6 b0 b1 b4 b5 : Int) (A : Option Addr) (c : Nat) (l : List Int) (w : World) (hr : Kd.C (Kd.int .u8) w A l.length l) (hc : l.length ≤ c) (h0 : a0 % 65536 = b0) (h1 : a1 % 65536 = b1) (h4 : a4 % 256 = b4) (h5 : a5 % 65536 = b5)  (d63 : decide (a4 ≤ 63) = false) :
    Calls Try.prog 18 #[.agg #[.int .i64 a0, .int .i64 a1, .int .u32 a2, .int .u32 a3, .int .i64 a4, .int .i64 a5, .int .i64 a6, .slice A l.length c]] w fun e w' => e = .returned (.bool false) ∧ Below w.heap.size w w' := by
  have r0 : 0 ≤ b0 ∧ b0 < 65536 := by omega
  have r1 : 0 ≤ b1 ∧ b1 < 65536 := by omega
  have r4 : 0 ≤ b4 ∧ b4 < 256 := by omega
  have r5 : 0 ≤ b5 ∧ b5 < 65536 := by omega
  have HR := Aside0.mk hr
  have HC := Aside0.mk hc
  have H0 := Aside0.mk h0
  have H1 := Aside0.mk h1
  have H4 := Aside0.mk h4
  have H5 := Aside0.mk h5
  clear hr hc h0 h1 h4 h5
  have HB := Aside0.mk (Below.refl w.heap.size w)
  have hb : Below w.heap.size w (w.alloc (.cells #[.int .i64 a0, .int .i64 a1, .int .u32 a2, .int .u32 a3, .int .i64 a4, .int .i64 a5, .int .i64 a6, .slice A l.length c] 25)) := below_new _ _
  replace HB := Aside0.mk (below_then HB.out HB.out.size hb)
  have HGs := Aside0.mk (show (w.alloc (.cells #[.int .i64 a0, .int .i64 a1, .int .u32 a2, .int .u32 a3, .int .i64 a4, .int .i64 a5, .int .i64 a6, .slice A l.length c] 25)).heap[w.heap.size]? = some (.cells #[.int .i64 a0, .int .i64 a1, .int .u32 a2, .int .u32 a3, .int .i64 a4, .int .i64 a5, .int .i64 a6, .slice A l.length c] 25 (0, 0)) from blk_new _ _)
  have hcs_0 := (blk_cell HGs.out 0).trans rfl
  have hcs_1 := (blk_cell HGs.out 1).trans rfl
  have hcs_2 := (blk_cell HGs.out 2).trans rfl
  have hcs_3 := (blk_cell HGs.out 3).trans rfl
  have hcs_4 := (blk_cell HGs.out 4).trans rfl
  have hcs_5 := (blk_cell HGs.out 5).trans rfl
  have hcs_6 := (blk_cell HGs.out 6).trans rfl
  have hcs_7 := (blk_cell HGs.out 7).trans rfl
  clear hb
  go_enter Try.func18, Try.ntmps18
  go_upto_region 2 with (first | (go_at_call 21; (with_reducible refine (seg_of_c a0 a1 a2 a3 a4 a5 a6 b0 b1 b4 b5 A c l _ (Kd.C_below HR.out HB.out) HC.out H0.out H1.out H4.out H5.out).mono ?_); rintro e w1_ ⟨rfl, hb⟩; replace HGs := Aside0.mk (blk_below HGs.out hb); replace HB := Aside0.mk (below_then HB.out HB.out.size hb); replace hcs_0 := (blk_cell HGs.out 0).trans rfl; replace hcs_1 := (blk_cell HGs.out 1).trans rfl; replace hcs_2 := (blk_cell HGs.out 2).trans rfl; replace hcs_3 := (blk_cell HGs.out 3).trans rfl; replace hcs_4 := (blk_cell HGs.out 4).trans rfl; replace hcs_5 := (blk_cell HGs.out 5).trans rfl; replace hcs_6 := (blk_cell HGs.out 6).trans rfl; replace hcs_7 := (blk_cell HGs.out 7).trans rfl; clear hb) | (go_at_call 33; (with_reducible refine (seg_seg_c b0 b1 a2 a3 b4 b5 _ r0 r1 r4 r5).mono ?_); rintro e w2_ ⟨v_, rfl, ho, hb⟩; obtain ⟨At, ct, ee⟩ := Kd.R_slice ho; subst ee; have hN := Aside0.mk (Kd.R_lower ho HB.out.size); replace HGs := Aside0.mk (blk_below HGs.out hb); replace HB := Aside0.mk (below_then HB.out HB.out.size hb); replace hcs_0 := (blk_cell HGs.out 0).trans rfl; replace hcs_1 := (blk_cell HGs.out 1).trans rfl; replace hcs_2 := (blk_cell HGs.out 2).trans rfl; replace hcs_3 := (blk_cell HGs.out 3).trans rfl; replace hcs_4 := (blk_cell HGs.out 4).trans rfl; replace hcs_5 := (blk_cell HGs.out 5).trans rfl; replace hcs_6 := (blk_cell HGs.out 6).trans rfl; replace hcs_7 := (blk_cell HGs.out 7).trans rfl; have HRt := hN; clear hN ho hb))
  have hb : Below w2_.heap.size w2_ (w2_.alloc (.cells #[.int .i64 b0, .int .i64 b1, .int .u32 a2, .int .u32 a3, .int .i64 b4, .int .i64 b5, .int .i64 0, .slice At 0 ct] 25)) := below_new _ _
  replace HRt := Aside0.mk (Kd.R_below HRt.out hb)
  replace HGs := Aside0.mk (blk_below HGs.out hb)
  replace HB := Aside0.mk (below_then HB.out HB.out.size hb)
  replace hcs_0 := (blk_cell HGs.out 0).trans rfl
  replace hcs_1 := (blk_cell HGs.out 1).trans rfl
  replace hcs_2 := (blk_cell HGs.out 2).trans rfl
  replace hcs_3 := (blk_cell HGs.out 3).trans rfl
  replace hcs_4 := (blk_cell HGs.out 4).trans rfl
  replace hcs_5 := (blk_cell HGs.out 5).trans rfl
  replace hcs_6 := (blk_cell HGs.out 6).trans rfl
  replace hcs_7 := (blk_cell HGs.out 7).trans rfl
  have HGt := Aside0.mk (show (w2_.alloc (.cells #[.int .i64 b0, .int .i64 b1, .int .u32 a2, .int .u32 a3, .int .i64 b4, .int .i64 b5, .int .i64 0, .slice At 0 ct] 25)).heap[w2_.heap.size]? = some (.cells #[.int .i64 b0, .int .i64 b1, .int .u32 a2, .int .u32 a3, .int .i64 b4, .int .i64 b5, .int .i64 0, .slice At 0 ct] 25 (0, 0)) from blk_new _ _)
  have hct_0 := (blk_cell HGt.out 0).trans rfl
  have hct_1 := (blk_cell HGt.out 1).trans rfl
  have hct_2 := (blk_cell HGt.out 2).trans rfl
  have hct_3 := (blk_cell HGt.out 3).trans rfl
  have hct_4 := (blk_cell HGt.out 4).trans rfl
  have hct_5 := (blk_cell HGt.out 5).trans rfl
  have hct_6 := (blk_cell HGt.out 6).trans rfl
  have hct_7 := (blk_cell HGt.out 7).trans rfl
  clear hb
  go_quiet (fail)
  go_wp2
  go_ret
  exact ⟨rfl, pw_below_drewN HB.out _⟩
set_option maxHeartbeats 3200000 in
set_option maxRecDepth 100000 in
theorem seg_same_1 (a0 a1 a2 a3 a4 a5 a6 b0 b1 b4 b5 : Int) (A : Option Addr) (c : Nat) (l : List Int) (w : World) (hr : Kd.C (Kd.int .u8) w A l.length l) (hc : l.length ≤ c) (h0 : a0 % 65536 = b0) (h1 : a1 % 65536 = b1) (h4 : a4 % 256 = b4) (h5 : a5 % 65536 = b5) (d63 : decide (a4 ≤ 63) = true) (d0 : (b0 == a0) = false) :
    Calls Try.prog 18 #[.agg #[.int .i64 a0, .int .i64 a1, .int .u32 a2, .int .u32 a3, .int .i64 a4, .int .i64 a5, .int .i64 a6, .slice A l.length c]] w fun e w' => e = .returned (.bool false) ∧ Below w.heap.size w w' := by
  have r0 : 0 ≤ b0 ∧ b0 < 65536 := by omega
  have r1 : 0 ≤ b1 ∧ b1 < 65536 := by omega
  have r4 : 0 ≤ b4 ∧ b4 < 256 := by omega
  have r5 : 0 ≤ b5 ∧ b5 < 65536 := by omega
  have HR := Aside0.mk hr
  have HC := Aside0.mk hc
  have H0 := Aside0.mk h0
  have H1 := Aside0.mk h1
  have H4 := Aside0.mk h4
  have H5 := Aside0.mk h5
  clear hr hc h0 h1 h4 h5
  have HB := Aside0.mk (Below.refl w.heap.size w)
  have hb : Below w.heap.size w (w.alloc (.cells #[.int .i64 a0, .int .i64 a1, .int .u32 a2, .int .u32 a3, .int .i64 a4, .int .i64 a5, .int .i64 a6, .slice A l.length c] 25)) := below_new _ _
  replace HB := Aside0.mk (below_then HB.out HB.out.size hb)
  have HGs := Aside0.mk (show (w.alloc (.cells #[.int .i64 a0, .int .i64 a1, .int .u32 a2, .int .u32 a3, .int .i64 a4, .int .i64 a5, .int .i64 a6, .slice A l.length c] 25)).heap[w.heap.size]? = some (.cells #[.int .i64 a0, .int .i64 a1, .int .u32 a2, .int .u32 a3, .int .i64 a4, .int .i64 a5, .int .i64 a6, .slice A l.length c] 25 (0, 0)) from blk_new _ _)
  have hcs_0 := (blk_cell HGs.out 0).trans rfl
  have hcs_1 := (blk_cell HGs.out 1).trans rfl
  have hcs_2 := (blk_cell HGs.out 2).trans rfl
  have hcs_3 := (blk_cell HGs.out 3).trans rfl
  have hcs_4 := (blk_cell HGs.out 4).trans rfl
  have hcs_5 := (blk_cell HGs.out 5).trans rfl
  have hcs_6 := (blk_cell HGs.out 6).trans rfl
  have hcs_7 := (blk_cell HGs.out 7).trans rfl
  clear hb
  go_enter Try.func18, Try.ntmps18
  go_upto_region 2 with (first | (go_at_call 21; (with_reducible refine (seg_of_c a0 a1 a2 a3 a4 a5 a6 b0 b1 b4 b5 A c l _ (Kd.C_below HR.out HB.out) HC.out H0.out H1.out H4.out H5.out).mono ?_); rintro e w1_ ⟨rfl, hb⟩; replace HGs := Aside0.mk (blk_below HGs.out hb); replace HB := Aside0.mk (below_then HB.out HB.out.size hb); replace hcs_0 := (blk_cell HGs.out 0).trans rfl; replace hcs_1 := (blk_cell HGs.out 1).trans rfl; replace hcs_2 := (blk_cell HGs.out 2).trans rfl; replace hcs_3 := (blk_cell HGs.out 3).trans rfl; replace hcs_4 := (blk_cell HGs.out 4).trans rfl; replace hcs_5 := (blk_cell HGs.out 5).trans rfl; replace hcs_6 := (blk_cell HGs.out 6).trans rfl; replace hcs_7 := (blk_cell HGs.out 7).trans rfl; clear hb) | (go_at_call 33; (with_reducible refine (seg_seg_c b0 b1 a2 a3 b4 b5 _ r0 r1 r4 r5).mono ?_); rintro e w2_ ⟨v_, rfl, ho, hb⟩; obtain ⟨At, ct, ee⟩ := Kd.R_slice ho; subst ee; have hN := Aside0.mk (Kd.R_lower ho HB.out.size); replace HGs := Aside0.mk (blk_below HGs.out hb); replace HB := Aside0.mk (below_then HB.out HB.out.size hb); replace hcs_0 := (blk_cell HGs.out 0).trans rfl; replace hcs_1 := (blk_cell HGs.out 1).trans rfl; replace hcs_2 := (blk_cell HGs.out 2).trans rfl; replace hcs_3 := (blk_cell HGs.out 3).trans rfl; replace hcs_4 := (blk_cell HGs.out 4).trans rfl; replace hcs_5 := (blk_cell HGs.out 5).trans rfl; replace hcs_6 := (blk_cell HGs.out 6).trans rfl; replace hcs_7 := (blk_cell HGs.out 7).trans rfl; have HRt := hN; clear hN ho hb))
  have hb : Below w2_.heap.size w2_ (w2_.alloc (.cells #[.int .i64 b0, .int .i64 b1, .int .u32 a2, .int .u32 a3, .int .i64 b4, .int .i64 b5, .int .i64 0, .slice At 0 ct] 25)) := below_new _ _
  replace HRt := Aside0.mk (Kd.R_below HRt.out hb)
  replace HGs := Aside0.mk (blk_below HGs.out hb)
  replace HB := Aside0.mk (below_then HB.out HB.out.size hb)
  replace hcs_0 := (blk_cell HGs.out 0).trans rfl
  replace hcs_1 := (blk_cell HGs.out 1).trans rfl
  replace hcs_2 := (blk_cell HGs.out 2).trans rfl
  replace hcs_3 := (blk_cell HGs.out 3).trans rfl
  replace hcs_4 := (blk_cell HGs.out 4).trans rfl
  replace hcs_5 := (blk_cell HGs.out 5).trans rfl
  replace hcs_6 := (blk_cell HGs.out 6).trans rfl
  replace hcs_7 := (blk_cell HGs.out 7).trans rfl
  have HGt := Aside0.mk (show (w2_.alloc (.cells #[.int .i64 b0, .int .i64 b1, .int .u32 a2, .int .u32 a3, .int .i64 b4, .int .i64 b5, .int .i64 0, .slice At 0 ct] 25)).heap[w2_.heap.size]? = some (.cells #[.int .i64 b0, .int .i64 b1, .int .u32 a2, .int .u32 a3, .int .i64 b4, .int .i64 b5, .int .i64 0, .slice At 0 ct] 25 (0, 0)) from blk_new _ _)
  have hct_0 := (blk_cell HGt.out 0).trans rfl
  have hct_1 := (blk_cell HGt.out 1).trans rfl
  have hct_2 := (blk_cell HGt.out 2).trans rfl
  have hct_3 := (blk_cell HGt.out 3).trans rfl
  have hct_4 := (blk_cell HGt.out 4).trans rfl
  have hct_5 := (blk_cell HGt.out 5).trans rfl
  have hct_6 := (blk_cell HGt.out 6).trans rfl
  have hct_7 := (blk_cell HGt.out 7).trans rfl
  clear hb
  go_quiet (fail)
  go_wp2
  go_ret
  exact ⟨rfl, pw_below_drewN HB.out _⟩
set_option maxHeartbeats 3200000 in
set_option maxRecDepth 100000 in
theorem seg_same_2 (a0 a1 a2 a3 a4 a5 a6 b0 b1 b4 b5 : Int) (A : Option Addr) (c : Nat) (l : List Int) (w : World) (hr : Kd.C (Kd.int .u8) w A l.length l) (hc : l.length ≤ c) (h0 : a0 % 65536 = b0) (h1 : a1 % 65536 = b1) (h4 : a4 % 256 = b4) (h5 : a5 % 65536 = b5) (d63 : decide (a4 ≤ 63) = true) (d0 : (b0 == a0) = true) (d1 : (b1 == a1) = false) :
    Calls Try.prog 18 #[.agg #[.int .i64 a0, .int .i64 a1, .int .u32 a2, .int .u32 a3, .int .i64 a4, .int .i64 a5, .int .i64 a6, .slice A l.length c]] w fun e w' => e = .returned (.bool false) ∧ Below w.heap.size w w' := by
  have r0 : 0 ≤ b0 ∧ b0 < 65536 := by omega
  have r1 : 0 ≤ b1 ∧ b1 < 65536 := by omega
  have r4 : 0 ≤ b4 ∧ b4 < 256 := by omega
  have r5 : 0 ≤ b5 ∧ b5 < 65536 := by omega
  have HR := Aside0.mk hr
  have HC := Aside0.mk hc
  have H0 := Aside0.mk h0
  have H1 := Aside0.mk h1
  have H4 := Aside0.mk h4
  have H5 := Aside0.mk h5
  clear hr hc h0 h1 h4 h5
  have HB := Aside0.mk (Below.refl w.heap.size w)
  have hb : Below w.heap.size w (w.alloc (.cells #[.int .i64 a0, .int .i64 a1, .int .u32 a2, .int .u32 a3, .int .i64 a4, .int .i64 a5, .int .i64 a6, .slice A l.length c] 25)) := below_new _ _
  replace HB := Aside0.mk (below_then HB.out HB.out.size hb)
  have HGs := Aside0.mk (show (w.alloc (.cells #[.int .i64 a0, .int .i64 a1, .int .u32 a2, .int .u32 a3, .int .i64 a4, .int .i64 a5, .int .i64 a6, .slice A l.length c] 25)).heap[w.heap.size]? = some (.cells #[.int .i64 a0, .int .i64 a1, .int .u32 a2, .int .u32 a3, .int .i64 a4, .int .i64 a5, .int .i64 a6, .slice A l.length c] 25 (0, 0)) from blk_new _ _)
  have hcs_0 := (blk_cell HGs.out 0).trans rfl
  have hcs_1 := (blk_cell HGs.out 1).trans rfl
  have hcs_2 := (blk_cell HGs.out 2).trans rfl
  have hcs_3 := (blk_cell HGs.out 3).trans rfl
  have hcs_4 := (blk_cell HGs.out 4).trans rfl
  have hcs_5 := (blk_cell HGs.out 5).trans rfl
  have hcs_6 := (blk_cell HGs.out 6).trans rfl
  have hcs_7 := (blk_cell HGs.out 7).trans rfl
  clear hb
  go_enter Try.func18, Try.ntmps18
  go_upto_region 2 with (first | (go_at_call 21; (with_reducible refine (seg_of_c a0 a1 a2 a3 a4 a5 a6 b0 b1 b4 b5 A c l _ (Kd.C_below HR.out HB.out) HC.out H0.out H1.out H4.out H5.out).mono ?_); rintro e w1_ ⟨rfl, hb⟩; replace HGs := Aside0.mk (blk_below HGs.out hb); replace HB := Aside0.mk (below_then HB.out HB.out.size hb); replace hcs_0 := (blk_cell HGs.out 0).trans rfl; replace hcs_1 := (blk_cell HGs.out 1).trans rfl; replace hcs_2 := (blk_cell HGs.out 2).trans rfl; replace hcs_3 := (blk_cell HGs.out 3).trans rfl; replace hcs_4 := (blk_cell HGs.out 4).trans rfl; replace hcs_5 := (blk_cell HGs.out 5).trans rfl; replace hcs_6 := (blk_cell HGs.out 6).trans rfl; replace hcs_7 := (blk_cell HGs.out 7).trans rfl; clear hb) | (go_at_call 33; (with_reducible refine (seg_seg_c b0 b1 a2 a3 b4 b5 _ r0 r1 r4 r5).mono ?_); rintro e w2_ ⟨v_, rfl, ho, hb⟩; obtain ⟨At, ct, ee⟩ := Kd.R_slice ho; subst ee; have hN := Aside0.mk (Kd.R_lower ho HB.out.size); replace HGs := Aside0.mk (blk_below HGs.out hb); replace HB := Aside0.mk (below_then HB.out HB.out.size hb); replace hcs_0 := (blk_cell HGs.out 0).trans rfl; replace hcs_1 := (blk_cell HGs.out 1).trans rfl; replace hcs_2 := (blk_cell HGs.out 2).trans rfl; replace hcs_3 := (blk_cell HGs.out 3).trans rfl; replace hcs_4 := (blk_cell HGs.out 4).trans rfl; replace hcs_5 := (blk_cell HGs.out 5).trans rfl; replace hcs_6 := (blk_cell HGs.out 6).trans rfl; replace hcs_7 := (blk_cell HGs.out 7).trans rfl; have HRt := hN; clear hN ho hb))
  have hb : Below w2_.heap.size w2_ (w2_.alloc (.cells #[.int .i64 b0, .int .i64 b1, .int .u32 a2, .int .u32 a3, .int .i64 b4, .int .i64 b5, .int .i64 0, .slice At 0 ct] 25)) := below_new _ _
  replace HRt := Aside0.mk (Kd.R_below HRt.out hb)
  replace HGs := Aside0.mk (blk_below HGs.out hb)
  replace HB := Aside0.mk (below_then HB.out HB.out.size hb)
  replace hcs_0 := (blk_cell HGs.out 0).trans rfl
  replace hcs_1 := (blk_cell HGs.out 1).trans rfl
  replace hcs_2 := (blk_cell HGs.out 2).trans rfl
  replace hcs_3 := (blk_cell HGs.out 3).trans rfl
  replace hcs_4 := (blk_cell HGs.out 4).trans rfl
  replace hcs_5 := (blk_cell HGs.out 5).trans rfl
  replace hcs_6 := (blk_cell HGs.out 6).trans rfl
  replace hcs_7 := (blk_cell HGs.out 7).trans rfl
  have HGt := Aside0.mk (show (w2_.alloc (.cells #[.int .i64 b0, .int .i64 b1, .int .u32 a2, .int .u32 a3, .int .i64 b4, .int .i64 b5, .int .i64 0, .slice At 0 ct] 25)).heap[w2_.heap.size]? = some (.cells #[.int .i64 b0, .int .i64 b1, .int .u32 a2, .int .u32 a3, .int .i64 b4, .int .i64 b5, .int .i64 0, .slice At 0 ct] 25 (0, 0)) from blk_new _ _)
  have hct_0 := (blk_cell HGt.out 0).trans rfl
  have hct_1 := (blk_cell HGt.out 1).trans rfl
  have hct_2 := (blk_cell HGt.out 2).trans rfl
  have hct_3 := (blk_cell HGt.out 3).trans rfl
  have hct_4 := (blk_cell HGt.out 4).trans rfl
  have hct_5 := (blk_cell HGt.out 5).trans rfl
  have hct_6 := (blk_cell HGt.out 6).trans rfl
  have hct_7 := (blk_cell HGt.out 7).trans rfl
  clear hb
  go_quiet (fail)
  go_wp2
  go_ret
  exact ⟨rfl, pw_below_drewN HB.out _⟩
set_option maxHeartbeats 3200000 in
set_option maxRecDepth 100000 in
theorem seg_same_3 (a0 a1 a2 a3 a4 a5 a6 b0 b1 b4 b5 : Int) (A : Option Addr) (c : Nat) (l : List Int) (w : World) (hr : Kd.C (Kd.int .u8) w A l.length l) (hc : l.length ≤ c) (h0 : a0 % 65536 = b0) (h1 : a1 % 65536 = b1) (h4 : a4 % 256 = b4) (h5 : a5 % 65536 = b5) (d63 : decide (a4 ≤ 63) = true) (d0 : (b0 == a0) = true) (d1 : (b1 == a1) = true) (d4 : (b4 == a4) = false) :
    Calls Try.prog 18 #[.agg #[.int .i64 a0, .int .i64 a1, .int .u32 a2, .int .u32 a3, .int .i64 a4, .int .i64 a5, .int .i64 a6, .slice A l.length c]] w fun e w' => e = .returned (.bool false) ∧ Below w.heap.size w w' := by
  have r0 : 0 ≤ b0 ∧ b0 < 65536 := by omega
  have r1 : 0 ≤ b1 ∧ b1 < 65536 := by omega
  have r4 : 0 ≤ b4 ∧ b4 < 256 := by omega
  have r5 : 0 ≤ b5 ∧ b5 < 65536 := by omega
  have HR := Aside0.mk hr
  have HC := Aside0.mk hc
  have H0 := Aside0.mk h0
  have H1 := Aside0.mk h1
  have H4 := Aside0.mk h4
  have H5 := Aside0.mk h5
  clear hr hc h0 h1 h4 h5
  have HB := Aside0.mk (Below.refl w.heap.size w)
  have hb : Below w.heap.size w (w.alloc (.cells #[.int .i64 a0, .int .i64 a1, .int .u32 a2, .int .u32 a3, .int .i64 a4, .int .i64 a5, .int .i64 a6, .slice A l.length c] 25)) := below_new _ _
  replace HB := Aside0.mk (below_then HB.out HB.out.size hb)
  have HGs := Aside0.mk (show (w.alloc (.cells #[.int .i64 a0, .int .i64 a1, .int .u32 a2, .int .u32 a3, .int .i64 a4, .int .i64 a5, .int .i64 a6, .slice A l.length c] 25)).heap[w.heap.size]? = some (.cells #[.int .i64 a0, .int .i64 a1, .int .u32 a2, .int .u32 a3, .int .i64 a4, .int .i64 a5, .int .i64 a6, .slice A l.length c] 25 (0, 0)) from blk_new _ _)
  have hcs_0 := (blk_cell HGs.out 0).trans rfl
  have hcs_1 := (blk_cell HGs.out 1).trans rfl
  have hcs_2 := (blk_cell HGs.out 2).trans rfl
  have hcs_3 := (blk_cell HGs.out 3).trans rfl
  have hcs_4 := (blk_cell HGs.out 4).trans rfl
  have hcs_5 := (blk_cell HGs.out 5).trans rfl
  have hcs_6 := (blk_cell HGs.out 6).trans rfl
  have hcs_7 := (blk_cell HGs.out 7).trans rfl
  clear hb
  go_enter Try.func18, Try.ntmps18
  go_upto_region 2 with (first | (go_at_call 21; (with_reducible refine (seg_of_c a0 a1 a2 a3 a4 a5 a6 b0 b1 b4 b5 A c l _ (Kd.C_below HR.out HB.out) HC.out H0.out H1.out H4.out H5.out).mono ?_); rintro e w1_ ⟨rfl, hb⟩; replace HGs := Aside0.mk (blk_below HGs.out hb); replace HB := Aside0.mk (below_then HB.out HB.out.size hb); replace hcs_0 := (blk_cell HGs.out 0).trans rfl; replace hcs_1 := (blk_cell HGs.out 1).trans rfl; replace hcs_2 := (blk_cell HGs.out 2).trans rfl; replace hcs_3 := (blk_cell HGs.out 3).trans rfl; replace hcs_4 := (blk_cell HGs.out 4).trans rfl; replace hcs_5 := (blk_cell HGs.out 5).trans rfl; replace hcs_6 := (blk_cell HGs.out 6).trans rfl; replace hcs_7 := (blk_cell HGs.out 7).trans rfl; clear hb) | (go_at_call 33; (with_reducible refine (seg_seg_c b0 b1 a2 a3 b4 b5 _ r0 r1 r4 r5).mono ?_); rintro e w2_ ⟨v_, rfl, ho, hb⟩; obtain ⟨At, ct, ee⟩ := Kd.R_slice ho; subst ee; have hN := Aside0.mk (Kd.R_lower ho HB.out.size); replace HGs := Aside0.mk (blk_below HGs.out hb); replace HB := Aside0.mk (below_then HB.out HB.out.size hb); replace hcs_0 := (blk_cell HGs.out 0).trans rfl; replace hcs_1 := (blk_cell HGs.out 1).trans rfl; replace hcs_2 := (blk_cell HGs.out 2).trans rfl; replace hcs_3 := (blk_cell HGs.out 3).trans rfl; replace hcs_4 := (blk_cell HGs.out 4).trans rfl; replace hcs_5 := (blk_cell HGs.out 5).trans rfl; replace hcs_6 := (blk_cell HGs.out 6).trans rfl; replace hcs_7 := (blk_cell HGs.out 7).trans rfl; have HRt := hN; clear hN ho hb))
  have hb : Below w2_.heap.size w2_ (w2_.alloc (.cells #[.int .i64 b0, .int .i64 b1, .int .u32 a2, .int .u32 a3, .int .i64 b4, .int .i64 b5, .int .i64 0, .slice At 0 ct] 25)) := below_new _ _
  replace HRt := Aside0.mk (Kd.R_below HRt.out hb)
  replace HGs := Aside0.mk (blk_below HGs.out hb)
  replace HB := Aside0.mk (below_then HB.out HB.out.size hb)
  replace hcs_0 := (blk_cell HGs.out 0).trans rfl
  replace hcs_1 := (blk_cell HGs.out 1).trans rfl
  replace hcs_2 := (blk_cell HGs.out 2).trans rfl
  replace hcs_3 := (blk_cell HGs.out 3).trans rfl
  replace hcs_4 := (blk_cell HGs.out 4).trans rfl
  replace hcs_5 := (blk_cell HGs.out 5).trans rfl
  replace hcs_6 := (blk_cell HGs.out 6).trans rfl
  replace hcs_7 := (blk_cell HGs.out 7).trans rfl
  have HGt := Aside0.mk (show (w2_.alloc (.cells #[.int .i64 b0, .int .i64 b1, .int .u32 a2, .int .u32 a3, .int .i64 b4, .int .i64 b5, .int .i64 0, .slice At 0 ct] 25)).heap[w2_.heap.size]? = some (.cells #[.int .i64 b0, .int .i64 b1, .int .u32 a2, .int .u32 a3, .int .i64 b4, .int .i64 b5, .int .i64 0, .slice At 0 ct] 25 (0, 0)) from blk_new _ _)
  have hct_0 := (blk_cell HGt.out 0).trans rfl
  have hct_1 := (blk_cell HGt.out 1).trans rfl
  have hct_2 := (blk_cell HGt.out 2).trans rfl
  have hct_3 := (blk_cell HGt.out 3).trans rfl
  have hct_4 := (blk_cell HGt.out 4).trans rfl
  have hct_5 := (blk_cell HGt.out 5).trans rfl
  have hct_6 := (blk_cell HGt.out 6).trans rfl
  have hct_7 := (blk_cell HGt.out 7).trans rfl
  clear hb
  go_quiet (fail)
  go_wp2
  go_ret
  exact ⟨rfl, pw_below_drewN HB.out _⟩
set_option maxHeartbeats 3200000 in
set_option maxRecDepth 100000 in
theorem seg_same_4 (a0 a1 a2 a3 a4 a5 a6 b0 b1 b4 b5 : Int) (A : Option Addr) (c : Nat) (l : List Int) (w : World) (hr : Kd.C (Kd.int .u8) w A l.length l) (hc : l.length ≤ c) (h0 : a0 % 65536 = b0) (h1 : a1 % 65536 = b1) (h4 : a4 % 256 = b4) (h5 : a5 % 65536 = b5) (d63 : decide (a4 ≤ 63) = true) (d0 : (b0 == a0) = true) (d1 : (b1 == a1) = true) (d4 : (b4 == a4) = true) (d5 : (b5 == a5) = false) :
    Calls Try.prog 18 #[.agg #[.int .i64 a0, .int .i64 a1, .int .u32 a2, .int .u32 a3, .int .i64 a4, .int .i64 a5, .int .i64 a6, .slice A l.length c]] w fun e w' => e = .returned (.bool false) ∧ Below w.heap.size w w' := by
  have r0 : 0 ≤ b0 ∧ b0 < 65536 := by omega
  have r1 : 0 ≤ b1 ∧ b1 < 65536 := by omega
  have r4 : 0 ≤ b4 ∧ b4 < 256 := by omega
  have r5 : 0 ≤ b5 ∧ b5 < 65536 := by omega
  have HR := Aside0.mk hr
  have HC := Aside0.mk hc
  have H0 := Aside0.mk h0
  have H1 := Aside0.mk h1
  have H4 := Aside0.mk h4
  have H5 := Aside0.mk h5
  clear hr hc h0 h1 h4 h5
  have HB := Aside0.mk (Below.refl w.heap.size w)
  have hb : Below w.heap.size w (w.alloc (.cells #[.int .i64 a0, .int .i64 a1, .int .u32 a2, .int .u32 a3, .int .i64 a4, .int .i64 a5, .int .i64 a6, .slice A l.length c] 25)) := below_new _ _
  replace HB := Aside0.mk (below_then HB.out HB.out.size hb)
  have HGs := Aside0.mk (show (w.alloc (.cells #[.int .i64 a0, .int .i64 a1, .int .u32 a2, .int .u32 a3, .int .i64 a4, .int .i64 a5, .int .i64 a6, .slice A l.length c] 25)).heap[w.heap.size]? = some (.cells #[.int .i64 a0, .int .i64 a1, .int .u32 a2, .int .u32 a3, .int .i64 a4, .int .i64 a5, .int .i64 a6, .slice A l.length c] 25 (0, 0)) from blk_new _ _)
  have hcs_0 := (blk_cell HGs.out 0).trans rfl
  have hcs_1 := (blk_cell HGs.out 1).trans rfl
  have hcs_2 := (blk_cell HGs.out 2).trans rfl
  have hcs_3 := (blk_cell HGs.out 3).trans rfl
  have hcs_4 := (blk_cell HGs.out 4).trans rfl
  have hcs_5 := (blk_cell HGs.out 5).trans rfl
  have hcs_6 := (blk_cell HGs.out 6).trans rfl
  have hcs_7 := (blk_cell HGs.out 7).trans rfl
  clear hb
  go_enter Try.func18, Try.ntmps18
  go_upto_region 2 with (first | (go_at_call 21; (with_reducible refine (seg_of_c a0 a1 a2 a3 a4 a5 a6 b0 b1 b4 b5 A c l _ (Kd.C_below HR.out HB.out) HC.out H0.out H1.out H4.out H5.out).mono ?_); rintro e w1_ ⟨rfl, hb⟩; replace HGs := Aside0.mk (blk_below HGs.out hb); replace HB := Aside0.mk (below_then HB.out HB.out.size hb); replace hcs_0 := (blk_cell HGs.out 0).trans rfl; replace hcs_1 := (blk_cell HGs.out 1).trans rfl; replace hcs_2 := (blk_cell HGs.out 2).trans rfl; replace hcs_3 := (blk_cell HGs.out 3).trans rfl; replace hcs_4 := (blk_cell HGs.out 4).trans rfl; replace hcs_5 := (blk_cell HGs.out 5).trans rfl; replace hcs_6 := (blk_cell HGs.out 6).trans rfl; replace hcs_7 := (blk_cell HGs.out 7).trans rfl; clear hb) | (go_at_call 33; (with_reducible refine (seg_seg_c b0 b1 a2 a3 b4 b5 _ r0 r1 r4 r5).mono ?_); rintro e w2_ ⟨v_, rfl, ho, hb⟩; obtain ⟨At, ct, ee⟩ := Kd.R_slice ho; subst ee; have hN := Aside0.mk (Kd.R_lower ho HB.out.size); replace HGs := Aside0.mk (blk_below HGs.out hb); replace HB := Aside0.mk (below_then HB.out HB.out.size hb); replace hcs_0 := (blk_cell HGs.out 0).trans rfl; replace hcs_1 := (blk_cell HGs.out 1).trans rfl; replace hcs_2 := (blk_cell HGs.out 2).trans rfl; replace hcs_3 := (blk_cell HGs.out 3).trans rfl; replace hcs_4 := (blk_cell HGs.out 4).trans rfl; replace hcs_5 := (blk_cell HGs.out 5).trans rfl; replace hcs_6 := (blk_cell HGs.out 6).trans rfl; replace hcs_7 := (blk_cell HGs.out 7).trans rfl; have HRt := hN; clear hN ho hb))
  have hb : Below w2_.heap.size w2_ (w2_.alloc (.cells #[.int .i64 b0, .int .i64 b1, .int .u32 a2, .int .u32 a3, .int .i64 b4, .int .i64 b5, .int .i64 0, .slice At 0 ct] 25)) := below_new _ _
  replace HRt := Aside0.mk (Kd.R_below HRt.out hb)
  replace HGs := Aside0.mk (blk_below HGs.out hb)
  replace HB := Aside0.mk (below_then HB.out HB.out.size hb)
  replace hcs_0 := (blk_cell HGs.out 0).trans rfl
  replace hcs_1 := (blk_cell HGs.out 1).trans rfl
  replace hcs_2 := (blk_cell HGs.out 2).trans rfl
  replace hcs_3 := (blk_cell HGs.out 3).trans rfl
  replace hcs_4 := (blk_cell HGs.out 4).trans rfl
  replace hcs_5 := (blk_cell HGs.out 5).trans rfl
  replace hcs_6 := (blk_cell HGs.out 6).trans rfl
  replace hcs_7 := (blk_cell HGs.out 7).trans rfl
  have HGt := Aside0.mk (show (w2_.alloc (.cells #[.int .i64 b0, .int .i64 b1, .int .u32 a2, .int .u32 a3, .int .i64 b4, .int .i64 b5, .int .i64 0, .slice At 0 ct] 25)).heap[w2_.heap.size]? = some (.cells #[.int .i64 b0, .int .i64 b1, .int .u32 a2, .int .u32 a3, .int .i64 b4, .int .i64 b5, .int .i64 0, .slice At 0 ct] 25 (0, 0)) from blk_new _ _)
  have hct_0 := (blk_cell HGt.out 0).trans rfl
  have hct_1 := (blk_cell HGt.out 1).trans rfl
  have hct_2 := (blk_cell HGt.out 2).trans rfl
  have hct_3 := (blk_cell HGt.out 3).trans rfl
  have hct_4 := (blk_cell HGt.out 4).trans rfl
  have hct_5 := (blk_cell HGt.out 5).trans rfl
  have hct_6 := (blk_cell HGt.out 6).trans rfl
  have hct_7 := (blk_cell HGt.out 7).trans rfl
  clear hb
  go_quiet (fail)
  go_wp2
  go_ret
  exact ⟨rfl, pw_below_drewN HB.out _⟩
set_option maxHeartbeats 3200000 in
set_option maxRecDepth 100000 in
theorem seg_same_5 (a0 a1 a2 a3 a4 a5 a6 b0 b1 b4 b5 : Int) (A : Option Addr) (c : Nat) (l : List Int) (w : World) (hr : Kd.C (Kd.int .u8) w A l.length l) (hc : l.length ≤ c) (h0 : a0 % 65536 = b0) (h1 : a1 % 65536 = b1) (h4 : a4 % 256 = b4) (h5 : a5 % 65536 = b5) (d63 : decide (a4 ≤ 63) = true) (d0 : (b0 == a0) = true) (d1 : (b1 == a1) = true) (d4 : (b4 == a4) = true) (d5 : (b5 == a5) = true) :
    Calls Try.prog 18 #[.agg #[.int .i64 a0, .int .i64 a1, .int .u32 a2, .int .u32 a3, .int .i64 a4, .int .i64 a5, .int .i64 a6, .slice A l.length c]] w fun e w' => e = .returned (.bool true) ∧ Below w.heap.size w w' := by
  obtain rfl : b0 = a0 := by simpa using d0
  obtain rfl : b1 = a1 := by simpa using d1
  obtain rfl : b4 = a4 := by simpa using d4
  obtain rfl : b5 = a5 := by simpa using d5
  clear d0 d1 d4 d5
  have r0 : 0 ≤ b0 ∧ b0 < 65536 := by omega
  have r1 : 0 ≤ b1 ∧ b1 < 65536 := by omega
  have r4 : 0 ≤ b4 ∧ b4 < 256 := by omega
  have r5 : 0 ≤ b5 ∧ b5 < 65536 := by omega
  have HR := Aside0.mk hr
  have HC := Aside0.mk hc
  have H0 := Aside0.mk h0
  have H1 := Aside0.mk h1
  have H4 := Aside0.mk h4
  have H5 := Aside0.mk h5
  clear hr hc h0 h1 h4 h5
  have HB := Aside0.mk (Below.refl w.heap.size w)
  have hb : Below w.heap.size w (w.alloc (.cells #[.int .i64 b0, .int .i64 b1, .int .u32 a2, .int .u32 a3, .int .i64 b4, .int .i64 b5, .int .i64 a6, .slice A l.length c] 25)) := below_new _ _
  replace HB := Aside0.mk (below_then HB.out HB.out.size hb)
  have HGs := Aside0.mk (show (w.alloc (.cells #[.int .i64 b0, .int .i64 b1, .int .u32 a2, .int .u32 a3, .int .i64 b4, .int .i64 b5, .int .i64 a6, .slice A l.length c] 25)).heap[w.heap.size]? = some (.cells #[.int .i64 b0, .int .i64 b1, .int .u32 a2, .int .u32 a3, .int .i64 b4, .int .i64 b5, .int .i64 a6, .slice A l.length c] 25 (0, 0)) from blk_new _ _)
  have hcs_0 := (blk_cell HGs.out 0).trans rfl
  have hcs_1 := (blk_cell HGs.out 1).trans rfl
  have hcs_2 := (blk_cell HGs.out 2).trans rfl
  have hcs_3 := (blk_cell HGs.out 3).trans rfl
  have hcs_4 := (blk_cell HGs.out 4).trans rfl
  have hcs_5 := (blk_cell HGs.out 5).trans rfl
  have hcs_6 := (blk_cell HGs.out 6).trans rfl
  have hcs_7 := (blk_cell HGs.out 7).trans rfl
  clear hb
  go_enter Try.func18, Try.ntmps18
  go_upto_region 2 with (first | (go_at_call 21; (with_reducible refine (seg_of_c b0 b1 a2 a3 b4 b5 a6 b0 b1 b4 b5 A c l _ (Kd.C_below HR.out HB.out) HC.out H0.out H1.out H4.out H5.out).mono ?_); rintro e w1_ ⟨rfl, hb⟩; replace HGs := Aside0.mk (blk_below HGs.out hb); replace HB := Aside0.mk (below_then HB.out HB.out.size hb); replace hcs_0 := (blk_cell HGs.out 0).trans rfl; replace hcs_1 := (blk_cell HGs.out 1).trans rfl; replace hcs_2 := (blk_cell HGs.out 2).trans rfl; replace hcs_3 := (blk_cell HGs.out 3).trans rfl; replace hcs_4 := (blk_cell HGs.out 4).trans rfl; replace hcs_5 := (blk_cell HGs.out 5).trans rfl; replace hcs_6 := (blk_cell HGs.out 6).trans rfl; replace hcs_7 := (blk_cell HGs.out 7).trans rfl; clear hb) | (go_at_call 33; (with_reducible refine (seg_seg_c b0 b1 a2 a3 b4 b5 _ r0 r1 r4 r5).mono ?_); rintro e w2_ ⟨v_, rfl, ho, hb⟩; obtain ⟨At, ct, ee⟩ := Kd.R_slice ho; subst ee; have hN := Aside0.mk (Kd.R_lower ho HB.out.size); replace HGs := Aside0.mk (blk_below HGs.out hb); replace HB := Aside0.mk (below_then HB.out HB.out.size hb); replace hcs_0 := (blk_cell HGs.out 0).trans rfl; replace hcs_1 := (blk_cell HGs.out 1).trans rfl; replace hcs_2 := (blk_cell HGs.out 2).trans rfl; replace hcs_3 := (blk_cell HGs.out 3).trans rfl; replace hcs_4 := (blk_cell HGs.out 4).trans rfl; replace hcs_5 := (blk_cell HGs.out 5).trans rfl; replace hcs_6 := (blk_cell HGs.out 6).trans rfl; replace hcs_7 := (blk_cell HGs.out 7).trans rfl; have HRt := hN; clear hN ho hb))
  have hb : Below w2_.heap.size w2_ (w2_.alloc (.cells #[.int .i64 b0, .int .i64 b1, .int .u32 a2, .int .u32 a3, .int .i64 b4, .int .i64 b5, .int .i64 0, .slice At 0 ct] 25)) := below_new _ _
  replace HRt := Aside0.mk (Kd.R_below HRt.out hb)
  replace HGs := Aside0.mk (blk_below HGs.out hb)
  replace HB := Aside0.mk (below_then HB.out HB.out.size hb)
  replace hcs_0 := (blk_cell HGs.out 0).trans rfl
  replace hcs_1 := (blk_cell HGs.out 1).trans rfl
  replace hcs_2 := (blk_cell HGs.out 2).trans rfl
  replace hcs_3 := (blk_cell HGs.out 3).trans rfl
  replace hcs_4 := (blk_cell HGs.out 4).trans rfl
  replace hcs_5 := (blk_cell HGs.out 5).trans rfl
  replace hcs_6 := (blk_cell HGs.out 6).trans rfl
  replace hcs_7 := (blk_cell HGs.out 7).trans rfl
  have HGt := Aside0.mk (show (w2_.alloc (.cells #[.int .i64 b0, .int .i64 b1, .int .u32 a2, .int .u32 a3, .int .i64 b4, .int .i64 b5, .int .i64 0, .slice At 0 ct] 25)).heap[w2_.heap.size]? = some (.cells #[.int .i64 b0, .int .i64 b1, .int .u32 a2, .int .u32 a3, .int .i64 b4, .int .i64 b5, .int .i64 0, .slice At 0 ct] 25 (0, 0)) from blk_new _ _)
  have hct_0 := (blk_cell HGt.out 0).trans rfl
  have hct_1 := (blk_cell HGt.out 1).trans rfl
  have hct_2 := (blk_cell HGt.out 2).trans rfl
  have hct_3 := (blk_cell HGt.out 3).trans rfl
  have hct_4 := (blk_cell HGt.out 4).trans rfl
  have hct_5 := (blk_cell HGt.out 5).trans rfl
  have hct_6 := (blk_cell HGt.out 6).trans rfl
  have hct_7 := (blk_cell HGt.out 7).trans rfl
  clear hb
  replace HRt := Aside0.mk (Kd.R_drew HRt.out)
  replace HGs := Aside0.mk (blk_drew HGs.out)
  replace HGt := Aside0.mk (blk_drew HGt.out)
  replace HB := Aside0.mk HB.out.drew
  have hKS : ((w2_.alloc (.cells #[.int .i64 b0, .int .i64 b1, .int .u32 a2, .int .u32 a3, .int .i64 b4, .int .i64 b5, .int .i64 0, .slice At 0 ct] 25)).drew.cell? ⟨w.heap.size, 0, none⟩ = some (.int .i64 b0) ∧ (w2_.alloc (.cells #[.int .i64 b0, .int .i64 b1, .int .u32 a2, .int .u32 a3, .int .i64 b4, .int .i64 b5, .int .i64 0, .slice At 0 ct] 25)).drew.cell? ⟨w.heap.size, 1, none⟩ = some (.int .i64 b1) ∧ (w2_.alloc (.cells #[.int .i64 b0, .int .i64 b1, .int .u32 a2, .int .u32 a3, .int .i64 b4, .int .i64 b5, .int .i64 0, .slice At 0 ct] 25)).drew.cell? ⟨w.heap.size, 2, none⟩ = some (.int .u32 a2) ∧ (w2_.alloc (.cells #[.int .i64 b0, .int .i64 b1, .int .u32 a2, .int .u32 a3, .int .i64 b4, .int .i64 b5, .int .i64 0, .slice At 0 ct] 25)).drew.cell? ⟨w.heap.size, 3, none⟩ = some (.int .u32 a3) ∧ (w2_.alloc (.cells #[.int .i64 b0, .int .i64 b1, .int .u32 a2, .int .u32 a3, .int .i64 b4, .int .i64 b5, .int .i64 0, .slice At 0 ct] 25)).drew.cell? ⟨w.heap.size, 4, none⟩ = some (.int .i64 b4) ∧ (w2_.alloc (.cells #[.int .i64 b0, .int .i64 b1, .int .u32 a2, .int .u32 a3, .int .i64 b4, .int .i64 b5, .int .i64 0, .slice At 0 ct] 25)).drew.cell? ⟨w.heap.size, 5, none⟩ = some (.int .i64 b5) ∧ (w2_.alloc (.cells #[.int .i64 b0, .int .i64 b1, .int .u32 a2, .int .u32 a3, .int .i64 b4, .int .i64 b5, .int .i64 0, .slice At 0 ct] 25)).drew.cell? ⟨w.heap.size, 6, none⟩ = some (.int .i64 a6) ∧ (w2_.alloc (.cells #[.int .i64 b0, .int .i64 b1, .int .u32 a2, .int .u32 a3, .int .i64 b4, .int .i64 b5, .int .i64 0, .slice At 0 ct] 25)).drew.cell? ⟨w.heap.size, 7, none⟩ = some (.slice A l.length c) ∧ (w2_.alloc (.cells #[.int .i64 b0, .int .i64 b1, .int .u32 a2, .int .u32 a3, .int .i64 b4, .int .i64 b5, .int .i64 0, .slice At 0 ct] 25)).drew.cell? ⟨w2_.heap.size, 0, none⟩ = some (.int .i64 b0) ∧ (w2_.alloc (.cells #[.int .i64 b0, .int .i64 b1, .int .u32 a2, .int .u32 a3, .int .i64 b4, .int .i64 b5, .int .i64 0, .slice At 0 ct] 25)).drew.cell? ⟨w2_.heap.size, 1, none⟩ = some (.int .i64 b1) ∧ (w2_.alloc (.cells #[.int .i64 b0, .int .i64 b1, .int .u32 a2, .int .u32 a3, .int .i64 b4, .int .i64 b5, .int .i64 0, .slice At 0 ct] 25)).drew.cell? ⟨w2_.heap.size, 2, none⟩ = some (.int .u32 a2) ∧ (w2_.alloc (.cells #[.int .i64 b0, .int .i64 b1, .int .u32 a2, .int .u32 a3, .int .i64 b4, .int .i64 b5, .int .i64 0, .slice At 0 ct] 25)).drew.cell? ⟨w2_.heap.size, 3, none⟩ = some (.int .u32 a3) ∧ (w2_.alloc (.cells #[.int .i64 b0, .int .i64 b1, .int .u32 a2, .int .u32 a3, .int .i64 b4, .int .i64 b5, .int .i64 0, .slice At 0 ct] 25)).drew.cell? ⟨w2_.heap.size, 4, none⟩ = some (.int .i64 b4) ∧ (w2_.alloc (.cells #[.int .i64 b0, .int .i64 b1, .int .u32 a2, .int .u32 a3, .int .i64 b4, .int .i64 b5, .int .i64 0, .slice At 0 ct] 25)).drew.cell? ⟨w2_.heap.size, 5, none⟩ = some (.int .i64 b5) ∧ (w2_.alloc (.cells #[.int .i64 b0, .int .i64 b1, .int .u32 a2, .int .u32 a3, .int .i64 b4, .int .i64 b5, .int .i64 0, .slice At 0 ct] 25)).drew.cell? ⟨w2_.heap.size, 6, none⟩ = some (.int .i64 0) ∧ (w2_.alloc (.cells #[.int .i64 b0, .int .i64 b1, .int .u32 a2, .int .u32 a3, .int .i64 b4, .int .i64 b5, .int .i64 0, .slice At 0 ct] 25)).drew.cell? ⟨w2_.heap.size, 7, none⟩ = some (.slice At 0 ct)) := ⟨(blk_cell HGs.out 0).trans rfl, (blk_cell HGs.out 1).trans rfl, (blk_cell HGs.out 2).trans rfl, (blk_cell HGs.out 3).trans rfl, (blk_cell HGs.out 4).trans rfl, (blk_cell HGs.out 5).trans rfl, (blk_cell HGs.out 6).trans rfl, (blk_cell HGs.out 7).trans rfl, (blk_cell HGt.out 0).trans rfl, (blk_cell HGt.out 1).trans rfl, (blk_cell HGt.out 2).trans rfl, (blk_cell HGt.out 3).trans rfl, (blk_cell HGt.out 4).trans rfl, (blk_cell HGt.out 5).trans rfl, (blk_cell HGt.out 6).trans rfl, (blk_cell HGt.out 7).trans rfl⟩
  go_region_held3 (fun W => W.cell? ⟨w.heap.size, 0, none⟩ = some (.int .i64 b0) ∧ W.cell? ⟨w.heap.size, 1, none⟩ = some (.int .i64 b1) ∧ W.cell? ⟨w.heap.size, 2, none⟩ = some (.int .u32 a2) ∧ W.cell? ⟨w.heap.size, 3, none⟩ = some (.int .u32 a3) ∧ W.cell? ⟨w.heap.size, 4, none⟩ = some (.int .i64 b4) ∧ W.cell? ⟨w.heap.size, 5, none⟩ = some (.int .i64 b5) ∧ W.cell? ⟨w.heap.size, 6, none⟩ = some (.int .i64 a6) ∧ W.cell? ⟨w.heap.size, 7, none⟩ = some (.slice A l.length c) ∧ W.cell? ⟨w2_.heap.size, 0, none⟩ = some (.int .i64 b0) ∧ W.cell? ⟨w2_.heap.size, 1, none⟩ = some (.int .i64 b1) ∧ W.cell? ⟨w2_.heap.size, 2, none⟩ = some (.int .u32 a2) ∧ W.cell? ⟨w2_.heap.size, 3, none⟩ = some (.int .u32 a3) ∧ W.cell? ⟨w2_.heap.size, 4, none⟩ = some (.int .i64 b4) ∧ W.cell? ⟨w2_.heap.size, 5, none⟩ = some (.int .i64 b5) ∧ W.cell? ⟨w2_.heap.size, 6, none⟩ = some (.int .i64 0) ∧ W.cell? ⟨w2_.heap.size, 7, none⟩ = some (.slice At 0 ct)) (first | with_reducible exact hKS | exact ⟨cell_al hKS.1, cell_al hKS.2.1, cell_al hKS.2.2.1, cell_al hKS.2.2.2.1, cell_al hKS.2.2.2.2.1, cell_al hKS.2.2.2.2.2.1, cell_al hKS.2.2.2.2.2.2.1, cell_al hKS.2.2.2.2.2.2.2.1, cell_al hKS.2.2.2.2.2.2.2.2.1, cell_al hKS.2.2.2.2.2.2.2.2.2.1, cell_al hKS.2.2.2.2.2.2.2.2.2.2.1, cell_al hKS.2.2.2.2.2.2.2.2.2.2.2.1, cell_al hKS.2.2.2.2.2.2.2.2.2.2.2.2.1, cell_al hKS.2.2.2.2.2.2.2.2.2.2.2.2.2.1, cell_al hKS.2.2.2.2.2.2.2.2.2.2.2.2.2.2.1, cell_al hKS.2.2.2.2.2.2.2.2.2.2.2.2.2.2.2⟩ | exact ⟨cell_ad hKS.1, cell_ad hKS.2.1, cell_ad hKS.2.2.1, cell_ad hKS.2.2.2.1, cell_ad hKS.2.2.2.2.1, cell_ad hKS.2.2.2.2.2.1, cell_ad hKS.2.2.2.2.2.2.1, cell_ad hKS.2.2.2.2.2.2.2.1, cell_ad hKS.2.2.2.2.2.2.2.2.1, cell_ad hKS.2.2.2.2.2.2.2.2.2.1, cell_ad hKS.2.2.2.2.2.2.2.2.2.2.1, cell_ad hKS.2.2.2.2.2.2.2.2.2.2.2.1, cell_ad hKS.2.2.2.2.2.2.2.2.2.2.2.2.1, cell_ad hKS.2.2.2.2.2.2.2.2.2.2.2.2.2.1, cell_ad hKS.2.2.2.2.2.2.2.2.2.2.2.2.2.2.1, cell_ad hKS.2.2.2.2.2.2.2.2.2.2.2.2.2.2.2⟩)
    (first | (go_at_call 21; (with_reducible refine (seg_of_nil b0 b1 a2 a3 b4 b5 0 b0 b1 b4 b5 At ct _ (Kd.R_reads' HRt.out).2.2 (Nat.zero_le _) H0.out H1.out H4.out H5.out).mono ?_); rintro e w3_ ⟨rfl, hb⟩; replace HRt := Aside0.mk (Kd.R_below HRt.out hb); replace HGs := Aside0.mk (blk_below HGs.out hb); replace HGt := Aside0.mk (blk_below HGt.out hb); replace HB := Aside0.mk (below_then HB.out HB.out.size hb); replace hKS : (w3_.cell? ⟨w.heap.size, 0, none⟩ = some (.int .i64 b0) ∧ w3_.cell? ⟨w.heap.size, 1, none⟩ = some (.int .i64 b1) ∧ w3_.cell? ⟨w.heap.size, 2, none⟩ = some (.int .u32 a2) ∧ w3_.cell? ⟨w.heap.size, 3, none⟩ = some (.int .u32 a3) ∧ w3_.cell? ⟨w.heap.size, 4, none⟩ = some (.int .i64 b4) ∧ w3_.cell? ⟨w.heap.size, 5, none⟩ = some (.int .i64 b5) ∧ w3_.cell? ⟨w.heap.size, 6, none⟩ = some (.int .i64 a6) ∧ w3_.cell? ⟨w.heap.size, 7, none⟩ = some (.slice A l.length c) ∧ w3_.cell? ⟨w2_.heap.size, 0, none⟩ = some (.int .i64 b0) ∧ w3_.cell? ⟨w2_.heap.size, 1, none⟩ = some (.int .i64 b1) ∧ w3_.cell? ⟨w2_.heap.size, 2, none⟩ = some (.int .u32 a2) ∧ w3_.cell? ⟨w2_.heap.size, 3, none⟩ = some (.int .u32 a3) ∧ w3_.cell? ⟨w2_.heap.size, 4, none⟩ = some (.int .i64 b4) ∧ w3_.cell? ⟨w2_.heap.size, 5, none⟩ = some (.int .i64 b5) ∧ w3_.cell? ⟨w2_.heap.size, 6, none⟩ = some (.int .i64 0) ∧ w3_.cell? ⟨w2_.heap.size, 7, none⟩ = some (.slice At 0 ct)) := ⟨(blk_cell HGs.out 0).trans rfl, (blk_cell HGs.out 1).trans rfl, (blk_cell HGs.out 2).trans rfl, (blk_cell HGs.out 3).trans rfl, (blk_cell HGs.out 4).trans rfl, (blk_cell HGs.out 5).trans rfl, (blk_cell HGs.out 6).trans rfl, (blk_cell HGs.out 7).trans rfl, (blk_cell HGt.out 0).trans rfl, (blk_cell HGt.out 1).trans rfl, (blk_cell HGt.out 2).trans rfl, (blk_cell HGt.out 3).trans rfl, (blk_cell HGt.out 4).trans rfl, (blk_cell HGt.out 5).trans rfl, (blk_cell HGt.out 6).trans rfl, (blk_cell HGt.out 7).trans rfl⟩; clear hb) | (go_at_call 21; (with_reducible refine (seg_of_c b0 b1 a2 a3 b4 b5 a6 b0 b1 b4 b5 A c l _ (Kd.C_below HR.out HB.out) HC.out H0.out H1.out H4.out H5.out).mono ?_); rintro e w4_ ⟨rfl, hb⟩; replace HRt := Aside0.mk (Kd.R_below HRt.out hb); replace HGs := Aside0.mk (blk_below HGs.out hb); replace HGt := Aside0.mk (blk_below HGt.out hb); replace HB := Aside0.mk (below_then HB.out HB.out.size hb); replace hKS : (w4_.cell? ⟨w.heap.size, 0, none⟩ = some (.int .i64 b0) ∧ w4_.cell? ⟨w.heap.size, 1, none⟩ = some (.int .i64 b1) ∧ w4_.cell? ⟨w.heap.size, 2, none⟩ = some (.int .u32 a2) ∧ w4_.cell? ⟨w.heap.size, 3, none⟩ = some (.int .u32 a3) ∧ w4_.cell? ⟨w.heap.size, 4, none⟩ = some (.int .i64 b4) ∧ w4_.cell? ⟨w.heap.size, 5, none⟩ = some (.int .i64 b5) ∧ w4_.cell? ⟨w.heap.size, 6, none⟩ = some (.int .i64 a6) ∧ w4_.cell? ⟨w.heap.size, 7, none⟩ = some (.slice A l.length c) ∧ w4_.cell? ⟨w2_.heap.size, 0, none⟩ = some (.int .i64 b0) ∧ w4_.cell? ⟨w2_.heap.size, 1, none⟩ = some (.int .i64 b1) ∧ w4_.cell? ⟨w2_.heap.size, 2, none⟩ = some (.int .u32 a2) ∧ w4_.cell? ⟨w2_.heap.size, 3, none⟩ = some (.int .u32 a3) ∧ w4_.cell? ⟨w2_.heap.size, 4, none⟩ = some (.int .i64 b4) ∧ w4_.cell? ⟨w2_.heap.size, 5, none⟩ = some (.int .i64 b5) ∧ w4_.cell? ⟨w2_.heap.size, 6, none⟩ = some (.int .i64 0) ∧ w4_.cell? ⟨w2_.heap.size, 7, none⟩ = some (.slice At 0 ct)) := ⟨(blk_cell HGs.out 0).trans rfl, (blk_cell HGs.out 1).trans rfl, (blk_cell HGs.out 2).trans rfl, (blk_cell HGs.out 3).trans rfl, (blk_cell HGs.out 4).trans rfl, (blk_cell HGs.out 5).trans rfl, (blk_cell HGs.out 6).trans rfl, (blk_cell HGs.out 7).trans rfl, (blk_cell HGt.out 0).trans rfl, (blk_cell HGt.out 1).trans rfl, (blk_cell HGt.out 2).trans rfl, (blk_cell HGt.out 3).trans rfl, (blk_cell HGt.out 4).trans rfl, (blk_cell HGt.out 5).trans rfl, (blk_cell HGt.out 6).trans rfl, (blk_cell HGt.out 7).trans rfl⟩; clear hb))
  go_wp2
  go_ret
  exact ⟨rfl, HB.out⟩
theorem seg_same_c (a0 a1 a2 a3 a4 a5 a6 : Int) (A : Option Addr) (c : Nat) (l : List Int) (w : World) (hr : Kd.C (Kd.int .u8) w A l.length l) (hc : l.length ≤ c) :
    Calls Try.prog 18 #[.agg #[.int .i64 a0, .int .i64 a1, .int .u32 a2, .int .u32 a3, .int .i64 a4, .int .i64 a5, .int .i64 a6, .slice A l.length c]] w fun e w' => e = .returned (.bool (sameB a0 a1 a4 a5)) ∧ Below w.heap.size w w' := by
  by_cases d63 : decide (a4 ≤ 63) = true
  rotate_left
  · rw [Bool.not_eq_true] at d63
    rw [show sameB a0 a1 a4 a5 = false from decide_eq_false (by simp only [decide_eq_false_iff_not, decide_eq_true_eq, beq_eq_false_iff_ne, beq_iff_eq] at d63; omega)]
    exact seg_same_0 a0 a1 a2 a3 a4 a5 a6 _ _ _ _ A c l w hr hc rfl rfl rfl rfl d63
  by_cases d0 : (a0 % 65536 == a0) = true
  rotate_left
  · rw [Bool.not_eq_true] at d0
    rw [show sameB a0 a1 a4 a5 = false from decide_eq_false (by simp only [decide_eq_false_iff_not, decide_eq_true_eq, beq_eq_false_iff_ne, beq_iff_eq] at d63 d0; omega)]
    exact seg_same_1 a0 a1 a2 a3 a4 a5 a6 _ _ _ _ A c l w hr hc rfl rfl rfl rfl d63 d0
  by_cases d1 : (a1 % 65536 == a1) = true
  rotate_left
  · rw [Bool.not_eq_true] at d1
    rw [show sameB a0 a1 a4 a5 = false from decide_eq_false (by simp only [decide_eq_false_iff_not, decide_eq_true_eq, beq_eq_false_iff_ne, beq_iff_eq] at d63 d0 d1; omega)]
    exact seg_same_2 a0 a1 a2 a3 a4 a5 a6 _ _ _ _ A c l w hr hc rfl rfl rfl rfl d63 d0 d1
  by_cases d4 : (a4 % 256 == a4) = true
  rotate_left
  · rw [Bool.not_eq_true] at d4
    rw [show sameB a0 a1 a4 a5 = false from decide_eq_false (by simp only [decide_eq_false_iff_not, decide_eq_true_eq, beq_eq_false_iff_ne, beq_iff_eq] at d63 d0 d1 d4; omega)]
    exact seg_same_3 a0 a1 a2 a3 a4 a5 a6 _ _ _ _ A c l w hr hc rfl rfl rfl rfl d63 d0 d1 d4
  by_cases d5 : (a5 % 65536 == a5) = true
  rotate_left
  · rw [Bool.not_eq_true] at d5
    rw [show sameB a0 a1 a4 a5 = false from decide_eq_false (by simp only [decide_eq_false_iff_not, decide_eq_true_eq, beq_eq_false_iff_ne, beq_iff_eq] at d63 d0 d1 d4 d5; omega)]
    exact seg_same_4 a0 a1 a2 a3 a4 a5 a6 _ _ _ _ A c l w hr hc rfl rfl rfl rfl d63 d0 d1 d4 d5
  rw [show sameB a0 a1 a4 a5 = true from decide_eq_true (by simp only [decide_eq_true_eq, beq_iff_eq] at d63 d0 d1 d4 d5; omega)]
  exact seg_same_5 a0 a1 a2 a3 a4 a5 a6 _ _ _ _ A c l w hr hc rfl rfl rfl rfl d63 d0 d1 d4 d5

end Go.Proofs.Ytndkaffkdjaaoaa.H
