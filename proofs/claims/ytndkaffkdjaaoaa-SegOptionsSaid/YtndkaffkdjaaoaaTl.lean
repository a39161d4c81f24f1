/- Parts of a proof: contracts of functions that the law reaches. -/
import Derived.Test.YtndkaffkdjaaoaaTk
namespace Go.Proofs.Ytndkaffkdjaaoaa.QSeg
open Go.RowKit Go.Proofs.Ytndkaffkdjaaoaa.H Go.Proofs.YtndkaffkdjaaoaaW.PrintWords Go.Proofs.YtndkaffkdjaaoaaW.PrintLast Go.Proofs.YtndkaffkdjaaoaaW.PrintMore
attribute [local go_sem] max2_int min2_int max_two min_two max_three min_three max_four min_four   -- for this text's walks alone
set_option linter.unusedVariables false
set_option linter.unusedSimpArgs false

/-! ### drawbridgeref19_Len: function 14 -/
def drawbridgeref19_Len.f (a0_0 : Int) (a0_1 : Int) (a0_2 : Int) (a0_3 : Int) (a0_4 : Int) (a0_5 : Int) (a0_6 : Int) (l0_7 : List Int) : Option (Int) := if (Go.bits .and .i64 a0_4 2) = 0 then (if (Go.bits .and .i64 a0_4 1) = 0 then (some (l0_7.length : Int)) else (some (wrap64 ((l0_7.length : Int) + 1)))) else (if (Go.bits .and .i64 a0_4 1) = 0 then (some (wrap64 ((l0_7.length : Int) + 1))) else (some (wrap64 ((wrap64 ((l0_7.length : Int) + 1)) + 1))))
set_option maxHeartbeats 8000000 in
set_option maxRecDepth 100000 in
theorem drawbridgeref19_Len.calls (a0_0 : Int) (a0_1 : Int) (a0_2 : Int) (a0_3 : Int) (a0_4 : Int) (a0_5 : Int) (a0_6 : Int) (A0_7 : Option Addr) (c0_7 : Nat) (l0_7 : List Int) (r : Int) (w : World) (hr0_7 : Kd.C (Kd.int .u8) w A0_7 l0_7.length l0_7) (hc0_7 : l0_7.length ≤ c0_7) (h : drawbridgeref19_Len.f a0_0 a0_1 a0_2 a0_3 a0_4 a0_5 a0_6 l0_7 = some r) :
    Calls Try.prog 14 #[.agg #[.int .i64 a0_0, .int .i64 a0_1, .int .u32 a0_2, .int .u32 a0_3, .int .i64 a0_4, .int .i64 a0_5, .int .i64 a0_6, .slice A0_7 l0_7.length c0_7]] w fun e w' => e = .returned (.int .i64 r) ∧ Below w.heap.size w w' := by
  have hu25 := Try.underlying25
  have HR0_7 := Aside0.mk hr0_7
  have HC0_7 := Aside0.mk hc0_7
  clear hr0_7 hc0_7
  have HB := Aside0.mk (Below.refl w.heap.size w)
  have H : (if (Go.bits .and .i64 a0_4 2) = 0 then (if (Go.bits .and .i64 a0_4 1) = 0 then (some (l0_7.length : Int)) else (some (wrap64 ((l0_7.length : Int) + 1)))) else (if (Go.bits .and .i64 a0_4 1) = 0 then (some (wrap64 ((l0_7.length : Int) + 1))) else (some (wrap64 ((wrap64 ((l0_7.length : Int) + 1)) + 1))))) = some r := h
  clear h
  by_cases c2 : (Go.bits .and .i64 a0_4 2) = 0
  · rw [if_pos c2] at H
    have c2b0 : ((Go.bits .and .i64 a0_4 2) == 0) = true := beq_iff_eq.mpr c2
    have c2b1 : ((Go.bits .and .i64 a0_4 2) != 0) = false := bne_eq_false_iff_eq.mpr c2
    clear c2
    by_cases c3 : (Go.bits .and .i64 a0_4 1) = 0
    · rw [if_pos c3] at H
      have c3b0 : ((Go.bits .and .i64 a0_4 1) == 0) = true := beq_iff_eq.mpr c3
      have c3b1 : ((Go.bits .and .i64 a0_4 1) != 0) = false := bne_eq_false_iff_eq.mpr c3
      clear c3
      obtain rfl := Option.some.inj H
      go_enter Try.func14, Try.ntmps14
      go_wp2_with (first | ((with_reducible refine gate_dst (N := 1) rfl ?_); refine box_event ?hg (N := 1) ?hd (cs := #[.int .i64 a0_0, .int .i64 a0_1, .int .u32 a0_2, .int .u32 a0_3, .int .i64 a0_4, .int .i64 a0_5, .int .i64 a0_6, .slice A0_7 l0_7.length c0_7]) (t := 25) ?hr ?_; (case hd => rfl); (case hg => rfl); (case hr => first | (go_simp; done) | (go_simp; rfl)); intro gb306 hg w4 hbox hb; have n0_ := Aside0.mk (below_step (by repeat (first | (with_reducible first | exact HB.out | apply below_alloc | apply pw_below_drewN | apply below_drew1) | exact HB.out)) hb); have n1_ := Aside0.mk (hbox); have n2_ := Aside0.mk ((by rw [hg]; exact (below_size (by repeat (first | (with_reducible first | exact HB.out | apply below_alloc | apply pw_below_drewN | apply below_drew1) | exact HB.out))) : w.heap.size ≤ gb306)); have n3_ := Aside0.mk ((by rw [hg]; exact (below_size (by repeat (first | (with_reducible first | exact HB.out | apply below_alloc | apply pw_below_drewN | apply below_drew1) | exact HB.out))) : w.heap.size ≤ gb306)); clear HB; have HB := n0_; have BK306 := n1_; have GW306 := n2_; have GE306 := n3_; clear n0_ n1_ n2_ n3_; clear hb hbox hg; have hcz5_0 : w4.cell? ⟨gb306, 0, none⟩ = some (.int .i64 a0_0) := (blk_cell BK306.out 0).trans rfl; have hcz5_1 : w4.cell? ⟨gb306, 1, none⟩ = some (.int .i64 a0_1) := (blk_cell BK306.out 1).trans rfl; have hcz5_2 : w4.cell? ⟨gb306, 2, none⟩ = some (.int .u32 a0_2) := (blk_cell BK306.out 2).trans rfl; have hcz5_3 : w4.cell? ⟨gb306, 3, none⟩ = some (.int .u32 a0_3) := (blk_cell BK306.out 3).trans rfl; have hcz5_4 : w4.cell? ⟨gb306, 4, none⟩ = some (.int .i64 a0_4) := (blk_cell BK306.out 4).trans rfl; have hcz5_5 : w4.cell? ⟨gb306, 5, none⟩ = some (.int .i64 a0_5) := (blk_cell BK306.out 5).trans rfl; have hcz5_6 : w4.cell? ⟨gb306, 6, none⟩ = some (.int .i64 a0_6) := (blk_cell BK306.out 6).trans rfl; have hcz5_7 : w4.cell? ⟨gb306, 7, none⟩ = some (.slice A0_7 l0_7.length c0_7) := (blk_cell BK306.out 7).trans rfl; have hfz5_0 := blk_frozen BK306.out 0; have hfz5_1 := blk_frozen BK306.out 1; have hfz5_2 := blk_frozen BK306.out 2; have hfz5_3 := blk_frozen BK306.out 3; have hfz5_4 := blk_frozen BK306.out 4; have hfz5_5 := blk_frozen BK306.out 5; have hfz5_6 := blk_frozen BK306.out 6; have hfz5_7 := blk_frozen BK306.out 7))
      go_ret
      exact ⟨by first | rfl | (simp [errW_none, errW_some] <;> rfl) | (simp [*, errW_none, errW_some] <;> rfl), by repeat (first | (with_reducible first | exact HB.out | apply below_alloc | apply pw_below_drewN | apply below_drew1 | refine below_set ?_ GE306.out) | exact HB.out)⟩
    · rw [if_neg c3] at H
      have c3b0 : ((Go.bits .and .i64 a0_4 1) == 0) = false := beq_eq_false_iff_ne.mpr c3
      have c3b1 : ((Go.bits .and .i64 a0_4 1) != 0) = true := bne_iff_ne.mpr c3
      obtain rfl := Option.some.inj H
      go_enter Try.func14, Try.ntmps14
      go_wp2_with (first | ((with_reducible refine gate_dst (N := 1) rfl ?_); refine box_event ?hg (N := 1) ?hd (cs := #[.int .i64 a0_0, .int .i64 a0_1, .int .u32 a0_2, .int .u32 a0_3, .int .i64 a0_4, .int .i64 a0_5, .int .i64 a0_6, .slice A0_7 l0_7.length c0_7]) (t := 25) ?hr ?_; (case hd => rfl); (case hg => rfl); (case hr => first | (go_simp; done) | (go_simp; rfl)); intro gb306 hg w6 hbox hb; have n0_ := Aside0.mk (below_step (by repeat (first | (with_reducible first | exact HB.out | apply below_alloc | apply pw_below_drewN | apply below_drew1) | exact HB.out)) hb); have n1_ := Aside0.mk (hbox); have n2_ := Aside0.mk ((by rw [hg]; exact (below_size (by repeat (first | (with_reducible first | exact HB.out | apply below_alloc | apply pw_below_drewN | apply below_drew1) | exact HB.out))) : w.heap.size ≤ gb306)); have n3_ := Aside0.mk ((by rw [hg]; exact (below_size (by repeat (first | (with_reducible first | exact HB.out | apply below_alloc | apply pw_below_drewN | apply below_drew1) | exact HB.out))) : w.heap.size ≤ gb306)); clear HB; have HB := n0_; have BK306 := n1_; have GW306 := n2_; have GE306 := n3_; clear n0_ n1_ n2_ n3_; clear hb hbox hg; have hcz7_0 : w6.cell? ⟨gb306, 0, none⟩ = some (.int .i64 a0_0) := (blk_cell BK306.out 0).trans rfl; have hcz7_1 : w6.cell? ⟨gb306, 1, none⟩ = some (.int .i64 a0_1) := (blk_cell BK306.out 1).trans rfl; have hcz7_2 : w6.cell? ⟨gb306, 2, none⟩ = some (.int .u32 a0_2) := (blk_cell BK306.out 2).trans rfl; have hcz7_3 : w6.cell? ⟨gb306, 3, none⟩ = some (.int .u32 a0_3) := (blk_cell BK306.out 3).trans rfl; have hcz7_4 : w6.cell? ⟨gb306, 4, none⟩ = some (.int .i64 a0_4) := (blk_cell BK306.out 4).trans rfl; have hcz7_5 : w6.cell? ⟨gb306, 5, none⟩ = some (.int .i64 a0_5) := (blk_cell BK306.out 5).trans rfl; have hcz7_6 : w6.cell? ⟨gb306, 6, none⟩ = some (.int .i64 a0_6) := (blk_cell BK306.out 6).trans rfl; have hcz7_7 : w6.cell? ⟨gb306, 7, none⟩ = some (.slice A0_7 l0_7.length c0_7) := (blk_cell BK306.out 7).trans rfl; have hfz7_0 := blk_frozen BK306.out 0; have hfz7_1 := blk_frozen BK306.out 1; have hfz7_2 := blk_frozen BK306.out 2; have hfz7_3 := blk_frozen BK306.out 3; have hfz7_4 := blk_frozen BK306.out 4; have hfz7_5 := blk_frozen BK306.out 5; have hfz7_6 := blk_frozen BK306.out 6; have hfz7_7 := blk_frozen BK306.out 7))
      go_ret
      exact ⟨by first | rfl | (simp [errW_none, errW_some] <;> rfl) | (simp [*, errW_none, errW_some] <;> rfl), by repeat (first | (with_reducible first | exact HB.out | apply below_alloc | apply pw_below_drewN | apply below_drew1 | refine below_set ?_ GE306.out) | exact HB.out)⟩
  · rw [if_neg c2] at H
    have c2b0 : ((Go.bits .and .i64 a0_4 2) == 0) = false := beq_eq_false_iff_ne.mpr c2
    have c2b1 : ((Go.bits .and .i64 a0_4 2) != 0) = true := bne_iff_ne.mpr c2
    by_cases c8 : (Go.bits .and .i64 a0_4 1) = 0
    · rw [if_pos c8] at H
      have c8b0 : ((Go.bits .and .i64 a0_4 1) == 0) = true := beq_iff_eq.mpr c8
      have c8b1 : ((Go.bits .and .i64 a0_4 1) != 0) = false := bne_eq_false_iff_eq.mpr c8
      clear c8
      obtain rfl := Option.some.inj H
      go_enter Try.func14, Try.ntmps14
      go_wp2_with (first | ((with_reducible refine gate_dst (N := 1) rfl ?_); refine box_event ?hg (N := 1) ?hd (cs := #[.int .i64 a0_0, .int .i64 a0_1, .int .u32 a0_2, .int .u32 a0_3, .int .i64 a0_4, .int .i64 a0_5, .int .i64 a0_6, .slice A0_7 l0_7.length c0_7]) (t := 25) ?hr ?_; (case hd => rfl); (case hg => rfl); (case hr => first | (go_simp; done) | (go_simp; rfl)); intro gb306 hg w9 hbox hb; have n0_ := Aside0.mk (below_step (by repeat (first | (with_reducible first | exact HB.out | apply below_alloc | apply pw_below_drewN | apply below_drew1) | exact HB.out)) hb); have n1_ := Aside0.mk (hbox); have n2_ := Aside0.mk ((by rw [hg]; exact (below_size (by repeat (first | (with_reducible first | exact HB.out | apply below_alloc | apply pw_below_drewN | apply below_drew1) | exact HB.out))) : w.heap.size ≤ gb306)); have n3_ := Aside0.mk ((by rw [hg]; exact (below_size (by repeat (first | (with_reducible first | exact HB.out | apply below_alloc | apply pw_below_drewN | apply below_drew1) | exact HB.out))) : w.heap.size ≤ gb306)); clear HB; have HB := n0_; have BK306 := n1_; have GW306 := n2_; have GE306 := n3_; clear n0_ n1_ n2_ n3_; clear hb hbox hg; have hcz10_0 : w9.cell? ⟨gb306, 0, none⟩ = some (.int .i64 a0_0) := (blk_cell BK306.out 0).trans rfl; have hcz10_1 : w9.cell? ⟨gb306, 1, none⟩ = some (.int .i64 a0_1) := (blk_cell BK306.out 1).trans rfl; have hcz10_2 : w9.cell? ⟨gb306, 2, none⟩ = some (.int .u32 a0_2) := (blk_cell BK306.out 2).trans rfl; have hcz10_3 : w9.cell? ⟨gb306, 3, none⟩ = some (.int .u32 a0_3) := (blk_cell BK306.out 3).trans rfl; have hcz10_4 : w9.cell? ⟨gb306, 4, none⟩ = some (.int .i64 a0_4) := (blk_cell BK306.out 4).trans rfl; have hcz10_5 : w9.cell? ⟨gb306, 5, none⟩ = some (.int .i64 a0_5) := (blk_cell BK306.out 5).trans rfl; have hcz10_6 : w9.cell? ⟨gb306, 6, none⟩ = some (.int .i64 a0_6) := (blk_cell BK306.out 6).trans rfl; have hcz10_7 : w9.cell? ⟨gb306, 7, none⟩ = some (.slice A0_7 l0_7.length c0_7) := (blk_cell BK306.out 7).trans rfl; have hfz10_0 := blk_frozen BK306.out 0; have hfz10_1 := blk_frozen BK306.out 1; have hfz10_2 := blk_frozen BK306.out 2; have hfz10_3 := blk_frozen BK306.out 3; have hfz10_4 := blk_frozen BK306.out 4; have hfz10_5 := blk_frozen BK306.out 5; have hfz10_6 := blk_frozen BK306.out 6; have hfz10_7 := blk_frozen BK306.out 7))
      go_ret
      exact ⟨by first | rfl | (simp [errW_none, errW_some] <;> rfl) | (simp [*, errW_none, errW_some] <;> rfl), by repeat (first | (with_reducible first | exact HB.out | apply below_alloc | apply pw_below_drewN | apply below_drew1 | refine below_set ?_ GE306.out) | exact HB.out)⟩
    · rw [if_neg c8] at H
      have c8b0 : ((Go.bits .and .i64 a0_4 1) == 0) = false := beq_eq_false_iff_ne.mpr c8
      have c8b1 : ((Go.bits .and .i64 a0_4 1) != 0) = true := bne_iff_ne.mpr c8
      obtain rfl := Option.some.inj H
      go_enter Try.func14, Try.ntmps14
      go_wp2_with (first | ((with_reducible refine gate_dst (N := 1) rfl ?_); refine box_event ?hg (N := 1) ?hd (cs := #[.int .i64 a0_0, .int .i64 a0_1, .int .u32 a0_2, .int .u32 a0_3, .int .i64 a0_4, .int .i64 a0_5, .int .i64 a0_6, .slice A0_7 l0_7.length c0_7]) (t := 25) ?hr ?_; (case hd => rfl); (case hg => rfl); (case hr => first | (go_simp; done) | (go_simp; rfl)); intro gb306 hg w11 hbox hb; have n0_ := Aside0.mk (below_step (by repeat (first | (with_reducible first | exact HB.out | apply below_alloc | apply pw_below_drewN | apply below_drew1) | exact HB.out)) hb); have n1_ := Aside0.mk (hbox); have n2_ := Aside0.mk ((by rw [hg]; exact (below_size (by repeat (first | (with_reducible first | exact HB.out | apply below_alloc | apply pw_below_drewN | apply below_drew1) | exact HB.out))) : w.heap.size ≤ gb306)); have n3_ := Aside0.mk ((by rw [hg]; exact (below_size (by repeat (first | (with_reducible first | exact HB.out | apply below_alloc | apply pw_below_drewN | apply below_drew1) | exact HB.out))) : w.heap.size ≤ gb306)); clear HB; have HB := n0_; have BK306 := n1_; have GW306 := n2_; have GE306 := n3_; clear n0_ n1_ n2_ n3_; clear hb hbox hg; have hcz12_0 : w11.cell? ⟨gb306, 0, none⟩ = some (.int .i64 a0_0) := (blk_cell BK306.out 0).trans rfl; have hcz12_1 : w11.cell? ⟨gb306, 1, none⟩ = some (.int .i64 a0_1) := (blk_cell BK306.out 1).trans rfl; have hcz12_2 : w11.cell? ⟨gb306, 2, none⟩ = some (.int .u32 a0_2) := (blk_cell BK306.out 2).trans rfl; have hcz12_3 : w11.cell? ⟨gb306, 3, none⟩ = some (.int .u32 a0_3) := (blk_cell BK306.out 3).trans rfl; have hcz12_4 : w11.cell? ⟨gb306, 4, none⟩ = some (.int .i64 a0_4) := (blk_cell BK306.out 4).trans rfl; have hcz12_5 : w11.cell? ⟨gb306, 5, none⟩ = some (.int .i64 a0_5) := (blk_cell BK306.out 5).trans rfl; have hcz12_6 : w11.cell? ⟨gb306, 6, none⟩ = some (.int .i64 a0_6) := (blk_cell BK306.out 6).trans rfl; have hcz12_7 : w11.cell? ⟨gb306, 7, none⟩ = some (.slice A0_7 l0_7.length c0_7) := (blk_cell BK306.out 7).trans rfl; have hfz12_0 := blk_frozen BK306.out 0; have hfz12_1 := blk_frozen BK306.out 1; have hfz12_2 := blk_frozen BK306.out 2; have hfz12_3 := blk_frozen BK306.out 3; have hfz12_4 := blk_frozen BK306.out 4; have hfz12_5 := blk_frozen BK306.out 5; have hfz12_6 := blk_frozen BK306.out 6; have hfz12_7 := blk_frozen BK306.out 7))
      go_ret
      exact ⟨by first | rfl | (simp [errW_none, errW_some] <;> rfl) | (simp [*, errW_none, errW_some] <;> rfl), by repeat (first | (with_reducible first | exact HB.out | apply below_alloc | apply pw_below_drewN | apply below_drew1 | refine below_set ?_ GE306.out) | exact HB.out)⟩

end Go.Proofs.Ytndkaffkdjaaoaa.QSeg
namespace Go.Proofs.Ytndkaffkdjaaoaa.QSeg
open Go.RowKit Go.Proofs.Ytndkaffkdjaaoaa.H Go.Proofs.YtndkaffkdjaaoaaW.PrintWords Go.Proofs.YtndkaffkdjaaoaaW.PrintLast Go.Proofs.YtndkaffkdjaaoaaW.PrintMore
attribute [local go_sem] max2_int min2_int max_two min_two max_three min_three max_four min_four   -- for this text's walks alone
set_option linter.unusedVariables false
set_option linter.unusedSimpArgs false

/-! ### drawbridgeref19_Less: function 16 -/
def drawbridgeref19_Less.f (a0 : Int) (a1 : Int) : Option (Bool) := if ((a1 - a0) % 4294967296) ≥ 1 then (some (decide (((a1 - a0) % 4294967296) < 2147483648))) else (some false)
set_option maxHeartbeats 8000000 in
set_option maxRecDepth 100000 in
theorem drawbridgeref19_Less.calls (a0 : Int) (a1 : Int) (r : Bool) (w : World) (h : drawbridgeref19_Less.f a0 a1 = some r) :
    Calls Try.prog 16 #[.int .u32 a0, .int .u32 a1] w fun e w' => e = .returned (.bool r) ∧ Drawn0 w w' := by
  have H : (if ((a1 - a0) % 4294967296) ≥ 1 then (some (decide (((a1 - a0) % 4294967296) < 2147483648))) else (some false)) = some r := h
  clear h
  by_cases c3 : ((a1 - a0) % 4294967296) ≥ 1
  · rw [if_pos c3] at H
    have c3b0 : decide (1 ≤ ((a1 - a0) % 4294967296)) = true := decide_eq_true c3
    clear c3
    obtain rfl := Option.some.inj H
    go_enter Try.func16, Try.ntmps16
    go_wp2
    go_ret
    exact ⟨by first | rfl | (simp; done) | (simp [*]; done), by repeat (first | exact Drawn0.refl _ | apply Drawn0.step)⟩
  · rw [if_neg c3] at H
    have c3b0 : decide (1 ≤ ((a1 - a0) % 4294967296)) = false := decide_eq_false c3
    clear c3
    obtain rfl := Option.some.inj H
    go_enter Try.func16, Try.ntmps16
    go_wp2
    go_ret
    exact ⟨by first | rfl | (simp; done) | (simp [*]; done), by repeat (first | exact Drawn0.refl _ | apply Drawn0.step)⟩

end Go.Proofs.Ytndkaffkdjaaoaa.QSeg
/- The reference's Same at segments that are alike; one, Len, Less, bytes that are alike. -/
namespace Go.Proofs.Ytndkaffkdjaaoaa.H
open Go.RowKit Go.Proofs.YtndkaffkdjaaoaaW.PrintWords Go.Proofs.YtndkaffkdjaaoaaW.PrintLast Go.Proofs.YtndkaffkdjaaoaaW.PrintMore Go.Proofs.Ytndkaffkdjaaoaa.QSeg
set_option linter.unusedVariables false
set_option linter.unusedSimpArgs false

theorem i64_and1 (n : Int) : bits .and .i64 n 1 = n % 2 := by
  have h127 : (BitVec.ofInt 64 1).toNat = 2 ^ 1 - 1 := by decide
  have key : (BitVec.ofInt 64 n &&& BitVec.ofInt 64 1).toNat = (n % ((2 ^ 64 : Nat) : Int)).toNat % 2 ^ 1 := by
    rw [BitVec.toNat_and, BitVec.toNat_ofInt, h127, Nat.and_two_pow_sub_one_eq_mod]
  show IntKind.i64.wrap ((BitVec.ofInt 64 n &&& BitVec.ofInt 64 1).toNat : Nat) = n % 2
  rw [key, IntKind.wrap_i64]
  omega
theorem nat_and2 (x : Nat) : x &&& 2 ^ 1 = x / 2 % 2 * 2 := by
  apply Nat.eq_of_testBit_eq
  intro i
  rw [Nat.testBit_and, Nat.testBit_two_pow]
  have hx : x.testBit 1 = decide (x / 2 % 2 = 1) := by rw [Nat.testBit_succ, Nat.testBit_zero]
  rcases Nat.mod_two_eq_zero_or_one (x / 2) with h | h
  · rw [h]
    by_cases c : 1 = i
    · subst c; rw [hx, h]; simp
    · simp [c]
  · rw [h, show (1 : Nat) * 2 = 2 ^ 1 from rfl, Nat.testBit_two_pow]
    by_cases c : 1 = i
    · subst c; rw [hx, h]; simp
    · simp [c]
theorem i64_and2 (n : Int) : bits .and .i64 n 2 = n / 2 % 2 * 2 := by
  have h127 : (BitVec.ofInt 64 2).toNat = 2 ^ 1 := by decide
  have key : (BitVec.ofInt 64 n &&& BitVec.ofInt 64 2).toNat = (n % ((2 ^ 64 : Nat) : Int)).toNat / 2 % 2 * 2 := by
    rw [BitVec.toNat_and, BitVec.toNat_ofInt, h127]
    exact nat_and2 _
  show IntKind.i64.wrap ((BitVec.ofInt 64 n &&& BitVec.ofInt 64 2).toNat : Nat) = n / 2 % 2 * 2
  rw [key, IntKind.wrap_i64]
  omega
theorem seg_Len_c (a0 a1 a2 a3 a4 a5 a6 : Int) (A : Option Addr) (c : Nat) (l : List Int) (v : Int) (w : World) (hr : Kd.C (Kd.int .u8) w A l.length l) (hc : l.length ≤ c) (hl : l.length < 4611686018427387904) (hv : (l.length : Int) + a4 / 2 % 2 + a4 % 2 = v) :
    Calls Try.prog 13 #[.agg #[.int .i64 a0, .int .i64 a1, .int .u32 a2, .int .u32 a3, .int .i64 a4, .int .i64 a5, .int .i64 a6, .slice A l.length c]] w fun e w' => e = .returned (.int .i64 v) ∧ Below w.heap.size w w' := by
  refine seg_Len.calls a0 a1 a2 a3 a4 a5 a6 A c l v w hr hc ?_
  unfold seg_Len.f
  rw [i64_and1, i64_and1, wrap64_in ((l.length : Int) + a4 / 2 % 2) (by omega) (by omega), wrap64_in _ (by omega) (by omega), hv]
theorem ref_Len_c (a0 a1 a2 a3 a4 a5 a6 : Int) (A : Option Addr) (c : Nat) (l : List Int) (v : Int) (w : World) (hr : Kd.C (Kd.int .u8) w A l.length l) (hc : l.length ≤ c) (hl : l.length < 4611686018427387904) (hv : (l.length : Int) + a4 / 2 % 2 + a4 % 2 = v) :
    Calls Try.prog 14 #[.agg #[.int .i64 a0, .int .i64 a1, .int .u32 a2, .int .u32 a3, .int .i64 a4, .int .i64 a5, .int .i64 a6, .slice A l.length c]] w fun e w' => e = .returned (.int .i64 v) ∧ Below w.heap.size w w' := by
  refine drawbridgeref19_Len.calls a0 a1 a2 a3 a4 a5 a6 A c l v w hr hc ?_
  unfold drawbridgeref19_Len.f
  rw [i64_and1, i64_and2, wrap64_in ((l.length : Int) + 1) (by omega) (by omega), wrap64_in ((l.length : Int) + 1 + 1) (by omega) (by omega)]
  by_cases h1 : a4 / 2 % 2 * 2 = 0
  · rw [if_pos h1]
    by_cases h2 : a4 % 2 = 0
    · rw [if_pos h2]; congr 1; omega
    · rw [if_neg h2]; congr 1; omega
  · rw [if_neg h1]
    by_cases h2 : a4 % 2 = 0
    · rw [if_pos h2]; congr 1; omega
    · rw [if_neg h2]; congr 1; omega
def lessB (s d : Int) : Bool := decide (1 ≤ (d - s) % 4294967296 ∧ (d - s) % 4294967296 < 2147483648)
theorem seg_Less_c (s d : Int) (w : World) : Calls Try.prog 15 #[.int .u32 s, .int .u32 d] w fun e w' => e = .returned (.bool (lessB s d)) ∧ Below w.heap.size w w' := by
  refine (seg_Less.calls s d (lessB s d) w ?_).mono fun e w' h => ⟨h.1, h.2.below⟩
  unfold seg_Less.f lessB wrap32
  congr 1
  rw [decide_eq_decide]
  omega
theorem ref_Less_c (s d : Int) (w : World) : Calls Try.prog 16 #[.int .u32 s, .int .u32 d] w fun e w' => e = .returned (.bool (lessB s d)) ∧ Below w.heap.size w w' := by
  refine (drawbridgeref19_Less.calls s d (lessB s d) w ?_).mono fun e w' h => ⟨h.1, h.2.below⟩
  unfold drawbridgeref19_Less.f lessB
  by_cases h : (d - s) % 4294967296 ≥ 1
  · rw [if_pos h]; congr 1; rw [decide_eq_decide]; omega
  · rw [if_neg h]; congr 1; symm; rw [decide_eq_false_iff_not]; omega
/-- Bytes that are alike. -/
theorem ref01_Same_c (A B : Option Addr) (c k : Nat) (l : List Int) (w : World) (hr : Kd.C (Kd.int .u8) w A l.length l) (hc : l.length ≤ c) (hr2 : Kd.C (Kd.int .u8) w B l.length l) (hc2 : l.length ≤ k) :
    Calls Try.prog 10 #[.slice A l.length c, .slice B l.length k] w fun e w' => e = .returned (.bool true) ∧ Below w.heap.size w w' := by
  refine (drawbridgeref01_Same.calls A c l B k l true w hr hc hr2 hc2 ?_).mono fun e w' h => ⟨h.1, h.2.below⟩
  unfold drawbridgeref01_Same.f
  simp

set_option maxHeartbeats 3200000 in
set_option maxRecDepth 100000 in
theorem law_one (a0 a1 a2 a3 a4 a5 a6 : Int) (A : Option Addr) (c : Nat) (l : List Int) (w : World) :
    Calls Try.prog 12 #[.agg #[.int .i64 a0, .int .i64 a1, .int .u32 a2, .int .u32 a3, .int .i64 a4, .int .i64 a5, .int .i64 a6, .slice A l.length c]] w fun e w' => ∃ g, e = .returned (.slice (some ⟨g, 0, none⟩) 1 1) ∧ w'.heap[g]? = some (.cells #[.int .i64 a0, .int .i64 a1, .int .u32 a2, .int .u32 a3, .int .i64 a4, .int .i64 a5, .int .i64 a6, .slice A l.length c] 25 (0, 0)) ∧ Below w.heap.size w w' := by
  go_enter Try.func12, Try.ntmps12
  go_wp2
  go_ret
  refine ⟨_, rfl, ?_, ?_⟩
  · have := heap_alloc_new (w.alloc (.cells #[.int .i64 a0, .int .i64 a1, .int .u32 a2, .int .u32 a3, .int .i64 a4, .int .i64 a5, .int .i64 a6, .slice A l.length c] 25)) (.cells #[.int .i64 a0, .int .i64 a1, .int .u32 a2, .int .u32 a3, .int .i64 a4, .int .i64 a5, .int .i64 a6, .slice A l.length c] 25)
    simpa using this
  · exact ((Below.refl _ _).alloc (Nat.le_refl _) _).alloc (by simp) _

set_option maxHeartbeats 6400000 in
set_option maxRecDepth 100000 in
theorem ref19_Same_yes (a0 a1 a2 a3 a4 a5 a6 : Int) (A A' : Option Addr) (c c' gx gy : Nat) (l : List Int) (w : World) (hx : w.heap[gx]? = some (.cells #[.int .i64 a0, .int .i64 a1, .int .u32 a2, .int .u32 a3, .int .i64 a4, .int .i64 a5, .int .i64 a6, .slice A l.length c] 25 (0, 0))) (hy : w.heap[gy]? = some (.cells #[.int .i64 a0, .int .i64 a1, .int .u32 a2, .int .u32 a3, .int .i64 a4, .int .i64 a5, .int .i64 a6, .slice A' l.length c'] 25 (0, 0)))
    (hr : Kd.C (Kd.int .u8) w A l.length l) (hr2 : Kd.C (Kd.int .u8) w A' l.length l) :
    Calls Try.prog 11 #[.slice (some ⟨gx, 0, none⟩) 1 1, .slice (some ⟨gy, 0, none⟩) 1 1] w fun e w' => e = .returned (.bool true) ∧ Below w.heap.size w w' := by
  have HGx0 := Aside0.mk hx
  have HGy0 := Aside0.mk hy
  have HR := Aside0.mk hr
  have HR2 := Aside0.mk hr2
  clear hx hy hr hr2
  go_enter Try.func11, Try.ntmps11
  go_wp2
  go_loopw [5] (fun i W => ∃ k : Nat, k ≤ 1 ∧ i = .int .i64 k ∧ Aside0 (Below w.heap.size w W)) (fun i _ => 1 - (intOf i).toNat)
  case atStart => exact ⟨0, by omega, rfl, ⟨Below.refl _ _⟩⟩
  case round =>
    obtain ⟨k, hk, rfl, HB⟩ := hrel
    by_cases hlt : k < 1
    · obtain rfl : k = 0 := by omega
      go_upto_region 6 with fail
      have HB0 := HB
      have HGx := Aside0.mk (blk_below HGx0.out HB.out)
      have HGy := Aside0.mk (blk_below HGy0.out HB.out)
      go_cut [6, 7] from 13 to 82 (fun v6 v7 wc => ∃ g6 g7 : Nat, v6 = .pointer (some ⟨g6, 0, none⟩) ∧ v7 = .pointer (some ⟨g7, 0, none⟩) ∧ Aside0 (wc.heap[g6]? = some (.cells #[.int .i64 a0, .int .i64 a1, .int .u32 a2, .int .u32 a3, .int .i64 a4, .int .i64 a5, .int .i64 a6, .slice A l.length c] 25 (0, 0))) ∧ Aside0 (wc.heap[g7]? = some (.cells #[.int .i64 a0, .int .i64 a1, .int .u32 a2, .int .u32 a3, .int .i64 a4, .int .i64 a5, .int .i64 a6, .slice A' l.length c'] 25 (0, 0))) ∧ Aside0 (Below w.heap.size w wc))
      have hKA : KeepAll wr (fun W => W.cell? ⟨gx, 0, none⟩ = some (.int .i64 a0) ∧ W.cell? ⟨gx, 1, none⟩ = some (.int .i64 a1) ∧ W.cell? ⟨gx, 2, none⟩ = some (.int .u32 a2) ∧ W.cell? ⟨gx, 3, none⟩ = some (.int .u32 a3) ∧ W.cell? ⟨gx, 4, none⟩ = some (.int .i64 a4) ∧ W.cell? ⟨gx, 5, none⟩ = some (.int .i64 a5) ∧ W.cell? ⟨gx, 6, none⟩ = some (.int .i64 a6) ∧ W.cell? ⟨gx, 7, none⟩ = some (.slice A l.length c) ∧ W.cell? ⟨gy, 0, none⟩ = some (.int .i64 a0) ∧ W.cell? ⟨gy, 1, none⟩ = some (.int .i64 a1) ∧ W.cell? ⟨gy, 2, none⟩ = some (.int .u32 a2) ∧ W.cell? ⟨gy, 3, none⟩ = some (.int .u32 a3) ∧ W.cell? ⟨gy, 4, none⟩ = some (.int .i64 a4) ∧ W.cell? ⟨gy, 5, none⟩ = some (.int .i64 a5) ∧ W.cell? ⟨gy, 6, none⟩ = some (.int .i64 a6) ∧ W.cell? ⟨gy, 7, none⟩ = some (.slice A' l.length c')) := fun W' hb => ⟨kept_cell ((blk_cell HGx.out 0).trans rfl) hb, kept_cell ((blk_cell HGx.out 1).trans rfl) hb, kept_cell ((blk_cell HGx.out 2).trans rfl) hb, kept_cell ((blk_cell HGx.out 3).trans rfl) hb, kept_cell ((blk_cell HGx.out 4).trans rfl) hb, kept_cell ((blk_cell HGx.out 5).trans rfl) hb, kept_cell ((blk_cell HGx.out 6).trans rfl) hb, kept_cell ((blk_cell HGx.out 7).trans rfl) hb, kept_cell ((blk_cell HGy.out 0).trans rfl) hb, kept_cell ((blk_cell HGy.out 1).trans rfl) hb, kept_cell ((blk_cell HGy.out 2).trans rfl) hb, kept_cell ((blk_cell HGy.out 3).trans rfl) hb, kept_cell ((blk_cell HGy.out 4).trans rfl) hb, kept_cell ((blk_cell HGy.out 5).trans rfl) hb, kept_cell ((blk_cell HGy.out 6).trans rfl) hb, kept_cell ((blk_cell HGy.out 7).trans rfl) hb⟩
      case first =>
        replace HGx := Aside0.mk (blk_drew HGx.out)
        replace HGy := Aside0.mk (blk_drew HGy.out)
        replace HB := Aside0.mk HB.out.drew
        have hKS : (wr.drew.cell? ⟨gx, 0, none⟩ = some (.int .i64 a0) ∧ wr.drew.cell? ⟨gx, 1, none⟩ = some (.int .i64 a1) ∧ wr.drew.cell? ⟨gx, 2, none⟩ = some (.int .u32 a2) ∧ wr.drew.cell? ⟨gx, 3, none⟩ = some (.int .u32 a3) ∧ wr.drew.cell? ⟨gx, 4, none⟩ = some (.int .i64 a4) ∧ wr.drew.cell? ⟨gx, 5, none⟩ = some (.int .i64 a5) ∧ wr.drew.cell? ⟨gx, 6, none⟩ = some (.int .i64 a6) ∧ wr.drew.cell? ⟨gx, 7, none⟩ = some (.slice A l.length c) ∧ wr.drew.cell? ⟨gy, 0, none⟩ = some (.int .i64 a0) ∧ wr.drew.cell? ⟨gy, 1, none⟩ = some (.int .i64 a1) ∧ wr.drew.cell? ⟨gy, 2, none⟩ = some (.int .u32 a2) ∧ wr.drew.cell? ⟨gy, 3, none⟩ = some (.int .u32 a3) ∧ wr.drew.cell? ⟨gy, 4, none⟩ = some (.int .i64 a4) ∧ wr.drew.cell? ⟨gy, 5, none⟩ = some (.int .i64 a5) ∧ wr.drew.cell? ⟨gy, 6, none⟩ = some (.int .i64 a6) ∧ wr.drew.cell? ⟨gy, 7, none⟩ = some (.slice A' l.length c')) := ⟨(blk_cell HGx.out 0).trans rfl, (blk_cell HGx.out 1).trans rfl, (blk_cell HGx.out 2).trans rfl, (blk_cell HGx.out 3).trans rfl, (blk_cell HGx.out 4).trans rfl, (blk_cell HGx.out 5).trans rfl, (blk_cell HGx.out 6).trans rfl, (blk_cell HGx.out 7).trans rfl, (blk_cell HGy.out 0).trans rfl, (blk_cell HGy.out 1).trans rfl, (blk_cell HGy.out 2).trans rfl, (blk_cell HGy.out 3).trans rfl, (blk_cell HGy.out 4).trans rfl, (blk_cell HGy.out 5).trans rfl, (blk_cell HGy.out 6).trans rfl, (blk_cell HGy.out 7).trans rfl⟩
        go_region_held3 (fun W => W.cell? ⟨gx, 0, none⟩ = some (.int .i64 a0) ∧ W.cell? ⟨gx, 1, none⟩ = some (.int .i64 a1) ∧ W.cell? ⟨gx, 2, none⟩ = some (.int .u32 a2) ∧ W.cell? ⟨gx, 3, none⟩ = some (.int .u32 a3) ∧ W.cell? ⟨gx, 4, none⟩ = some (.int .i64 a4) ∧ W.cell? ⟨gx, 5, none⟩ = some (.int .i64 a5) ∧ W.cell? ⟨gx, 6, none⟩ = some (.int .i64 a6) ∧ W.cell? ⟨gx, 7, none⟩ = some (.slice A l.length c) ∧ W.cell? ⟨gy, 0, none⟩ = some (.int .i64 a0) ∧ W.cell? ⟨gy, 1, none⟩ = some (.int .i64 a1) ∧ W.cell? ⟨gy, 2, none⟩ = some (.int .u32 a2) ∧ W.cell? ⟨gy, 3, none⟩ = some (.int .u32 a3) ∧ W.cell? ⟨gy, 4, none⟩ = some (.int .i64 a4) ∧ W.cell? ⟨gy, 5, none⟩ = some (.int .i64 a5) ∧ W.cell? ⟨gy, 6, none⟩ = some (.int .i64 a6) ∧ W.cell? ⟨gy, 7, none⟩ = some (.slice A' l.length c')) (exact hKA _ (by repeat (first | (with_reducible exact Below.refl _ _) | (with_reducible apply below_drew) | (with_reducible apply below_alloc) | (refine below_set ?_ (by simp)))))
          (fail)
        all_goals (go_wp2; go_meet)
        case rel => exact ⟨_, _, rfl, rfl, ⟨two_fst _ _ _⟩, ⟨two_snd _ _ _⟩, ⟨two_below HB0.out _ _⟩⟩
        case rel => exact ⟨_, _, rfl, rfl, ⟨two_snd _ _ _⟩, ⟨two_fst _ _ _⟩, ⟨two_below HB0.out _ _⟩⟩
      case rest =>
        obtain ⟨g6, g7, rfl, rfl, HG6, HG7, HB⟩ := hcut
        have hcv3 := Kd.C_string (P := Try.prog) (A := A) (c := c) Try.underlying23 Try.underlying5 Try.underlying9 (Kd.C_below HR.out HB.out)
        have hcv4 := Kd.C_string (P := Try.prog) (A := A') (c := c') Try.underlying23 Try.underlying5 Try.underlying9 (Kd.C_below HR2.out HB.out)
        have hc6_0 := (blk_cell HG6.out 0).trans rfl
        have hc6_1 := (blk_cell HG6.out 1).trans rfl
        have hc6_2 := (blk_cell HG6.out 2).trans rfl
        have hc6_3 := (blk_cell HG6.out 3).trans rfl
        have hc6_4 := (blk_cell HG6.out 4).trans rfl
        have hc6_5 := (blk_cell HG6.out 5).trans rfl
        have hc6_6 := (blk_cell HG6.out 6).trans rfl
        have hc6_7 := (blk_cell HG6.out 7).trans rfl
        have hc7_0 := (blk_cell HG7.out 0).trans rfl
        have hc7_1 := (blk_cell HG7.out 1).trans rfl
        have hc7_2 := (blk_cell HG7.out 2).trans rfl
        have hc7_3 := (blk_cell HG7.out 3).trans rfl
        have hc7_4 := (blk_cell HG7.out 4).trans rfl
        have hc7_5 := (blk_cell HG7.out 5).trans rfl
        have hc7_6 := (blk_cell HG7.out 6).trans rfl
        have hc7_7 := (blk_cell HG7.out 7).trans rfl
        clear HGx HGy
        go_wp2
        go_roundw
        case rel => exact ⟨1, by omega, by go_num, HB⟩
        case measure => simp [intOf]
    · obtain rfl : k = 1 := by omega
      go_wp2
      go_ret
      exact ⟨rfl, HB.out⟩
end Go.Proofs.Ytndkaffkdjaaoaa.H
