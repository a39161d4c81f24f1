/- Parts of a proof: contracts of functions that the law reaches. -/
import Derived.Test.YtndkaffkdjaaoaaTh
namespace Go.Proofs.Ytndkaffkdjaaoaa.QSeg
open Go.RowKit Go.Proofs.Ytndkaffkdjaaoaa.H Go.Proofs.YtndkaffkdjaaoaaW.PrintWords Go.Proofs.YtndkaffkdjaaoaaW.PrintLast Go.Proofs.YtndkaffkdjaaoaaW.PrintMore
attribute [local go_sem] max2_int min2_int max_two min_two max_three min_three max_four min_four   -- for this text's walks alone
set_option linter.unusedVariables false
set_option linter.unusedSimpArgs false

/-! ### drawbridgeref19_Get: function 9 -/
def drawbridgeref19_Get.j0 : Nat → List Int → Int → Int → Int → Bool → Option (Int × Int × Int × Int × Int × Int × Int × List Int × Int)
  | 0, _, _, _, _, _ => none
  | k + 1, x0, x1, x2, x8, x28 => if x28 = true then (some (0, 0, 0, 0, 0, 0, 0, ([] : List Int), 161)) else (if (x0.length : Int) < x8 then (some (0, 0, 0, 0, 0, 0, 0, ([] : List Int), 160)) else ((drawbridgeref15_Pseudo.f x1 x2 6 (x0.length : Int)).bind fun t273 => (if t273.length + x0.length < 140737488355328 then ((drawbridgeref15_Right.f (t273 ++ x0)).bind fun t279 => (if t279 = true then (if 20 ≤ x8 then (if x8 ≤ (x0.length : Int) then ((drawbridgeref19_mss.f k ((x0.take (x8 : Int).toNat).drop 20)).bind fun bt281 => (if bt281.2 = true then (if 2 ≤ (x0.length : Int) then ((drawbridgeref19_get.f (x0.take 2)).bind fun t284 => (if 2 ≤ 4 then (if 4 ≤ (x0.length : Int) then ((drawbridgeref19_get.f ((x0.take 4).drop 2)).bind fun t286 => (if 4 ≤ 8 then (if 8 ≤ (x0.length : Int) then ((drawbridgeref19_get.f ((x0.take 8).drop 4)).bind fun t288 => (if 8 ≤ 12 then (if 12 ≤ (x0.length : Int) then ((drawbridgeref19_get.f ((x0.take 12).drop 8)).bind fun t290 => (if 13 < (x0.length : Int) then (if 14 ≤ 16 then (if 16 ≤ (x0.length : Int) then ((drawbridgeref19_get.f ((x0.take 16).drop 14)).bind fun t293 => ((some (([] : List Int) : List Int)).bind fun y295 => (if 0 ≤ x8 then (if y295.length + (x0.drop (x8 : Int).toNat).length < 140737488355328 then (some (wrap64 (t284), wrap64 (t286), (t288) % 4294967296, (t290) % 4294967296, wrap64 (Int.tmod (rd x0 13) 64), wrap64 (t293), bt281.1, (y295 ++ (x0.drop (x8 : Int).toNat)), 0)) else (none)) else (none)))) else (none)) else (none)) else (none))) else (none)) else (none))) else (none)) else (none))) else (none)) else (none))) else (none)) else (some (0, 0, 0, 0, 0, 0, 0, ([] : List Int), 161)))) else (none)) else (none)) else (some (0, 0, 0, 0, 0, 0, 0, ([] : List Int), 162)))) else (none))))
def drawbridgeref19_Get.f (k : Nat) (l0 : List Int) (a1 : Int) (a2 : Int) : Option (Int × Int × Int × Int × Int × Int × Int × List Int × Int) := if (l0.length : Int) < 20 then (some (0, 0, 0, 0, 0, 0, 0, ([] : List Int), 160)) else (if 12 < (l0.length : Int) then (if (l0.length : Int) > 65535 then (drawbridgeref19_Get.j0 k l0 a1 a2 (((Int.tdiv (rd l0 12) 16) % 256) * 4) true) else (drawbridgeref19_Get.j0 k l0 a1 a2 (((Int.tdiv (rd l0 12) 16) % 256) * 4) (decide ((((Int.tdiv (rd l0 12) 16) % 256) * 4) < 20)))) else (none))
theorem drawbridgeref19_Get.mono_l : ∀ k, (∀ y0 y1 y2 y3 y4, LeO (drawbridgeref19_Get.j0 k y0 y1 y2 y3 y4) (drawbridgeref19_Get.j0 (k + 1) y0 y1 y2 y3 y4))
  | 0 => fun _ _ _ _ _ r h => by simp [drawbridgeref19_Get.j0] at h
  | k + 1 => by
    have ih0 := drawbridgeref19_Get.mono_l k
    · intro y0 y1 y2 y3 y4
      unfold drawbridgeref19_Get.j0
      repeat' first
      | (with_reducible exact ih0 _ _ _ _ _)
      | (with_reducible exact drawbridgeref19_mss.mono _ _)
      | (with_reducible exact LeO.refl _)
      | (with_reducible exact LeO.none _)
      | (with_reducible refine LeO.ite ?_ ?_)
      | (with_reducible refine LeO.bind ?_ (fun _ => ?_))
      | exact ih0 _ _ _ _ _
      | exact drawbridgeref19_mss.mono _ _
      | exact LeO.none _
      | refine LeO.ite ?_ ?_
      | refine LeO.bind ?_ (fun _ => ?_)
theorem drawbridgeref19_Get.mono : ∀ a0 a1 a2 k, LeO (drawbridgeref19_Get.f k a0 a1 a2) (drawbridgeref19_Get.f (k + 1) a0 a1 a2) := by
  intro a0 a1 a2 k
  have ih0 := drawbridgeref19_Get.mono_l k
  unfold drawbridgeref19_Get.f
  repeat' first
      | (with_reducible exact ih0 _ _ _ _ _)
      | (with_reducible exact drawbridgeref19_mss.mono _ _)
      | (with_reducible exact LeO.refl _)
      | (with_reducible exact LeO.none _)
      | (with_reducible refine LeO.ite ?_ ?_)
      | (with_reducible refine LeO.bind ?_ (fun _ => ?_))
      | exact ih0 _ _ _ _ _
      | exact drawbridgeref19_mss.mono _ _
      | exact LeO.none _
      | refine LeO.ite ?_ ?_
      | refine LeO.bind ?_ (fun _ => ?_)
def drawbridgeref19_Get.T13 : Bool × List (List Nat × List Nat) := (true, [([], []), ([0], [0]), ([1], [1]), ([2], [2]), ([], []), ([4], [4]), ([5, 2], [5]), ([6], [6]), ([], []), ([8], [8]), ([9, 6], [9]), ([10], [10]), ([], []), ([12], [12]), ([13, 10], [13]), ([14], [14]), ([], []), ([16], [16]), ([17], [17]), ([18], [18]), ([19], [19]), ([], []), ([21], [21]), ([22, 14], [22]), ([23], [23]), ([], []), ([3, 7, 11, 15, 20, 24, 25], [3, 7, 11, 15, 20, 24, 25]), ([], []), ([27, 26, 23, 0, 1, 2, 3, 4, 5, 6, 7, 8, 9, 10, 11, 12, 13, 14, 15, 16, 17, 18, 19, 20, 21, 22, 23, 24, 25, 26, 27], [26, 27])])
def drawbridgeref19_Get.B13 : List Nat := [0, 1, 3, 7, 0, 16, 55, 119, 0, 256, 887, 1911, 0, 4096, 14199, 30583, 0, 65536, 196608, 458752, 983040, 0, 2097152, 6322039, 14710647, 0, 67108863, 0, 268435455]
theorem drawbridgeref19_Get.tab13 : rtab .any (opsOf Try.f9 13) = drawbridgeref19_Get.T13 := by kernel_rfl
theorem drawbridgeref19_Get.bits13 : waitsOk drawbridgeref19_Get.T13.2 drawbridgeref19_Get.B13 = true := by kernel_rfl
set_option maxHeartbeats 8000000 in
set_option maxRecDepth 100000 in
theorem drawbridgeref19_Get.calls (k : Nat) (A0 : Option Addr) (c0 : Nat) (l0 : List Int) (a1 : Int) (a2 : Int) (r1 : Int) (r2 : Int) (r3 : Int) (r4 : Int) (r5 : Int) (r6 : Int) (r7 : Int) (r8 : List Int) (r9 : Int) (w : World) (hr0 : Kd.C (Kd.int .u8) w A0 l0.length l0) (hc0 : l0.length ≤ c0) (h : drawbridgeref19_Get.f k l0 a1 a2 = some (r1, r2, r3, r4, r5, r6, r7, r8, r9)) :
    Calls Try.prog 9 #[.slice A0 l0.length c0, .int .u32 a1, .int .u32 a2] w fun e w' => ∃ v7_ : Value, e = .returned (.tuple #[.agg #[.int .i64 r1, .int .i64 r2, .int .u32 r3, .int .u32 r4, .int .i64 r5, .int .i64 r6, .int .i64 r7, v7_], .int .i64 r9]) ∧ Kd.R (Kd.int .u8) 5 w' w.heap.size (fun _ => True) v7_ r8 ∧ Below w.heap.size w w' := by
  have hu25 := Try.underlying25
  have HR0 := Aside0.mk hr0
  have HC0 := Aside0.mk hc0
  clear hr0 hc0
  have HB := Aside0.mk (Below.refl w.heap.size w)
  have H : (if (l0.length : Int) < 20 then (some (0, 0, 0, 0, 0, 0, 0, ([] : List Int), 160)) else (if 12 < (l0.length : Int) then (if (l0.length : Int) > 65535 then (drawbridgeref19_Get.j0 k l0 a1 a2 (((Int.tdiv (rd l0 12) 16) % 256) * 4) true) else (drawbridgeref19_Get.j0 k l0 a1 a2 (((Int.tdiv (rd l0 12) 16) % 256) * 4) (decide ((((Int.tdiv (rd l0 12) 16) % 256) * 4) < 20)))) else (none))) = some (r1, r2, r3, r4, r5, r6, r7, r8, r9) := h
  clear h
  by_cases c4 : (l0.length : Int) < 20
  · rw [if_pos c4] at H
    have c4b0 : decide ((l0.length : Int) < 20) = true := decide_eq_true c4
    have c4b1 : decide (l0.length < 20) = true := decide_eq_true (by omega)
    clear c4
    simp only [Option.some.injEq, Prod.mk.injEq] at H
    obtain ⟨rfl, rfl, rfl, rfl, rfl, rfl, rfl, rfl, rfl⟩ := H
    go_enter Try.func9, Try.ntmps9
    go_wp2_with (first | ((with_reducible refine gate_dst (N := 6) rfl ?_); refine box_event ?hg (N := 6) ?hd (cs := #[.int .i64 0, .int .i64 0, .int .u32 0, .int .u32 0, .int .i64 0, .int .i64 0, .int .i64 0, .slice none 0 0]) (t := 25) ?hr ?_; (case hd => rfl); (case hg => rfl); (case hr => first | (go_simp; done) | (go_simp; rfl)); intro gb271 hg w5 hbox hb; have n0_ := Aside0.mk (below_step (by repeat (first | (with_reducible first | exact HB.out | apply below_alloc | apply pw_below_drewN | apply below_drew1) | exact HB.out)) hb); have n1_ := Aside0.mk (hbox); have n2_ := Aside0.mk ((by rw [hg]; exact (below_size (by repeat (first | (with_reducible first | exact HB.out | apply below_alloc | apply pw_below_drewN | apply below_drew1) | exact HB.out))) : w.heap.size ≤ gb271)); have n3_ := Aside0.mk ((by rw [hg]; exact (below_size (by repeat (first | (with_reducible first | exact HB.out | apply below_alloc | apply pw_below_drewN | apply below_drew1) | exact HB.out))) : w.heap.size ≤ gb271)); clear HB; have HB := n0_; have BK271 := n1_; have GW271 := n2_; have GE271 := n3_; clear n0_ n1_ n2_ n3_; clear hb hbox hg; have hcz6_0 : w5.cell? ⟨gb271, 0, none⟩ = some (.int .i64 0) := (blk_cell BK271.out 0).trans rfl; have hcz6_1 : w5.cell? ⟨gb271, 1, none⟩ = some (.int .i64 0) := (blk_cell BK271.out 1).trans rfl; have hcz6_2 : w5.cell? ⟨gb271, 2, none⟩ = some (.int .u32 0) := (blk_cell BK271.out 2).trans rfl; have hcz6_3 : w5.cell? ⟨gb271, 3, none⟩ = some (.int .u32 0) := (blk_cell BK271.out 3).trans rfl; have hcz6_4 : w5.cell? ⟨gb271, 4, none⟩ = some (.int .i64 0) := (blk_cell BK271.out 4).trans rfl; have hcz6_5 : w5.cell? ⟨gb271, 5, none⟩ = some (.int .i64 0) := (blk_cell BK271.out 5).trans rfl; have hcz6_6 : w5.cell? ⟨gb271, 6, none⟩ = some (.int .i64 0) := (blk_cell BK271.out 6).trans rfl; have hcz6_7 : w5.cell? ⟨gb271, 7, none⟩ = some (.slice none 0 0) := (blk_cell BK271.out 7).trans rfl; have hfz6_0 := blk_frozen BK271.out 0; have hfz6_1 := blk_frozen BK271.out 1; have hfz6_2 := blk_frozen BK271.out 2; have hfz6_3 := blk_frozen BK271.out 3; have hfz6_4 := blk_frozen BK271.out 4; have hfz6_5 := blk_frozen BK271.out 5; have hfz6_6 := blk_frozen BK271.out 6; have hfz6_7 := blk_frozen BK271.out 7))
    refine bodyPost_ret (results_ct rfl _ _ gb271 25 #[.int .i64 0, .int .i64 0, .int .u32 0, .int .u32 0, .int .i64 0, .int .i64 0, .int .i64 0, .slice none 0 0] (0, 0) _ rfl (by (with_reducible repeat (first | refine blk_drewN ?_ _ | refine blk_drew ?_ | refine blk_alloc ?_ _)); refine blk_put (cs := #[.int .i64 0, .int .i64 0, .int .u32 0, .int .u32 0, .int .i64 0, .int .i64 0, .int .i64 0, .slice none 0 0]) ?_ 7 _ rfl; (with_reducible repeat (first | refine blk_drewN ?_ _ | refine blk_drew ?_ | refine blk_alloc ?_ _)); refine blk_put (cs := #[.int .i64 0, .int .i64 0, .int .u32 0, .int .u32 0, .int .i64 0, .int .i64 0, .int .i64 0, .slice none 0 0]) ?_ 6 _ rfl; (with_reducible repeat (first | refine blk_drewN ?_ _ | refine blk_drew ?_ | refine blk_alloc ?_ _)); refine blk_put (cs := #[.int .i64 0, .int .i64 0, .int .u32 0, .int .u32 0, .int .i64 0, .int .i64 0, .int .i64 0, .slice none 0 0]) ?_ 5 _ rfl; (with_reducible repeat (first | refine blk_drewN ?_ _ | refine blk_drew ?_ | refine blk_alloc ?_ _)); refine blk_put (cs := #[.int .i64 0, .int .i64 0, .int .u32 0, .int .u32 0, .int .i64 0, .int .i64 0, .int .i64 0, .slice none 0 0]) ?_ 4 _ rfl; (with_reducible repeat (first | refine blk_drewN ?_ _ | refine blk_drew ?_ | refine blk_alloc ?_ _)); refine blk_put (cs := #[.int .i64 0, .int .i64 0, .int .u32 0, .int .u32 0, .int .i64 0, .int .i64 0, .int .i64 0, .slice none 0 0]) ?_ 3 _ rfl; (with_reducible repeat (first | refine blk_drewN ?_ _ | refine blk_drew ?_ | refine blk_alloc ?_ _)); refine blk_put (cs := #[.int .i64 0, .int .i64 0, .int .u32 0, .int .u32 0, .int .i64 0, .int .i64 0, .int .i64 0, .slice none 0 0]) ?_ 2 _ rfl; (with_reducible repeat (first | refine blk_drewN ?_ _ | refine blk_drew ?_ | refine blk_alloc ?_ _)); refine blk_put (cs := #[.int .i64 0, .int .i64 0, .int .u32 0, .int .u32 0, .int .i64 0, .int .i64 0, .int .i64 0, .slice none 0 0]) ?_ 1 _ rfl; (with_reducible repeat (first | refine blk_drewN ?_ _ | refine blk_drew ?_ | refine blk_alloc ?_ _)); refine blk_put (cs := #[.int .i64 0, .int .i64 0, .int .u32 0, .int .u32 0, .int .i64 0, .int .i64 0, .int .i64 0, .slice none 0 0]) ?_ 0 _ rfl; (with_reducible repeat (first | refine blk_drewN ?_ _ | refine blk_drew ?_ | refine blk_alloc ?_ _)); exact BK271.out) Try.underlying25 rfl (by kernel_rfl)) rfl ?_
    exact ⟨_, by first | rfl | (simp [errW_none, errW_some] <;> rfl) | (simp [*, errW_none, errW_some] <;> rfl), by first | exact Kd.R_nil _ _ _ _ _ | exact Kd.N_nil _ _ _ _ _ | exact Kd.V_nil _ _ _ _ _ | exact Kd.Q_nil _ _ _ _ _ | exact Kd.S_nil _ _ _ _ _, by repeat (first | (with_reducible first | exact HB.out | apply below_alloc | apply pw_below_drewN | apply below_drew1 | refine below_set ?_ GE271.out) | exact HB.out)⟩
  · rw [if_neg c4] at H
    have c4b0 : decide ((l0.length : Int) < 20) = false := decide_eq_false c4
    have c4b1 : decide (l0.length < 20) = false := decide_eq_false (by omega)
    clear c4
    by_cases c7 : 12 < (l0.length : Int)
    · rw [if_pos c7] at H
      have c7b0 : decide (12 < (l0.length : Int)) = true := decide_eq_true c7
      have c7b1 : decide (12 < l0.length) = true := decide_eq_true (by omega)
      clear c7
      have HC8 := Aside0.mk H
      clear H
      go_enter Try.func9, Try.ntmps9
      go_upto_region 4 with (first | ((with_reducible refine gate_dst (N := 6) rfl ?_); refine box_event ?hg (N := 6) ?hd (cs := #[.int .i64 0, .int .i64 0, .int .u32 0, .int .u32 0, .int .i64 0, .int .i64 0, .int .i64 0, .slice none 0 0]) (t := 25) ?hr ?_; (case hd => rfl); (case hg => rfl); (case hr => first | (go_simp; done) | (go_simp; rfl)); intro gb271 hg w9 hbox hb; have n0_ := Aside0.mk (below_step (by repeat (first | (with_reducible first | exact HB.out | apply below_alloc | apply pw_below_drewN | apply below_drew1) | exact HB.out)) hb); have n1_ := Aside0.mk (hbox); have n2_ := Aside0.mk ((by rw [hg]; exact (below_size (by repeat (first | (with_reducible first | exact HB.out | apply below_alloc | apply pw_below_drewN | apply below_drew1) | exact HB.out))) : w.heap.size ≤ gb271)); have n3_ := Aside0.mk ((by rw [hg]; exact (below_size (by repeat (first | (with_reducible first | exact HB.out | apply below_alloc | apply pw_below_drewN | apply below_drew1) | exact HB.out))) : w.heap.size ≤ gb271)); clear HB; have HB := n0_; have BK271 := n1_; have GW271 := n2_; have GE271 := n3_; clear n0_ n1_ n2_ n3_; clear hb hbox hg; have p272 : 0 ≤ (12 : Int) := (by omega); have q272 : 12 < (l0.length : Int) := of_decide_eq_true (by first | (with_reducible assumption) | assumption); obtain ⟨ad272, e272, hx272_0⟩ := Kd.at_int HR0.out 12 p272 q272; cases e272; (try simp only [show (12 : Int).toNat = 12 from rfl, Nat.reduceMul, Nat.reduceEqDiff, Go.Addr.add, ↓reduceIte] at hx272_0); have qi272 : (12 < l0.length) = True := eq_true (by omega); (try rw [show ((12 : Int)).toNat = 12 from rfl] at hx272_0); replace hx272_0 := (HB.out.cell (World.block_lt_of_cell? w _ hx272_0)).trans hx272_0; replace p272 := eq_true p272; replace q272 := eq_true q272))
      (try simp only [Act.put, List.setIfInBounds_toArray, List.set_cons_zero, List.set_cons_succ])
      go_cut [28] (fun v28 wc => ∃ (kq : Nat) (x28_7 : Bool), v28 = .bool x28_7 ∧ Aside0 (drawbridgeref19_Get.j0 kq l0 a1 a2 (((Int.tdiv (rd l0 12) 16) % 256) * 4) x28_7 = some (r1, r2, r3, r4, r5, r6, r7, r8, r9)) ∧ Aside0 (kq ≤ k) ∧ Aside0 (wc.heap[gb271]? = some (.cells #[.int .i64 0, .int .i64 0, .int .u32 0, .int .u32 0, .int .i64 0, .int .i64 0, .int .i64 0, (.slice none 0 0)] 25 (0, 0))) ∧ Aside0 (Below w.heap.size w wc))
      case first =>
        have H := HC8.out
        clear HC8
        by_cases c10 : (l0.length : Int) > 65535
        · rw [if_pos c10] at H
          have c10b0 : decide (65535 < (l0.length : Int)) = true := decide_eq_true c10
          have c10b1 : decide (65535 < l0.length) = true := decide_eq_true (by omega)
          clear c10
          (first | rw [c10b0] | (simp only [i64_w, i32_w]; rw [c10b0]) | skip)
          have H' := Aside0.mk H
          clear H
          go_wp2
          go_meet
          case rel => exact ⟨_, (true), (by first | rfl | (simp; done) | (simp [*]; done)), H', ⟨by first | omega | exact Nat.le_refl _⟩, ⟨by (with_reducible repeat (first | refine blk_drewN ?_ _ | refine blk_drew ?_ | refine blk_alloc ?_ _)); exact BK271.out⟩, ⟨by repeat (first | (with_reducible first | exact HB.out | apply below_alloc | apply pw_below_drewN | apply below_drew1 | refine below_set ?_ GE271.out) | exact HB.out)⟩⟩
        · rw [if_neg c10] at H
          have c10b0 : decide (65535 < (l0.length : Int)) = false := decide_eq_false c10
          have c10b1 : decide (65535 < l0.length) = false := decide_eq_false (by omega)
          clear c10
          (first | rw [c10b0] | (simp only [i64_w, i32_w]; rw [c10b0]) | skip)
          have H' := Aside0.mk H
          clear H
          go_wp2
          go_meet
          case rel => exact ⟨_, (decide ((((Int.tdiv (rd l0 12) 16) % 256) * 4) < 20)), (by first | rfl | (simp; done) | (simp [*]; done)), H', ⟨by first | omega | exact Nat.le_refl _⟩, ⟨by (with_reducible repeat (first | refine blk_drewN ?_ _ | refine blk_drew ?_ | refine blk_alloc ?_ _)); exact BK271.out⟩, ⟨by repeat (first | (with_reducible first | exact HB.out | apply below_alloc | apply pw_below_drewN | apply below_drew1 | refine below_set ?_ GE271.out) | exact HB.out)⟩⟩
      case rest =>
        clear HC8
        try clear c1
        try clear p2
        try clear q2
        try clear hx2
        try clear qi2
        try clear c4
        try clear c4b0
        try clear c4b1
        try clear c7
        try clear c7b0
        try clear c7b1
        try clear c9
        try clear c10
        try clear c10b0
        try clear c10b1
        try clear hcz6_0
        try clear hcz6_1
        try clear hcz6_2
        try clear hcz6_3
        try clear hcz6_4
        try clear hcz6_5
        try clear hcz6_6
        try clear hcz6_7
        try clear hfz6_0
        try clear hfz6_1
        try clear hfz6_2
        try clear hfz6_3
        try clear hfz6_4
        try clear hfz6_5
        try clear hfz6_6
        try clear hfz6_7
        try clear hx272_0
        try clear p272
        try clear q272
        obtain ⟨kq, x28_7, rfl, HA, HJ7, BK271, HB⟩ := hcut
        cases kq with
        | zero => exact absurd HA.out (by simp [drawbridgeref19_Get.j0])
        | succ kj7 =>
          have H := HA.out
          clear HA
          simp only [drawbridgeref19_Get.j0] at H
          by_cases c11 : x28_7 = true
          · subst c11
            have H1 : (some (0, 0, 0, 0, 0, 0, 0, ([] : List Int), 161)) = some (r1, r2, r3, r4, r5, r6, r7, r8, r9) := by rw [if_pos rfl] at H; exact H
            clear H
            have H := H1
            clear H1
            simp only [Option.some.injEq, Prod.mk.injEq] at H
            obtain ⟨rfl, rfl, rfl, rfl, rfl, rfl, rfl, rfl, rfl⟩ := H
            have hcz12_0 : wc.cell? ⟨gb271, 0, none⟩ = some (.int .i64 0) := (blk_cell BK271.out 0).trans rfl
            have hcz12_1 : wc.cell? ⟨gb271, 1, none⟩ = some (.int .i64 0) := (blk_cell BK271.out 1).trans rfl
            have hcz12_2 : wc.cell? ⟨gb271, 2, none⟩ = some (.int .u32 0) := (blk_cell BK271.out 2).trans rfl
            have hcz12_3 : wc.cell? ⟨gb271, 3, none⟩ = some (.int .u32 0) := (blk_cell BK271.out 3).trans rfl
            have hcz12_4 : wc.cell? ⟨gb271, 4, none⟩ = some (.int .i64 0) := (blk_cell BK271.out 4).trans rfl
            have hcz12_5 : wc.cell? ⟨gb271, 5, none⟩ = some (.int .i64 0) := (blk_cell BK271.out 5).trans rfl
            have hcz12_6 : wc.cell? ⟨gb271, 6, none⟩ = some (.int .i64 0) := (blk_cell BK271.out 6).trans rfl
            have hcz12_7 : wc.cell? ⟨gb271, 7, none⟩ = some (.slice none 0 0) := (blk_cell BK271.out 7).trans rfl
            have hfz12_0 := blk_frozen BK271.out 0
            have hfz12_1 := blk_frozen BK271.out 1
            have hfz12_2 := blk_frozen BK271.out 2
            have hfz12_3 := blk_frozen BK271.out 3
            have hfz12_4 := blk_frozen BK271.out 4
            have hfz12_5 := blk_frozen BK271.out 5
            have hfz12_6 := blk_frozen BK271.out 6
            have hfz12_7 := blk_frozen BK271.out 7
            go_wp2
            refine bodyPost_ret (results_ct rfl _ _ gb271 25 #[.int .i64 0, .int .i64 0, .int .u32 0, .int .u32 0, .int .i64 0, .int .i64 0, .int .i64 0, .slice none 0 0] (0, 0) _ rfl (by (with_reducible repeat (first | refine blk_drewN ?_ _ | refine blk_drew ?_ | refine blk_alloc ?_ _)); refine blk_put (cs := #[.int .i64 0, .int .i64 0, .int .u32 0, .int .u32 0, .int .i64 0, .int .i64 0, .int .i64 0, .slice none 0 0]) ?_ 7 _ rfl; (with_reducible repeat (first | refine blk_drewN ?_ _ | refine blk_drew ?_ | refine blk_alloc ?_ _)); refine blk_put (cs := #[.int .i64 0, .int .i64 0, .int .u32 0, .int .u32 0, .int .i64 0, .int .i64 0, .int .i64 0, .slice none 0 0]) ?_ 6 _ rfl; (with_reducible repeat (first | refine blk_drewN ?_ _ | refine blk_drew ?_ | refine blk_alloc ?_ _)); refine blk_put (cs := #[.int .i64 0, .int .i64 0, .int .u32 0, .int .u32 0, .int .i64 0, .int .i64 0, .int .i64 0, .slice none 0 0]) ?_ 5 _ rfl; (with_reducible repeat (first | refine blk_drewN ?_ _ | refine blk_drew ?_ | refine blk_alloc ?_ _)); refine blk_put (cs := #[.int .i64 0, .int .i64 0, .int .u32 0, .int .u32 0, .int .i64 0, .int .i64 0, .int .i64 0, .slice none 0 0]) ?_ 4 _ rfl; (with_reducible repeat (first | refine blk_drewN ?_ _ | refine blk_drew ?_ | refine blk_alloc ?_ _)); refine blk_put (cs := #[.int .i64 0, .int .i64 0, .int .u32 0, .int .u32 0, .int .i64 0, .int .i64 0, .int .i64 0, .slice none 0 0]) ?_ 3 _ rfl; (with_reducible repeat (first | refine blk_drewN ?_ _ | refine blk_drew ?_ | refine blk_alloc ?_ _)); refine blk_put (cs := #[.int .i64 0, .int .i64 0, .int .u32 0, .int .u32 0, .int .i64 0, .int .i64 0, .int .i64 0, .slice none 0 0]) ?_ 2 _ rfl; (with_reducible repeat (first | refine blk_drewN ?_ _ | refine blk_drew ?_ | refine blk_alloc ?_ _)); refine blk_put (cs := #[.int .i64 0, .int .i64 0, .int .u32 0, .int .u32 0, .int .i64 0, .int .i64 0, .int .i64 0, .slice none 0 0]) ?_ 1 _ rfl; (with_reducible repeat (first | refine blk_drewN ?_ _ | refine blk_drew ?_ | refine blk_alloc ?_ _)); refine blk_put (cs := #[.int .i64 0, .int .i64 0, .int .u32 0, .int .u32 0, .int .i64 0, .int .i64 0, .int .i64 0, .slice none 0 0]) ?_ 0 _ rfl; (with_reducible repeat (first | refine blk_drewN ?_ _ | refine blk_drew ?_ | refine blk_alloc ?_ _)); exact BK271.out) Try.underlying25 rfl (by kernel_rfl)) rfl ?_
            exact ⟨_, by first | rfl | (simp [errW_none, errW_some] <;> rfl) | (simp [*, errW_none, errW_some] <;> rfl), by first | exact Kd.R_nil _ _ _ _ _ | exact Kd.N_nil _ _ _ _ _ | exact Kd.V_nil _ _ _ _ _ | exact Kd.Q_nil _ _ _ _ _ | exact Kd.S_nil _ _ _ _ _, by repeat (first | (with_reducible first | exact HB.out | apply below_alloc | apply pw_below_drewN | apply below_drew1 | refine below_set ?_ GE271.out) | exact HB.out)⟩
          · replace c11 := Bool.eq_false_iff.mpr c11
            subst c11
            have H1 : (if (l0.length : Int) < (((Int.tdiv (rd l0 12) 16) % 256) * 4) then (some (0, 0, 0, 0, 0, 0, 0, ([] : List Int), 160)) else ((drawbridgeref15_Pseudo.f a1 a2 6 (l0.length : Int)).bind fun t273 => (if t273.length + l0.length < 140737488355328 then ((drawbridgeref15_Right.f (t273 ++ l0)).bind fun t279 => (if t279 = true then (if 20 ≤ (((Int.tdiv (rd l0 12) 16) % 256) * 4) then (if (((Int.tdiv (rd l0 12) 16) % 256) * 4) ≤ (l0.length : Int) then ((drawbridgeref19_mss.f kj7 ((l0.take ((((Int.tdiv (rd l0 12) 16) % 256) * 4) : Int).toNat).drop 20)).bind fun bt281 => (if bt281.2 = true then (if 2 ≤ (l0.length : Int) then ((drawbridgeref19_get.f (l0.take 2)).bind fun t284 => (if 2 ≤ 4 then (if 4 ≤ (l0.length : Int) then ((drawbridgeref19_get.f ((l0.take 4).drop 2)).bind fun t286 => (if 4 ≤ 8 then (if 8 ≤ (l0.length : Int) then ((drawbridgeref19_get.f ((l0.take 8).drop 4)).bind fun t288 => (if 8 ≤ 12 then (if 12 ≤ (l0.length : Int) then ((drawbridgeref19_get.f ((l0.take 12).drop 8)).bind fun t290 => (if 13 < (l0.length : Int) then (if 14 ≤ 16 then (if 16 ≤ (l0.length : Int) then ((drawbridgeref19_get.f ((l0.take 16).drop 14)).bind fun t293 => ((some (([] : List Int) : List Int)).bind fun y295 => (if 0 ≤ (((Int.tdiv (rd l0 12) 16) % 256) * 4) then (if y295.length + (l0.drop ((((Int.tdiv (rd l0 12) 16) % 256) * 4) : Int).toNat).length < 140737488355328 then (some (wrap64 (t284), wrap64 (t286), (t288) % 4294967296, (t290) % 4294967296, wrap64 (Int.tmod (rd l0 13) 64), wrap64 (t293), bt281.1, (y295 ++ (l0.drop ((((Int.tdiv (rd l0 12) 16) % 256) * 4) : Int).toNat)), 0)) else (none)) else (none)))) else (none)) else (none)) else (none))) else (none)) else (none))) else (none)) else (none))) else (none)) else (none))) else (none)) else (some (0, 0, 0, 0, 0, 0, 0, ([] : List Int), 161)))) else (none)) else (none)) else (some (0, 0, 0, 0, 0, 0, 0, ([] : List Int), 162)))) else (none)))) = some (r1, r2, r3, r4, r5, r6, r7, r8, r9) := by rw [if_neg (show ¬ (false = true) by decide)] at H; exact H
            clear H
            have H := H1
            clear H1
            by_cases c13 : (l0.length : Int) < (((Int.tdiv (rd l0 12) 16) % 256) * 4)
            · rw [if_pos c13] at H
              have c13b0 : decide ((l0.length : Int) < (((Int.tdiv (rd l0 12) 16) % 256) * 4)) = true := decide_eq_true c13
              clear c13
              simp only [Option.some.injEq, Prod.mk.injEq] at H
              obtain ⟨rfl, rfl, rfl, rfl, rfl, rfl, rfl, rfl, rfl⟩ := H
              have hcz14_0 : wc.cell? ⟨gb271, 0, none⟩ = some (.int .i64 0) := (blk_cell BK271.out 0).trans rfl
              have hcz14_1 : wc.cell? ⟨gb271, 1, none⟩ = some (.int .i64 0) := (blk_cell BK271.out 1).trans rfl
              have hcz14_2 : wc.cell? ⟨gb271, 2, none⟩ = some (.int .u32 0) := (blk_cell BK271.out 2).trans rfl
              have hcz14_3 : wc.cell? ⟨gb271, 3, none⟩ = some (.int .u32 0) := (blk_cell BK271.out 3).trans rfl
              have hcz14_4 : wc.cell? ⟨gb271, 4, none⟩ = some (.int .i64 0) := (blk_cell BK271.out 4).trans rfl
              have hcz14_5 : wc.cell? ⟨gb271, 5, none⟩ = some (.int .i64 0) := (blk_cell BK271.out 5).trans rfl
              have hcz14_6 : wc.cell? ⟨gb271, 6, none⟩ = some (.int .i64 0) := (blk_cell BK271.out 6).trans rfl
              have hcz14_7 : wc.cell? ⟨gb271, 7, none⟩ = some (.slice none 0 0) := (blk_cell BK271.out 7).trans rfl
              have hfz14_0 := blk_frozen BK271.out 0
              have hfz14_1 := blk_frozen BK271.out 1
              have hfz14_2 := blk_frozen BK271.out 2
              have hfz14_3 := blk_frozen BK271.out 3
              have hfz14_4 := blk_frozen BK271.out 4
              have hfz14_5 := blk_frozen BK271.out 5
              have hfz14_6 := blk_frozen BK271.out 6
              have hfz14_7 := blk_frozen BK271.out 7
              go_wp2
              refine bodyPost_ret (results_ct rfl _ _ gb271 25 #[.int .i64 0, .int .i64 0, .int .u32 0, .int .u32 0, .int .i64 0, .int .i64 0, .int .i64 0, .slice none 0 0] (0, 0) _ rfl (by (with_reducible repeat (first | refine blk_drewN ?_ _ | refine blk_drew ?_ | refine blk_alloc ?_ _)); refine blk_put (cs := #[.int .i64 0, .int .i64 0, .int .u32 0, .int .u32 0, .int .i64 0, .int .i64 0, .int .i64 0, .slice none 0 0]) ?_ 7 _ rfl; (with_reducible repeat (first | refine blk_drewN ?_ _ | refine blk_drew ?_ | refine blk_alloc ?_ _)); refine blk_put (cs := #[.int .i64 0, .int .i64 0, .int .u32 0, .int .u32 0, .int .i64 0, .int .i64 0, .int .i64 0, .slice none 0 0]) ?_ 6 _ rfl; (with_reducible repeat (first | refine blk_drewN ?_ _ | refine blk_drew ?_ | refine blk_alloc ?_ _)); refine blk_put (cs := #[.int .i64 0, .int .i64 0, .int .u32 0, .int .u32 0, .int .i64 0, .int .i64 0, .int .i64 0, .slice none 0 0]) ?_ 5 _ rfl; (with_reducible repeat (first | refine blk_drewN ?_ _ | refine blk_drew ?_ | refine blk_alloc ?_ _)); refine blk_put (cs := #[.int .i64 0, .int .i64 0, .int .u32 0, .int .u32 0, .int .i64 0, .int .i64 0, .int .i64 0, .slice none 0 0]) ?_ 4 _ rfl; (with_reducible repeat (first | refine blk_drewN ?_ _ | refine blk_drew ?_ | refine blk_alloc ?_ _)); refine blk_put (cs := #[.int .i64 0, .int .i64 0, .int .u32 0, .int .u32 0, .int .i64 0, .int .i64 0, .int .i64 0, .slice none 0 0]) ?_ 3 _ rfl; (with_reducible repeat (first | refine blk_drewN ?_ _ | refine blk_drew ?_ | refine blk_alloc ?_ _)); refine blk_put (cs := #[.int .i64 0, .int .i64 0, .int .u32 0, .int .u32 0, .int .i64 0, .int .i64 0, .int .i64 0, .slice none 0 0]) ?_ 2 _ rfl; (with_reducible repeat (first | refine blk_drewN ?_ _ | refine blk_drew ?_ | refine blk_alloc ?_ _)); refine blk_put (cs := #[.int .i64 0, .int .i64 0, .int .u32 0, .int .u32 0, .int .i64 0, .int .i64 0, .int .i64 0, .slice none 0 0]) ?_ 1 _ rfl; (with_reducible repeat (first | refine blk_drewN ?_ _ | refine blk_drew ?_ | refine blk_alloc ?_ _)); refine blk_put (cs := #[.int .i64 0, .int .i64 0, .int .u32 0, .int .u32 0, .int .i64 0, .int .i64 0, .int .i64 0, .slice none 0 0]) ?_ 0 _ rfl; (with_reducible repeat (first | refine blk_drewN ?_ _ | refine blk_drew ?_ | refine blk_alloc ?_ _)); exact BK271.out) Try.underlying25 rfl (by kernel_rfl)) rfl ?_
              exact ⟨_, by first | rfl | (simp [errW_none, errW_some] <;> rfl) | (simp [*, errW_none, errW_some] <;> rfl), by first | exact Kd.R_nil _ _ _ _ _ | exact Kd.N_nil _ _ _ _ _ | exact Kd.V_nil _ _ _ _ _ | exact Kd.Q_nil _ _ _ _ _ | exact Kd.S_nil _ _ _ _ _, by repeat (first | (with_reducible first | exact HB.out | apply below_alloc | apply pw_below_drewN | apply below_drew1 | refine below_set ?_ GE271.out) | exact HB.out)⟩
            · rw [if_neg c13] at H
              have c13b0 : decide ((l0.length : Int) < (((Int.tdiv (rd l0 12) 16) % 256) * 4)) = false := decide_eq_false c13
              clear c13
              replace H := Option.bind_eq_some_iff.mp H
              obtain ⟨t273, A150, H⟩ := H
              replace H : (if t273.length + l0.length < 140737488355328 then ((drawbridgeref15_Right.f (t273 ++ l0)).bind fun t279 => (if t279 = true then (if 20 ≤ (((Int.tdiv (rd l0 12) 16) % 256) * 4) then (if (((Int.tdiv (rd l0 12) 16) % 256) * 4) ≤ (l0.length : Int) then ((drawbridgeref19_mss.f kj7 ((l0.take ((((Int.tdiv (rd l0 12) 16) % 256) * 4) : Int).toNat).drop 20)).bind fun bt281 => (if bt281.2 = true then (if 2 ≤ (l0.length : Int) then ((drawbridgeref19_get.f (l0.take 2)).bind fun t284 => (if 2 ≤ 4 then (if 4 ≤ (l0.length : Int) then ((drawbridgeref19_get.f ((l0.take 4).drop 2)).bind fun t286 => (if 4 ≤ 8 then (if 8 ≤ (l0.length : Int) then ((drawbridgeref19_get.f ((l0.take 8).drop 4)).bind fun t288 => (if 8 ≤ 12 then (if 12 ≤ (l0.length : Int) then ((drawbridgeref19_get.f ((l0.take 12).drop 8)).bind fun t290 => (if 13 < (l0.length : Int) then (if 14 ≤ 16 then (if 16 ≤ (l0.length : Int) then ((drawbridgeref19_get.f ((l0.take 16).drop 14)).bind fun t293 => ((some (([] : List Int) : List Int)).bind fun y295 => (if 0 ≤ (((Int.tdiv (rd l0 12) 16) % 256) * 4) then (if y295.length + (l0.drop ((((Int.tdiv (rd l0 12) 16) % 256) * 4) : Int).toNat).length < 140737488355328 then (some (wrap64 (t284), wrap64 (t286), (t288) % 4294967296, (t290) % 4294967296, wrap64 (Int.tmod (rd l0 13) 64), wrap64 (t293), bt281.1, (y295 ++ (l0.drop ((((Int.tdiv (rd l0 12) 16) % 256) * 4) : Int).toNat)), 0)) else (none)) else (none)))) else (none)) else (none)) else (none))) else (none)) else (none))) else (none)) else (none))) else (none)) else (none))) else (none)) else (some (0, 0, 0, 0, 0, 0, 0, ([] : List Int), 161)))) else (none)) else (none)) else (some (0, 0, 0, 0, 0, 0, 0, ([] : List Int), 162)))) else (none)) = some (r1, r2, r3, r4, r5, r6, r7, r8, r9) := H
              have A15 := Aside0.mk A150
              clear A150
              by_cases c16 : t273.length + l0.length < 140737488355328
              · rw [if_pos c16] at H
                have LMc16 := Aside0.mk c16
                clear c16
                obtain ⟨y276, hy276⟩ : ∃ y_ : List Int, y_ = (t273 ++ l0) := ⟨_, rfl⟩
                replace H : ((drawbridgeref15_Right.f y276).bind fun t279 => (if t279 = true then (if 20 ≤ (((Int.tdiv (rd l0 12) 16) % 256) * 4) then (if (((Int.tdiv (rd l0 12) 16) % 256) * 4) ≤ (l0.length : Int) then ((drawbridgeref19_mss.f kj7 ((l0.take ((((Int.tdiv (rd l0 12) 16) % 256) * 4) : Int).toNat).drop 20)).bind fun bt281 => (if bt281.2 = true then (if 2 ≤ (l0.length : Int) then ((drawbridgeref19_get.f (l0.take 2)).bind fun t284 => (if 2 ≤ 4 then (if 4 ≤ (l0.length : Int) then ((drawbridgeref19_get.f ((l0.take 4).drop 2)).bind fun t286 => (if 4 ≤ 8 then (if 8 ≤ (l0.length : Int) then ((drawbridgeref19_get.f ((l0.take 8).drop 4)).bind fun t288 => (if 8 ≤ 12 then (if 12 ≤ (l0.length : Int) then ((drawbridgeref19_get.f ((l0.take 12).drop 8)).bind fun t290 => (if 13 < (l0.length : Int) then (if 14 ≤ 16 then (if 16 ≤ (l0.length : Int) then ((drawbridgeref19_get.f ((l0.take 16).drop 14)).bind fun t293 => ((some (([] : List Int) : List Int)).bind fun y295 => (if 0 ≤ (((Int.tdiv (rd l0 12) 16) % 256) * 4) then (if y295.length + (l0.drop ((((Int.tdiv (rd l0 12) 16) % 256) * 4) : Int).toNat).length < 140737488355328 then (some (wrap64 (t284), wrap64 (t286), (t288) % 4294967296, (t290) % 4294967296, wrap64 (Int.tmod (rd l0 13) 64), wrap64 (t293), bt281.1, (y295 ++ (l0.drop ((((Int.tdiv (rd l0 12) 16) % 256) * 4) : Int).toNat)), 0)) else (none)) else (none)))) else (none)) else (none)) else (none))) else (none)) else (none))) else (none)) else (none))) else (none)) else (none))) else (none)) else (some (0, 0, 0, 0, 0, 0, 0, ([] : List Int), 161)))) else (none)) else (none)) else (some (0, 0, 0, 0, 0, 0, 0, ([] : List Int), 162)))) = some (r1, r2, r3, r4, r5, r6, r7, r8, r9) := by first | (rw [hy276]; with_reducible exact H) | (have H2_ := (Option.bind_some _ _).symm.trans H; rw [hy276]; with_reducible exact H2_) | (have H2_ := (Option.bind_some _ _).symm.trans H; with_reducible exact H2_) | with_reducible exact H | (rw [hy276]; exact H) | exact H
                have Ny276 := Aside0.mk hy276
                clear hy276
                replace H := Option.bind_eq_some_iff.mp H
                obtain ⟨t279, A170, H⟩ := H
                replace H : (if t279 = true then (if 20 ≤ (((Int.tdiv (rd l0 12) 16) % 256) * 4) then (if (((Int.tdiv (rd l0 12) 16) % 256) * 4) ≤ (l0.length : Int) then ((drawbridgeref19_mss.f kj7 ((l0.take ((((Int.tdiv (rd l0 12) 16) % 256) * 4) : Int).toNat).drop 20)).bind fun bt281 => (if bt281.2 = true then (if 2 ≤ (l0.length : Int) then ((drawbridgeref19_get.f (l0.take 2)).bind fun t284 => (if 2 ≤ 4 then (if 4 ≤ (l0.length : Int) then ((drawbridgeref19_get.f ((l0.take 4).drop 2)).bind fun t286 => (if 4 ≤ 8 then (if 8 ≤ (l0.length : Int) then ((drawbridgeref19_get.f ((l0.take 8).drop 4)).bind fun t288 => (if 8 ≤ 12 then (if 12 ≤ (l0.length : Int) then ((drawbridgeref19_get.f ((l0.take 12).drop 8)).bind fun t290 => (if 13 < (l0.length : Int) then (if 14 ≤ 16 then (if 16 ≤ (l0.length : Int) then ((drawbridgeref19_get.f ((l0.take 16).drop 14)).bind fun t293 => ((some (([] : List Int) : List Int)).bind fun y295 => (if 0 ≤ (((Int.tdiv (rd l0 12) 16) % 256) * 4) then (if y295.length + (l0.drop ((((Int.tdiv (rd l0 12) 16) % 256) * 4) : Int).toNat).length < 140737488355328 then (some (wrap64 (t284), wrap64 (t286), (t288) % 4294967296, (t290) % 4294967296, wrap64 (Int.tmod (rd l0 13) 64), wrap64 (t293), bt281.1, (y295 ++ (l0.drop ((((Int.tdiv (rd l0 12) 16) % 256) * 4) : Int).toNat)), 0)) else (none)) else (none)))) else (none)) else (none)) else (none))) else (none)) else (none))) else (none)) else (none))) else (none)) else (none))) else (none)) else (some (0, 0, 0, 0, 0, 0, 0, ([] : List Int), 161)))) else (none)) else (none)) else (some (0, 0, 0, 0, 0, 0, 0, ([] : List Int), 162))) = some (r1, r2, r3, r4, r5, r6, r7, r8, r9) := H
                have A17 := Aside0.mk A170
                clear A170
                by_cases c18 : t279 = true
                · subst c18
                  have H1 : (if 20 ≤ (((Int.tdiv (rd l0 12) 16) % 256) * 4) then (if (((Int.tdiv (rd l0 12) 16) % 256) * 4) ≤ (l0.length : Int) then ((drawbridgeref19_mss.f kj7 ((l0.take ((((Int.tdiv (rd l0 12) 16) % 256) * 4) : Int).toNat).drop 20)).bind fun bt281 => (if bt281.2 = true then (if 2 ≤ (l0.length : Int) then ((drawbridgeref19_get.f (l0.take 2)).bind fun t284 => (if 2 ≤ 4 then (if 4 ≤ (l0.length : Int) then ((drawbridgeref19_get.f ((l0.take 4).drop 2)).bind fun t286 => (if 4 ≤ 8 then (if 8 ≤ (l0.length : Int) then ((drawbridgeref19_get.f ((l0.take 8).drop 4)).bind fun t288 => (if 8 ≤ 12 then (if 12 ≤ (l0.length : Int) then ((drawbridgeref19_get.f ((l0.take 12).drop 8)).bind fun t290 => (if 13 < (l0.length : Int) then (if 14 ≤ 16 then (if 16 ≤ (l0.length : Int) then ((drawbridgeref19_get.f ((l0.take 16).drop 14)).bind fun t293 => ((some (([] : List Int) : List Int)).bind fun y295 => (if 0 ≤ (((Int.tdiv (rd l0 12) 16) % 256) * 4) then (if y295.length + (l0.drop ((((Int.tdiv (rd l0 12) 16) % 256) * 4) : Int).toNat).length < 140737488355328 then (some (wrap64 (t284), wrap64 (t286), (t288) % 4294967296, (t290) % 4294967296, wrap64 (Int.tmod (rd l0 13) 64), wrap64 (t293), bt281.1, (y295 ++ (l0.drop ((((Int.tdiv (rd l0 12) 16) % 256) * 4) : Int).toNat)), 0)) else (none)) else (none)))) else (none)) else (none)) else (none))) else (none)) else (none))) else (none)) else (none))) else (none)) else (none))) else (none)) else (some (0, 0, 0, 0, 0, 0, 0, ([] : List Int), 161)))) else (none)) else (none)) = some (r1, r2, r3, r4, r5, r6, r7, r8, r9) := by rw [if_pos rfl] at H; exact H
                  clear H
                  have H := H1
                  clear H1
                  by_cases c19 : 20 ≤ (((Int.tdiv (rd l0 12) 16) % 256) * 4)
                  · rw [if_pos c19] at H
                    have c19b0 := eq_true c19
                    have c19b1 : decide (20 ≤ (((Int.tdiv (rd l0 12) 16) % 256) * 4)) = true := decide_eq_true c19
                    clear c19
                    by_cases c20 : (((Int.tdiv (rd l0 12) 16) % 256) * 4) ≤ (l0.length : Int)
                    · rw [if_pos c20] at H
                      have c20b0 := eq_true c20
                      have c20b1 : decide ((((Int.tdiv (rd l0 12) 16) % 256) * 4) ≤ (l0.length : Int)) = true := decide_eq_true c20
                      clear c20
                      replace H := Option.bind_eq_some_iff.mp H
                      obtain ⟨⟨t281, t282⟩, A210, H⟩ := H
                      replace H : (if t282 = true then (if 2 ≤ (l0.length : Int) then ((drawbridgeref19_get.f (l0.take 2)).bind fun t284 => (if 2 ≤ 4 then (if 4 ≤ (l0.length : Int) then ((drawbridgeref19_get.f ((l0.take 4).drop 2)).bind fun t286 => (if 4 ≤ 8 then (if 8 ≤ (l0.length : Int) then ((drawbridgeref19_get.f ((l0.take 8).drop 4)).bind fun t288 => (if 8 ≤ 12 then (if 12 ≤ (l0.length : Int) then ((drawbridgeref19_get.f ((l0.take 12).drop 8)).bind fun t290 => (if 13 < (l0.length : Int) then (if 14 ≤ 16 then (if 16 ≤ (l0.length : Int) then ((drawbridgeref19_get.f ((l0.take 16).drop 14)).bind fun t293 => ((some (([] : List Int) : List Int)).bind fun y295 => (if 0 ≤ (((Int.tdiv (rd l0 12) 16) % 256) * 4) then (if y295.length + (l0.drop ((((Int.tdiv (rd l0 12) 16) % 256) * 4) : Int).toNat).length < 140737488355328 then (some (wrap64 (t284), wrap64 (t286), (t288) % 4294967296, (t290) % 4294967296, wrap64 (Int.tmod (rd l0 13) 64), wrap64 (t293), t281, (y295 ++ (l0.drop ((((Int.tdiv (rd l0 12) 16) % 256) * 4) : Int).toNat)), 0)) else (none)) else (none)))) else (none)) else (none)) else (none))) else (none)) else (none))) else (none)) else (none))) else (none)) else (none))) else (none)) else (some (0, 0, 0, 0, 0, 0, 0, ([] : List Int), 161))) = some (r1, r2, r3, r4, r5, r6, r7, r8, r9) := H
                      have A21 := Aside0.mk A210
                      clear A210
                      by_cases c22 : t282 = true
                      · subst c22
                        have H1 : (if 2 ≤ (l0.length : Int) then ((drawbridgeref19_get.f (l0.take 2)).bind fun t284 => (if 2 ≤ 4 then (if 4 ≤ (l0.length : Int) then ((drawbridgeref19_get.f ((l0.take 4).drop 2)).bind fun t286 => (if 4 ≤ 8 then (if 8 ≤ (l0.length : Int) then ((drawbridgeref19_get.f ((l0.take 8).drop 4)).bind fun t288 => (if 8 ≤ 12 then (if 12 ≤ (l0.length : Int) then ((drawbridgeref19_get.f ((l0.take 12).drop 8)).bind fun t290 => (if 13 < (l0.length : Int) then (if 14 ≤ 16 then (if 16 ≤ (l0.length : Int) then ((drawbridgeref19_get.f ((l0.take 16).drop 14)).bind fun t293 => ((some (([] : List Int) : List Int)).bind fun y295 => (if 0 ≤ (((Int.tdiv (rd l0 12) 16) % 256) * 4) then (if y295.length + (l0.drop ((((Int.tdiv (rd l0 12) 16) % 256) * 4) : Int).toNat).length < 140737488355328 then (some (wrap64 (t284), wrap64 (t286), (t288) % 4294967296, (t290) % 4294967296, wrap64 (Int.tmod (rd l0 13) 64), wrap64 (t293), t281, (y295 ++ (l0.drop ((((Int.tdiv (rd l0 12) 16) % 256) * 4) : Int).toNat)), 0)) else (none)) else (none)))) else (none)) else (none)) else (none))) else (none)) else (none))) else (none)) else (none))) else (none)) else (none))) else (none)) = some (r1, r2, r3, r4, r5, r6, r7, r8, r9) := by rw [if_pos rfl] at H; exact H
                        clear H
                        have H := H1
                        clear H1
                        by_cases c23 : 2 ≤ (l0.length : Int)
                        · rw [if_pos c23] at H
                          have c23b0 := eq_true c23
                          have c23b1 : decide (2 ≤ (l0.length : Int)) = true := decide_eq_true c23
                          clear c23
                          replace H := Option.bind_eq_some_iff.mp H
                          obtain ⟨t284, A240, H⟩ := H
                          replace H : (if 2 ≤ 4 then (if 4 ≤ (l0.length : Int) then ((drawbridgeref19_get.f ((l0.take 4).drop 2)).bind fun t286 => (if 4 ≤ 8 then (if 8 ≤ (l0.length : Int) then ((drawbridgeref19_get.f ((l0.take 8).drop 4)).bind fun t288 => (if 8 ≤ 12 then (if 12 ≤ (l0.length : Int) then ((drawbridgeref19_get.f ((l0.take 12).drop 8)).bind fun t290 => (if 13 < (l0.length : Int) then (if 14 ≤ 16 then (if 16 ≤ (l0.length : Int) then ((drawbridgeref19_get.f ((l0.take 16).drop 14)).bind fun t293 => ((some (([] : List Int) : List Int)).bind fun y295 => (if 0 ≤ (((Int.tdiv (rd l0 12) 16) % 256) * 4) then (if y295.length + (l0.drop ((((Int.tdiv (rd l0 12) 16) % 256) * 4) : Int).toNat).length < 140737488355328 then (some (wrap64 (t284), wrap64 (t286), (t288) % 4294967296, (t290) % 4294967296, wrap64 (Int.tmod (rd l0 13) 64), wrap64 (t293), t281, (y295 ++ (l0.drop ((((Int.tdiv (rd l0 12) 16) % 256) * 4) : Int).toNat)), 0)) else (none)) else (none)))) else (none)) else (none)) else (none))) else (none)) else (none))) else (none)) else (none))) else (none)) else (none)) = some (r1, r2, r3, r4, r5, r6, r7, r8, r9) := H
                          have A24 := Aside0.mk A240
                          clear A240
                          by_cases c25 : 2 ≤ 4
                          · rw [if_pos c25] at H
                            have c25b0 := eq_true c25
                            have c25b1 : decide (2 ≤ 4) = true := decide_eq_true c25
                            clear c25
                            by_cases c26 : 4 ≤ (l0.length : Int)
                            · rw [if_pos c26] at H
                              have c26b0 := eq_true c26
                              have c26b1 : decide (4 ≤ (l0.length : Int)) = true := decide_eq_true c26
                              clear c26
                              replace H := Option.bind_eq_some_iff.mp H
                              obtain ⟨t286, A270, H⟩ := H
                              replace H : (if 4 ≤ 8 then (if 8 ≤ (l0.length : Int) then ((drawbridgeref19_get.f ((l0.take 8).drop 4)).bind fun t288 => (if 8 ≤ 12 then (if 12 ≤ (l0.length : Int) then ((drawbridgeref19_get.f ((l0.take 12).drop 8)).bind fun t290 => (if 13 < (l0.length : Int) then (if 14 ≤ 16 then (if 16 ≤ (l0.length : Int) then ((drawbridgeref19_get.f ((l0.take 16).drop 14)).bind fun t293 => ((some (([] : List Int) : List Int)).bind fun y295 => (if 0 ≤ (((Int.tdiv (rd l0 12) 16) % 256) * 4) then (if y295.length + (l0.drop ((((Int.tdiv (rd l0 12) 16) % 256) * 4) : Int).toNat).length < 140737488355328 then (some (wrap64 (t284), wrap64 (t286), (t288) % 4294967296, (t290) % 4294967296, wrap64 (Int.tmod (rd l0 13) 64), wrap64 (t293), t281, (y295 ++ (l0.drop ((((Int.tdiv (rd l0 12) 16) % 256) * 4) : Int).toNat)), 0)) else (none)) else (none)))) else (none)) else (none)) else (none))) else (none)) else (none))) else (none)) else (none)) = some (r1, r2, r3, r4, r5, r6, r7, r8, r9) := H
                              have A27 := Aside0.mk A270
                              clear A270
                              by_cases c28 : 4 ≤ 8
                              · rw [if_pos c28] at H
                                have c28b0 := eq_true c28
                                have c28b1 : decide (4 ≤ 8) = true := decide_eq_true c28
                                clear c28
                                by_cases c29 : 8 ≤ (l0.length : Int)
                                · rw [if_pos c29] at H
                                  have c29b0 := eq_true c29
                                  have c29b1 : decide (8 ≤ (l0.length : Int)) = true := decide_eq_true c29
                                  clear c29
                                  replace H := Option.bind_eq_some_iff.mp H
                                  obtain ⟨t288, A300, H⟩ := H
                                  replace H : (if 8 ≤ 12 then (if 12 ≤ (l0.length : Int) then ((drawbridgeref19_get.f ((l0.take 12).drop 8)).bind fun t290 => (if 13 < (l0.length : Int) then (if 14 ≤ 16 then (if 16 ≤ (l0.length : Int) then ((drawbridgeref19_get.f ((l0.take 16).drop 14)).bind fun t293 => ((some (([] : List Int) : List Int)).bind fun y295 => (if 0 ≤ (((Int.tdiv (rd l0 12) 16) % 256) * 4) then (if y295.length + (l0.drop ((((Int.tdiv (rd l0 12) 16) % 256) * 4) : Int).toNat).length < 140737488355328 then (some (wrap64 (t284), wrap64 (t286), (t288) % 4294967296, (t290) % 4294967296, wrap64 (Int.tmod (rd l0 13) 64), wrap64 (t293), t281, (y295 ++ (l0.drop ((((Int.tdiv (rd l0 12) 16) % 256) * 4) : Int).toNat)), 0)) else (none)) else (none)))) else (none)) else (none)) else (none))) else (none)) else (none)) = some (r1, r2, r3, r4, r5, r6, r7, r8, r9) := H
                                  have A30 := Aside0.mk A300
                                  clear A300
                                  by_cases c31 : 8 ≤ 12
                                  · rw [if_pos c31] at H
                                    have c31b0 := eq_true c31
                                    have c31b1 : decide (8 ≤ 12) = true := decide_eq_true c31
                                    clear c31
                                    by_cases c32 : 12 ≤ (l0.length : Int)
                                    · rw [if_pos c32] at H
                                      have c32b0 := eq_true c32
                                      have c32b1 : decide (12 ≤ (l0.length : Int)) = true := decide_eq_true c32
                                      clear c32
                                      replace H := Option.bind_eq_some_iff.mp H
                                      obtain ⟨t290, A330, H⟩ := H
                                      replace H : (if 13 < (l0.length : Int) then (if 14 ≤ 16 then (if 16 ≤ (l0.length : Int) then ((drawbridgeref19_get.f ((l0.take 16).drop 14)).bind fun t293 => ((some (([] : List Int) : List Int)).bind fun y295 => (if 0 ≤ (((Int.tdiv (rd l0 12) 16) % 256) * 4) then (if y295.length + (l0.drop ((((Int.tdiv (rd l0 12) 16) % 256) * 4) : Int).toNat).length < 140737488355328 then (some (wrap64 (t284), wrap64 (t286), (t288) % 4294967296, (t290) % 4294967296, wrap64 (Int.tmod (rd l0 13) 64), wrap64 (t293), t281, (y295 ++ (l0.drop ((((Int.tdiv (rd l0 12) 16) % 256) * 4) : Int).toNat)), 0)) else (none)) else (none)))) else (none)) else (none)) else (none)) = some (r1, r2, r3, r4, r5, r6, r7, r8, r9) := H
                                      have A33 := Aside0.mk A330
                                      clear A330
                                      by_cases c34 : 13 < (l0.length : Int)
                                      · rw [if_pos c34] at H
                                        have c34b0 : decide (13 < (l0.length : Int)) = true := decide_eq_true c34
                                        have c34b1 : decide (13 < l0.length) = true := decide_eq_true (by omega)
                                        clear c34
                                        by_cases c35 : 14 ≤ 16
                                        · rw [if_pos c35] at H
                                          have c35b0 := eq_true c35
                                          have c35b1 : decide (14 ≤ 16) = true := decide_eq_true c35
                                          clear c35
                                          by_cases c36 : 16 ≤ (l0.length : Int)
                                          · rw [if_pos c36] at H
                                            have c36b0 := eq_true c36
                                            have c36b1 : decide (16 ≤ (l0.length : Int)) = true := decide_eq_true c36
                                            clear c36
                                            replace H := Option.bind_eq_some_iff.mp H
                                            obtain ⟨t293, A370, H⟩ := H
                                            replace H : ((some (([] : List Int) : List Int)).bind fun y295 => (if 0 ≤ (((Int.tdiv (rd l0 12) 16) % 256) * 4) then (if y295.length + (l0.drop ((((Int.tdiv (rd l0 12) 16) % 256) * 4) : Int).toNat).length < 140737488355328 then (some (wrap64 (t284), wrap64 (t286), (t288) % 4294967296, (t290) % 4294967296, wrap64 (Int.tmod (rd l0 13) 64), wrap64 (t293), t281, (y295 ++ (l0.drop ((((Int.tdiv (rd l0 12) 16) % 256) * 4) : Int).toNat)), 0)) else (none)) else (none))) = some (r1, r2, r3, r4, r5, r6, r7, r8, r9) := H
                                            have A37 := Aside0.mk A370
                                            clear A370
                                            obtain ⟨y295, hy295⟩ : ∃ y_ : List Int, y_ = (([] : List Int)) := ⟨_, rfl⟩
                                            replace H : (if 0 ≤ (((Int.tdiv (rd l0 12) 16) % 256) * 4) then (if y295.length + (l0.drop ((((Int.tdiv (rd l0 12) 16) % 256) * 4) : Int).toNat).length < 140737488355328 then (some (wrap64 (t284), wrap64 (t286), (t288) % 4294967296, (t290) % 4294967296, wrap64 (Int.tmod (rd l0 13) 64), wrap64 (t293), t281, (y295 ++ (l0.drop ((((Int.tdiv (rd l0 12) 16) % 256) * 4) : Int).toNat)), 0)) else (none)) else (none)) = some (r1, r2, r3, r4, r5, r6, r7, r8, r9) := by first | (rw [hy295]; with_reducible exact H) | (have H2_ := (Option.bind_some _ _).symm.trans H; rw [hy295]; with_reducible exact H2_) | (have H2_ := (Option.bind_some _ _).symm.trans H; with_reducible exact H2_) | with_reducible exact H | (rw [hy295]; exact H) | exact H
                                            have Ny295 := Aside0.mk hy295
                                            clear hy295
                                            obtain ⟨ji38, hji38⟩ : ∃ j_ : Int, (((Int.tdiv (rd l0 12) 16) % 256) * 4) = j_ := ⟨_, rfl⟩
                                            replace H : (if 0 ≤ (ji38) then (if y295.length + (l0.drop ((ji38) : Int).toNat).length < 140737488355328 then (some (wrap64 (t284), wrap64 (t286), (t288) % 4294967296, (t290) % 4294967296, wrap64 (Int.tmod (rd l0 13) 64), wrap64 (t293), t281, (y295 ++ (l0.drop ((ji38) : Int).toNat)), 0)) else (none)) else (none)) = some (r1, r2, r3, r4, r5, r6, r7, r8, r9) := by first | (rw [hji38] at H; exact H) | (simp only [hji38] at H ⊢; exact H)
                                            (try rw [hji38] at c13b0)
                                            (try rw [hji38] at c19b0)
                                            (try rw [hji38] at c19b1)
                                            (try rw [hji38] at c20b0)
                                            (try rw [hji38] at c20b1)
                                            (try rw [hji38] at A15)
                                            (try rw [hji38] at A17)
                                            (try rw [hji38] at A21)
                                            (try rw [hji38] at A24)
                                            (try rw [hji38] at A27)
                                            (try rw [hji38] at A30)
                                            (try rw [hji38] at A33)
                                            (try rw [hji38] at A37)
                                            by_cases c39 : 0 ≤ (ji38)
                                            · rw [if_pos c39] at H
                                              have c39b0 := eq_true c39
                                              have c39b1 : decide (0 ≤ (ji38)) = true := decide_eq_true c39
                                              clear c39
                                              have c40b0 := eq_true (of_decide_eq_true (by first | (with_reducible assumption) | assumption) : (ji38) ≤ (l0.length : Int))
                                              by_cases c41 : y295.length + (l0.drop ((ji38) : Int).toNat).length < 140737488355328
                                              · rw [if_pos c41] at H
                                                have LMc41 := Aside0.mk c41
                                                clear c41
                                                obtain ⟨y299, hy299⟩ : ∃ y_ : List Int, y_ = (y295 ++ (l0.drop ((ji38) : Int).toNat)) := ⟨_, rfl⟩
                                                replace H : (some (wrap64 (t284), wrap64 (t286), (t288) % 4294967296, (t290) % 4294967296, wrap64 (Int.tmod (rd l0 13) 64), wrap64 (t293), t281, y299, 0)) = some (r1, r2, r3, r4, r5, r6, r7, r8, r9) := by first | (rw [hy299]; with_reducible exact H) | (have H2_ := (Option.bind_some _ _).symm.trans H; rw [hy299]; with_reducible exact H2_) | (have H2_ := (Option.bind_some _ _).symm.trans H; with_reducible exact H2_) | with_reducible exact H | (rw [hy299]; exact H) | exact H
                                                have Ny299 := Aside0.mk hy299
                                                clear hy299
                                                simp only [Option.some.injEq, Prod.mk.injEq] at H
                                                obtain ⟨rfl, rfl, rfl, rfl, rfl, rfl, rfl, rfl, rfl⟩ := H
                                                try go_wp2_with (first | ((with_reducible refine gate_callee (f := 28) rfl ?_); refine goesL_ (some 39) rfl rfl Try.func28 (by kernel_rfl) rfl #[.int .u32 a1, .int .u32 a2, .int .i64 6, .int .i64 (l0.length : Int)] rfl (by (try simp only [List.map_toArray, List.map_cons, List.map_nil]); first | done | rfl | (simp only [List.length_drop, List.length_take]; rfl)) ?_; (with_reducible refine (drawbridgeref15_Pseudo.calls a1 a2 6 (l0.length : Int) t273 _ A15.out).mono ?_); rintro e w42 ⟨v274, rfl, ho0, hb⟩; refine ⟨_, rfl, ?_⟩; have n0_ := Aside0.mk (Kd.R_lower ho0 (below_size (by repeat (first | (with_reducible first | exact HB.out | apply below_alloc | apply pw_below_drewN | apply below_drew1 | refine below_set ?_ GE271.out) | exact HB.out)))); have n1_ := Aside0.mk (blk_below (g := gb271) (o := .cells #[.int .i64 0, .int .i64 0, .int .u32 0, .int .u32 0, .int .i64 0, .int .i64 0, .int .i64 0, .slice none 0 0] 25 (0, 0)) (by (with_reducible repeat (first | refine blk_drewN ?_ _ | refine blk_drew ?_ | refine blk_alloc ?_ _)); exact BK271.out) hb); have n2_ := Aside0.mk (below_step (by repeat (first | (with_reducible first | exact HB.out | apply below_alloc | apply pw_below_drewN | apply below_drew1 | refine below_set ?_ GE271.out) | exact HB.out)) hb); clear BK271; clear HB; have HO275 := n0_; have BK271 := n1_; have HB := n2_; clear n0_ n1_ n2_; (try clear hb); (try clear hb2); (try clear hk); (try clear hi); (try clear ho0)) | ((with_reducible refine gate_builtin (b := .append) (xs := #[.tmp 39, .tmp 40]) rfl ?_); at_builtin; refine Kd.R_append_rows (Kd.int .u8) (w0 := w) w.heap.size rfl (.tmp 39) (.tmp 40) 23 5 (.int .u8 0) 1 rfl Try.underlying23 info5 rfl (by decide) (by omega) v274 t273 l0 _ _ _ (fun _ => True) (fun _ => False) rfl rfl ?aO ?aR (fun _ _ h => h) (fun _ h => h.elim) ?aF ?aB ?aS ?aL ?_; (case aR => repeat (first | exact (Kd.C_below HR0.out HB.out) | (with_reducible refine Kd.C_alloc ?_ _) | (with_reducible refine Kd.C_drewN ?_ _) | (with_reducible refine Kd.C_drew ?_))); (case aB => exact (by repeat (first | (with_reducible first | exact HB.out | apply below_alloc | apply pw_below_drewN | apply below_drew1 | refine below_set ?_ GE271.out) | exact HB.out))); (case aF => exact (fun _ _ => trivial)); (case aO => exact (by (with_reducible repeat (first | apply Kd.R_alloc | apply Kd.R_drewN | apply Kd.R_drew)); exact HO275.out)); (case aS => exact (below_size (by repeat (first | (with_reducible first | exact HB.out | apply below_alloc | apply pw_below_drewN | apply below_drew1 | refine below_set ?_ GE271.out) | exact HB.out)))); (case aL => have := LMc16.out; omega); intro v277 w43 ho hb hg hat; rw [← Ny276.out] at ho; have n0_ := Aside0.mk (blk_grown (g := gb271) (o := .cells #[.int .i64 0, .int .i64 0, .int .u32 0, .int .u32 0, .int .i64 0, .int .i64 0, .int .i64 0, .slice none 0 0] 25 (0, 0)) (by (with_reducible repeat (first | refine blk_drewN ?_ _ | refine blk_drew ?_ | refine blk_alloc ?_ _)); exact BK271.out) hg (Kd.R_ne HO275.out BK271.out (by decide))); have n1_ := Aside0.mk (hb); have n2_ := Aside0.mk (ho); clear BK271; clear HB; clear HO275; have BK271 := n0_; have HB := n1_; have HO278 := n2_; clear n0_ n1_ n2_; clear ho hb hg hat; obtain ⟨Ao44, co44, eo44⟩ := Kd.R_slice HO278.out; subst eo44) | ((with_reducible refine gate_callee (f := 35) rfl ?_); refine goesL_ (some 42) rfl rfl Try.func35 (by kernel_rfl) rfl #[.slice Ao44 y276.length co44] rfl (by (try simp only [List.map_toArray, List.map_cons, List.map_nil]); first | done | rfl | (simp only [List.length_drop, List.length_take]; rfl)) ?_; (with_reducible refine (drawbridgeref15_Right.calls _ _ y276 true _ ?side1 ?side2 A17.out).mono ?_); (case side1 => repeat (first | exact (Kd.R_reads' HO278.out).2.2 | (with_reducible refine Kd.C_alloc ?_ _) | (with_reducible refine Kd.C_drewN ?_ _) | (with_reducible refine Kd.C_drew ?_))); (case side2 => exact (Kd.R_reads' HO278.out).2.1); rintro e w' ⟨rfl, ⟨nd, rfl⟩⟩; refine ⟨_, rfl, ?_⟩; (try (rw [drewN_self w43]; generalize hq_ : World.drewN w43 _ = w43; have n0_ : Aside0 (Kd.R (Kd.int .u8) 5 w43 w.heap.size (fun _ => True) (.slice Ao44 y276.length co44) y276) := ⟨by rw [← hq_]; exact (by (with_reducible repeat (first | apply Kd.R_alloc | apply Kd.R_drewN | apply Kd.R_drew)); exact HO278.out)⟩; have n1_ : Aside0 (w43.heap[gb271]? = some (.cells #[.int .i64 0, .int .i64 0, .int .u32 0, .int .u32 0, .int .i64 0, .int .i64 0, .int .i64 0, .slice none 0 0] 25 (0, 0))) := ⟨by rw [← hq_]; exact (by (with_reducible repeat (first | refine blk_drewN ?_ _ | refine blk_drew ?_ | refine blk_alloc ?_ _)); exact BK271.out)⟩; have n2_ : Aside0 (Below w.heap.size w w43) := ⟨by rw [← hq_]; exact (by repeat (first | (with_reducible first | exact HB.out | apply below_alloc | apply pw_below_drewN | apply below_drew1 | refine below_set ?_ GE271.out) | exact HB.out))⟩; clear HO278 BK271 HB hq_; have HO278 := n0_; have BK271 := n1_; have HB := n2_; clear n0_ n1_ n2_)); obtain ⟨i045, hi045, _, hsz45, _⟩ := info_parts info5; obtain ⟨A45, hcut45, hA45, hC45⟩ := print_mid_of (P := Try.prog) (Value.int .u8) 0 23 5 .i64 .i64 Try.underlying23 hi045 hsz45 (some ad272) c0 l0 20 (ji38) (by omega) (by first | omega | exact of_decide_eq_true (by first | (with_reducible assumption) | assumption)) (of_decide_eq_true (by first | (with_reducible assumption) | assumption)) HC0.out; have HR280 := Aside0.mk (Kd.C_of_reads (h1 := fun _ => rfl) (hA45 _ (Kd.reads_of_C HR0.out))); have HC280 := Aside0.mk hC45; clear hA45 hC45 hi045 hsz45) | ((with_reducible refine gate_callee (f := 36) rfl ?_); refine goesL_ (some 49) rfl rfl Try.func36 (by kernel_rfl) rfl #[.slice A45 ((l0.take ((ji38) : Int).toNat).drop 20).length (c0 - 20)] rfl (by (try simp only [List.map_toArray, List.map_cons, List.map_nil]); first | done | (rw [show ((l0.take ((ji38) : Int).toNat).drop 20).length = ((ji38).toNat - 20) from (by rw [List.length_drop, List.length_take]; have h_ : ((ji38) : Int) ≤ (l0.length : Int) := of_decide_eq_true (by first | (with_reducible assumption) | assumption); omega)] <;> rfl) | (simp only [hji38]; rfl) | rfl | (simp only [List.length_drop, List.length_take]; rfl)) ?_; (with_reducible refine (drawbridgeref19_mss.calls kj7 _ _ ((l0.take ((ji38) : Int).toNat).drop 20) t281 true _ ?side1 ?side2 A21.out).mono ?_); (case side1 => repeat (first | exact (Kd.C_below HR280.out HB.out) | (with_reducible refine Kd.C_alloc ?_ _) | (with_reducible refine Kd.C_drewN ?_ _) | (with_reducible refine Kd.C_drew ?_))); (case side2 => exact HC280.out); rintro e w' ⟨rfl, ⟨nd, rfl⟩⟩; refine ⟨_, rfl, ?_⟩; (try (rw [drewN_self w43]; generalize hq_ : World.drewN w43 _ = w43; have n0_ : Aside0 (Kd.R (Kd.int .u8) 5 w43 w.heap.size (fun _ => True) (.slice Ao44 y276.length co44) y276) := ⟨by rw [← hq_]; exact (by (with_reducible repeat (first | apply Kd.R_alloc | apply Kd.R_drewN | apply Kd.R_drew)); exact HO278.out)⟩; have n1_ : Aside0 (w43.heap[gb271]? = some (.cells #[.int .i64 0, .int .i64 0, .int .u32 0, .int .u32 0, .int .i64 0, .int .i64 0, .int .i64 0, .slice none 0 0] 25 (0, 0))) := ⟨by rw [← hq_]; exact (by (with_reducible repeat (first | refine blk_drewN ?_ _ | refine blk_drew ?_ | refine blk_alloc ?_ _)); exact BK271.out)⟩; have n2_ : Aside0 (Below w.heap.size w w43) := ⟨by rw [← hq_]; exact (by repeat (first | (with_reducible first | exact HB.out | apply below_alloc | apply pw_below_drewN | apply below_drew1 | refine below_set ?_ GE271.out) | exact HB.out))⟩; clear HO278 BK271 HB hq_; have HO278 := n0_; have BK271 := n1_; have HB := n2_; clear n0_ n1_ n2_))))
                                                have n0_ := Aside0.mk (Kd.R_drew HO278.out)
                                                have n1_ := Aside0.mk (blk_drew BK271.out)
                                                have n2_ := Aside0.mk (below_drew1 HB.out)
                                                clear HO278
                                                clear BK271
                                                clear HB
                                                have HO278 := n0_
                                                have BK271 := n1_
                                                have HB := n2_
                                                clear n0_ n1_ n2_
                                                obtain ⟨i047, hi047, _, hsz47, _⟩ := info_parts info5
                                                obtain ⟨hcut47, hA47, hC47⟩ := print_take_of (P := Try.prog) (Value.int .u8) 0 23 5 .i64 Try.underlying23 hi047 hsz47 (some ad272) c0 l0 2 (by omega) (of_decide_eq_true (by first | (with_reducible assumption) | assumption)) HC0.out
                                                have HR283 := Aside0.mk (Kd.C_of_reads (h1 := fun _ => rfl) (hA47 _ (Kd.reads_of_C HR0.out)))
                                                have HC283 := Aside0.mk hC47
                                                clear hA47 hC47 hi047 hsz47
                                                obtain ⟨i048, hi048, _, hsz48, _⟩ := info_parts info5
                                                obtain ⟨A48, hcut48, hA48, hC48⟩ := print_mid_of (P := Try.prog) (Value.int .u8) 0 23 5 .i64 .i64 Try.underlying23 hi048 hsz48 (some ad272) c0 l0 2 4 (by omega) (by first | omega | exact of_decide_eq_true (by first | (with_reducible assumption) | assumption)) (of_decide_eq_true (by first | (with_reducible assumption) | assumption)) HC0.out
                                                have HR285 := Aside0.mk (Kd.C_of_reads (h1 := fun _ => rfl) (hA48 _ (Kd.reads_of_C HR0.out)))
                                                have HC285 := Aside0.mk hC48
                                                clear hA48 hC48 hi048 hsz48
                                                obtain ⟨i049, hi049, _, hsz49, _⟩ := info_parts info5
                                                obtain ⟨A49, hcut49, hA49, hC49⟩ := print_mid_of (P := Try.prog) (Value.int .u8) 0 23 5 .i64 .i64 Try.underlying23 hi049 hsz49 (some ad272) c0 l0 4 8 (by omega) (by first | omega | exact of_decide_eq_true (by first | (with_reducible assumption) | assumption)) (of_decide_eq_true (by first | (with_reducible assumption) | assumption)) HC0.out
                                                have HR287 := Aside0.mk (Kd.C_of_reads (h1 := fun _ => rfl) (hA49 _ (Kd.reads_of_C HR0.out)))
                                                have HC287 := Aside0.mk hC49
                                                clear hA49 hC49 hi049 hsz49
                                                obtain ⟨i050, hi050, _, hsz50, _⟩ := info_parts info5
                                                obtain ⟨A50, hcut50, hA50, hC50⟩ := print_mid_of (P := Try.prog) (Value.int .u8) 0 23 5 .i64 .i64 Try.underlying23 hi050 hsz50 (some ad272) c0 l0 8 12 (by omega) (by first | omega | exact of_decide_eq_true (by first | (with_reducible assumption) | assumption)) (of_decide_eq_true (by first | (with_reducible assumption) | assumption)) HC0.out
                                                have HR289 := Aside0.mk (Kd.C_of_reads (h1 := fun _ => rfl) (hA50 _ (Kd.reads_of_C HR0.out)))
                                                have HC289 := Aside0.mk hC50
                                                clear hA50 hC50 hi050 hsz50
                                                have p291 : 0 ≤ (13 : Int) := (by omega)
                                                have q291 : 13 < (l0.length : Int) := of_decide_eq_true (by first | (with_reducible assumption) | assumption)
                                                obtain ⟨ad291, e291, hx291_0⟩ := Kd.at_int HR0.out 13 p291 q291
                                                have hw291_0 := hx291_0
                                                (try rw [show ((13 : Int)).toNat = 13 from rfl] at hw291_0)
                                                (try rw [show 13 * 1 = 13 from rfl] at hw291_0)
                                                (try simp only [Nat.reduceMul, Nat.reduceEqDiff, Go.Addr.add, ↓reduceIte] at hw291_0)
                                                obtain rfl : ad272 = ad291 := (by injection e291)
                                                (try simp only [show (13 : Int).toNat = 13 from rfl, Nat.reduceMul, Nat.reduceEqDiff, Go.Addr.add, ↓reduceIte] at hx291_0)
                                                have qi291 : (13 < l0.length) = True := eq_true (by omega)
                                                (try rw [show ((13 : Int)).toNat = 13 from rfl] at hx291_0)
                                                replace hx291_0 := (HB.out.cell (World.block_lt_of_cell? w _ hx291_0)).trans hx291_0
                                                replace p291 := eq_true p291
                                                replace q291 := eq_true q291
                                                obtain ⟨i051, hi051, _, hsz51, _⟩ := info_parts info5
                                                obtain ⟨A51, hcut51, hA51, hC51⟩ := print_mid_of (P := Try.prog) (Value.int .u8) 0 23 5 .i64 .i64 Try.underlying23 hi051 hsz51 (some ad272) c0 l0 14 16 (by omega) (by first | omega | exact of_decide_eq_true (by first | (with_reducible assumption) | assumption)) (of_decide_eq_true (by first | (with_reducible assumption) | assumption)) HC0.out
                                                have HR292 := Aside0.mk (Kd.C_of_reads (h1 := fun _ => rfl) (hA51 _ (Kd.reads_of_C HR0.out)))
                                                have HC292 := Aside0.mk hC51
                                                clear hA51 hC51 hi051 hsz51
                                                refine start_ (n := 29) (S := fun w' => w'.cell? ⟨ad272.block, ad272.off + 13, none⟩ = some (.int .u8 (rd l0 13))) (ds := []) #[false, false, false, false, false, false, false, false, false, false, false, false, false, false, false, false, false, false, false, false, false, false, false, false, false, false, false, false, false] (by kernel_rfl) rfl rfl (((HB.out.cell (World.block_lt_of_cell? w _ hw291_0)).trans hw291_0)) (fun hHeld => ?_); refine with_tabW drawbridgeref19_Get.tab13 drawbridgeref19_Get.bits13 (fun HT_ HW_ => ?_)
                                                generalize w43.drew = w46 at HO278 BK271 HB HR283 HR285 HR287 HR289 HR292 hx291_0 hHeld ⊢
                                                refine pure_ (i := 0) (N := some 55) (v := ?_) (a' := ?_) #[true, false, false, false, false, false, false, false, false, false, false, false, false, false, false, false, false, false, false, false, false, false, false, false, false, false, false, false, false] rfl rfl (any_of HT_.out (by kernel_rfl)) (fun _ _ _ h => h) (Or.inl ⟨by rfl, ?_⟩) ?_ ?_
                                                rotate_left
                                                · intro w'
                                                  go_simp
                                                  with_reducible rfl
                                                rotate_left
                                                · simp only [Act.put, List.setIfInBounds_toArray, List.set_cons_zero, List.set_cons_succ, i64_w, i32_w]
                                                  rfl
                                                refine pure_ (i := 1) (N := some 56) (v := ?_) (a' := ?_) #[true, true, false, false, false, false, false, false, false, false, false, false, false, false, false, false, false, false, false, false, false, false, false, false, false, false, false, false, false] rfl rfl (any_of HT_.out (by kernel_rfl)) (fun _ _ _ h => h) (Or.inl ⟨by rfl, ?_⟩) ?_ ?_
                                                rotate_left
                                                · intro w'
                                                  go_simp
                                                  with_reducible rfl
                                                rotate_left
                                                · simp only [Act.put, List.setIfInBounds_toArray, List.set_cons_zero, List.set_cons_succ, i64_w, i32_w]
                                                  rfl
                                                refine pure_ (i := 4) (N := some 59) (v := ?_) (a' := ?_) #[true, true, false, false, true, false, false, false, false, false, false, false, false, false, false, false, false, false, false, false, false, false, false, false, false, false, false, false, false] rfl rfl (any_of HT_.out (by kernel_rfl)) (fun _ _ _ h => h) (Or.inl ⟨by rfl, ?_⟩) ?_ ?_
                                                rotate_left
                                                · intro w'
                                                  go_simp
                                                  with_reducible rfl
                                                rotate_left
                                                · simp only [Act.put, List.setIfInBounds_toArray, List.set_cons_zero, List.set_cons_succ, i64_w, i32_w]
                                                  rfl
                                                refine pure_ (i := 5) (N := some 60) (v := ?_) (a' := ?_) #[true, true, false, false, true, true, false, false, false, false, false, false, false, false, false, false, false, false, false, false, false, false, false, false, false, false, false, false, false] rfl rfl (any_of HT_.out (by kernel_rfl)) (fun _ _ _ h => h) (Or.inl ⟨by rfl, ?_⟩) ?_ ?_
                                                rotate_left
                                                · intro w'
                                                  go_simp
                                                  with_reducible rfl
                                                rotate_left
                                                · simp only [Act.put, List.setIfInBounds_toArray, List.set_cons_zero, List.set_cons_succ, i64_w, i32_w]
                                                  rfl
                                                refine pure_ (i := 8) (N := some 63) (v := ?_) (a' := ?_) #[true, true, false, false, true, true, false, false, true, false, false, false, false, false, false, false, false, false, false, false, false, false, false, false, false, false, false, false, false] rfl rfl (any_of HT_.out (by kernel_rfl)) (fun _ _ _ h => h) (Or.inl ⟨by rfl, ?_⟩) ?_ ?_
                                                rotate_left
                                                · intro w'
                                                  go_simp
                                                  with_reducible rfl
                                                rotate_left
                                                · simp only [Act.put, List.setIfInBounds_toArray, List.set_cons_zero, List.set_cons_succ, i64_w, i32_w]
                                                  rfl
                                                refine pure_ (i := 9) (N := some 64) (v := ?_) (a' := ?_) #[true, true, false, false, true, true, false, false, true, true, false, false, false, false, false, false, false, false, false, false, false, false, false, false, false, false, false, false, false] rfl rfl (any_of HT_.out (by kernel_rfl)) (fun _ _ _ h => h) (Or.inl ⟨by rfl, ?_⟩) ?_ ?_
                                                rotate_left
                                                · intro w'
                                                  go_simp
                                                  with_reducible rfl
                                                rotate_left
                                                · simp only [Act.put, List.setIfInBounds_toArray, List.set_cons_zero, List.set_cons_succ, i64_w, i32_w]
                                                  rfl
                                                refine pure_ (i := 12) (N := some 67) (v := ?_) (a' := ?_) #[true, true, false, false, true, true, false, false, true, true, false, false, true, false, false, false, false, false, false, false, false, false, false, false, false, false, false, false, false] rfl rfl (any_of HT_.out (by kernel_rfl)) (fun _ _ _ h => h) (Or.inl ⟨by rfl, ?_⟩) ?_ ?_
                                                rotate_left
                                                · intro w'
                                                  go_simp
                                                  with_reducible rfl
                                                rotate_left
                                                · simp only [Act.put, List.setIfInBounds_toArray, List.set_cons_zero, List.set_cons_succ, i64_w, i32_w]
                                                  rfl
                                                refine pure_ (i := 13) (N := some 68) (v := ?_) (a' := ?_) #[true, true, false, false, true, true, false, false, true, true, false, false, true, true, false, false, false, false, false, false, false, false, false, false, false, false, false, false, false] rfl rfl (any_of HT_.out (by kernel_rfl)) (fun _ _ _ h => h) (Or.inl ⟨by rfl, ?_⟩) ?_ ?_
                                                rotate_left
                                                · intro w'
                                                  go_simp
                                                  with_reducible rfl
                                                rotate_left
                                                · simp only [Act.put, List.setIfInBounds_toArray, List.set_cons_zero, List.set_cons_succ, i64_w, i32_w]
                                                  rfl
                                                refine pure_ (i := 16) (N := some 71) (v := ?_) (a' := ?_) #[true, true, false, false, true, true, false, false, true, true, false, false, true, true, false, false, true, false, false, false, false, false, false, false, false, false, false, false, false] rfl rfl (any_of HT_.out (by kernel_rfl)) (fun _ _ _ h => h) (Or.inl ⟨by rfl, ?_⟩) ?_ ?_
                                                rotate_left
                                                · intro w'
                                                  go_simp
                                                  with_reducible rfl
                                                rotate_left
                                                · simp only [Act.put, List.setIfInBounds_toArray, List.set_cons_zero, List.set_cons_succ, i64_w, i32_w]
                                                  rfl
                                                refine pure_ (i := 17) (N := some 72) (v := ?_) (a' := ?_) #[true, true, false, false, true, true, false, false, true, true, false, false, true, true, false, false, true, true, false, false, false, false, false, false, false, false, false, false, false] rfl rfl (any_of HT_.out (by kernel_rfl)) (fun _ _ _ h => h) (Or.inl ⟨by rfl, ?_⟩) ?_ ?_
                                                rotate_left
                                                · intro w'
                                                  go_simp
                                                  with_reducible rfl
                                                rotate_left
                                                · simp only [Act.put, List.setIfInBounds_toArray, List.set_cons_zero, List.set_cons_succ, i64_w, i32_w]
                                                  rfl
                                                refine pure_ (i := 21) (N := some 76) (v := ?_) (a' := ?_) #[true, true, false, false, true, true, false, false, true, true, false, false, true, true, false, false, true, true, false, false, false, true, false, false, false, false, false, false, false] rfl rfl (any_of HT_.out (by kernel_rfl)) (fun _ _ _ h => h) (Or.inl ⟨by rfl, ?_⟩) ?_ ?_
                                                rotate_left
                                                · intro w'
                                                  go_simp
                                                  with_reducible rfl
                                                rotate_left
                                                · simp only [Act.put, List.setIfInBounds_toArray, List.set_cons_zero, List.set_cons_succ, i64_w, i32_w]
                                                  rfl
                                                refine pure_ (i := 22) (N := some 77) (v := ?_) (a' := ?_) #[true, true, false, false, true, true, false, false, true, true, false, false, true, true, false, false, true, true, false, false, false, true, true, false, false, false, false, false, false] rfl rfl (any_of HT_.out (by kernel_rfl)) (fun _ _ _ h => h) (Or.inl ⟨by rfl, ?_⟩) ?_ ?_
                                                rotate_left
                                                · intro w'
                                                  go_simp
                                                  with_reducible rfl
                                                rotate_left
                                                · simp only [Act.put, List.setIfInBounds_toArray, List.set_cons_zero, List.set_cons_succ, i64_w, i32_w]
                                                  rfl
                                                refine pure_ (i := 25) (N := some 80) (v := ?_) (a' := ?_) #[true, true, false, false, true, true, false, false, true, true, false, false, true, true, false, false, true, true, false, false, false, true, true, false, false, true, false, false, false] rfl rfl (any_of HT_.out (by kernel_rfl)) (fun _ _ _ h => h) (Or.inl ⟨by rfl, ?_⟩) ?_ ?_
                                                rotate_left
                                                · intro w'
                                                  go_simp
                                                  with_reducible rfl
                                                rotate_left
                                                · simp only [Act.put, List.setIfInBounds_toArray, List.set_cons_zero, List.set_cons_succ, i64_w, i32_w]
                                                  rfl
                                                refine take_ (i := 18) (N := some 73) (v := ?_) (a' := ?_) #[true, true, false, false, true, true, false, false, true, true, false, false, true, true, false, false, true, true, true, false, false, true, true, false, false, true, false, false, false] rfl rfl (take_ofW HT_.out HW_.out (by kernel_rfl)) (fun _ _ _ h => h) (Or.inl ⟨by rfl, ?_⟩) hHeld ?_ ?_
                                                rotate_left
                                                · intro w' s0
                                                  go_simp
                                                  with_reducible rfl
                                                rotate_left
                                                · simp only [Act.put, List.setIfInBounds_toArray, List.set_cons_zero, List.set_cons_succ, i64_w, i32_w]
                                                  rfl
                                                refine pure_ (i := 19) (N := some 74) (v := ?_) (a' := ?_) #[true, true, false, false, true, true, false, false, true, true, false, false, true, true, false, false, true, true, true, true, false, true, true, false, false, true, false, false, false] rfl rfl (any_of HT_.out (by kernel_rfl)) (fun _ _ _ h => h) (Or.inl ⟨by rfl, ?_⟩) ?_ ?_
                                                rotate_left
                                                · intro w'
                                                  go_simp
                                                  with_reducible rfl
                                                rotate_left
                                                · simp only [Act.put, List.setIfInBounds_toArray, List.set_cons_zero, List.set_cons_succ, i64_w, i32_w]
                                                  rfl
                                                refine pure_ (i := 20) (N := some 75) (v := ?_) (a' := ?_) #[true, true, false, false, true, true, false, false, true, true, false, false, true, true, false, false, true, true, true, true, true, true, true, false, false, true, false, false, false] rfl rfl (any_of HT_.out (by kernel_rfl)) (fun _ _ _ h => h) (Or.inl ⟨by rfl, ?_⟩) ?_ ?_
                                                rotate_left
                                                · intro w'
                                                  go_simp
                                                  with_reducible rfl
                                                rotate_left
                                                · simp only [Act.put, List.setIfInBounds_toArray, List.set_cons_zero, List.set_cons_succ, i64_w, i32_w]
                                                  rfl
                                                refine join_ (σ := Nat) 1 #[true, true, true, true, true, true, true, true, true, true, true, true, true, true, true, true, true, true, true, true, true, true, true, true, true, true, true, true, false] (fun s_ => [(57, .int .u64 t284), (61, .int .u64 t286), (65, .int .u64 t288), (69, .int .u64 t290), (78, .int .u64 t293), (11, .pointer (some ⟨s_, 0, none⟩)), (58, .int .i64 (wrap64 (t284))), (62, .int .i64 (wrap64 (t286))), (66, .int .u32 ((t288) % 4294967296)), (70, .int .u32 ((t290) % 4294967296)), (79, .int .i64 (wrap64 (t293))), (81, .agg #[.int .i64 (wrap64 (t284)), .int .i64 (wrap64 (t286)), .int .u32 ((t288) % 4294967296), .int .u32 ((t290) % 4294967296), .int .i64 (wrap64 (Int.tmod (rd l0 13) 64)), .int .i64 (wrap64 (t293)), .int .i64 t281, .slice none 0 0])]) (fun s_ w' => (w'.cell? ⟨ad272.block, ad272.off + 13, none⟩ = some (.int .u8 (rd l0 13))) ∧ (Kd.R (Kd.int .u8) 5 w' w.heap.size (fun _ => True) (.slice Ao44 y276.length co44) y276) ∧ (w'.heap[gb271]? = some (.cells #[.int .i64 0, .int .i64 0, .int .u32 0, .int .u32 0, .int .i64 0, .int .i64 0, .int .i64 0, .slice none 0 0] 25 (0, 0))) ∧ (w'.heap[s_]? = some (.cells #[.int .i64 0, .int .i64 0, .int .u32 0, .int .u32 0, .int .i64 0, .int .i64 0, .int .i64 0, .slice none 0 0] 25 (0, 0))) ∧ (w.heap.size ≤ s_) ∧ (w.heap.size ≤ s_) ∧ (gb271 ≠ s_) ∧ (s_ ≠ gb271) ∧ (Below w.heap.size w w')) ?_ ?_
                                                rotate_left
                                                · intro hJ2_6_10_14_23_27
                                                  refine join_ (σ := Unit) 2 #[true, true, true, true, true, true, true, true, true, true, true, true, true, true, true, true, true, true, true, true, true, true, true, true, true, true, true, false, false] (fun s_ => [(57, .int .u64 t284), (61, .int .u64 t286), (65, .int .u64 t288), (69, .int .u64 t290), (78, .int .u64 t293), (58, .int .i64 (wrap64 (t284))), (62, .int .i64 (wrap64 (t286))), (66, .int .u32 ((t288) % 4294967296)), (70, .int .u32 ((t290) % 4294967296)), (79, .int .i64 (wrap64 (t293))), (81, .agg #[.int .i64 (wrap64 (t284)), .int .i64 (wrap64 (t286)), .int .u32 ((t288) % 4294967296), .int .u32 ((t290) % 4294967296), .int .i64 (wrap64 (Int.tmod (rd l0 13) 64)), .int .i64 (wrap64 (t293)), .int .i64 t281, .slice none 0 0])]) (fun s_ w' => (w'.cell? ⟨ad272.block, ad272.off + 13, none⟩ = some (.int .u8 (rd l0 13))) ∧ (Kd.R (Kd.int .u8) 5 w' w.heap.size (fun _ => True) (.slice Ao44 y276.length co44) y276) ∧ (w'.heap[gb271]? = some (.cells #[.int .i64 0, .int .i64 0, .int .u32 0, .int .u32 0, .int .i64 0, .int .i64 0, .int .i64 0, .slice none 0 0] 25 (0, 0))) ∧ (Below w.heap.size w w')) ?_ ?_
                                                  rotate_left
                                                  · intro hJ2_6_10_14_23
                                                    refine join_ (σ := Nat) 4 #[true, true, true, true, true, true, true, true, true, true, true, true, true, true, true, true, true, true, true, true, true, true, true, false, false, true, false, true, false] (fun s_ => [(57, .int .u64 t284), (61, .int .u64 t286), (65, .int .u64 t288), (69, .int .u64 t290), (11, .pointer (some ⟨s_, 0, none⟩)), (58, .int .i64 (wrap64 (t284))), (62, .int .i64 (wrap64 (t286))), (66, .int .u32 ((t288) % 4294967296)), (70, .int .u32 ((t290) % 4294967296))]) (fun s_ w' => (w'.cell? ⟨ad272.block, ad272.off + 13, none⟩ = some (.int .u8 (rd l0 13))) ∧ (Kd.R (Kd.int .u8) 5 w' w.heap.size (fun _ => True) (.slice Ao44 y276.length co44) y276) ∧ (w'.heap[gb271]? = some (.cells #[.int .i64 0, .int .i64 0, .int .u32 0, .int .u32 0, .int .i64 0, .int .i64 0, .int .i64 0, .slice none 0 0] 25 (0, 0))) ∧ (w'.heap[s_]? = some (.cells #[.int .i64 0, .int .i64 0, .int .u32 0, .int .u32 0, .int .i64 0, .int .i64 0, .int .i64 0, .slice none 0 0] 25 (0, 0))) ∧ (w.heap.size ≤ s_) ∧ (w.heap.size ≤ s_) ∧ (gb271 ≠ s_) ∧ (s_ ≠ gb271) ∧ (Below w.heap.size w w')) ?_ ?_
                                                    rotate_left
                                                    · intro hJ2_6_10_14_27
                                                      refine join_ (σ := Unit) 5 #[true, true, true, true, true, true, true, true, true, true, true, true, true, true, true, true, true, true, true, true, true, true, true, false, false, true, false, false, false] (fun s_ => [(57, .int .u64 t284), (61, .int .u64 t286), (65, .int .u64 t288), (69, .int .u64 t290), (58, .int .i64 (wrap64 (t284))), (62, .int .i64 (wrap64 (t286))), (66, .int .u32 ((t288) % 4294967296)), (70, .int .u32 ((t290) % 4294967296))]) (fun s_ w' => (w'.cell? ⟨ad272.block, ad272.off + 13, none⟩ = some (.int .u8 (rd l0 13))) ∧ (Kd.R (Kd.int .u8) 5 w' w.heap.size (fun _ => True) (.slice Ao44 y276.length co44) y276) ∧ (w'.heap[gb271]? = some (.cells #[.int .i64 0, .int .i64 0, .int .u32 0, .int .u32 0, .int .i64 0, .int .i64 0, .int .i64 0, .slice none 0 0] 25 (0, 0))) ∧ (Below w.heap.size w w')) ?_ ?_
                                                      rotate_left
                                                      · intro hJ2_6_10_14
                                                        refine join_ (σ := Nat) 6 #[true, true, true, true, true, true, true, true, true, true, true, true, true, true, false, false, true, true, true, true, true, true, true, false, false, true, false, true, false] (fun s_ => [(57, .int .u64 t284), (61, .int .u64 t286), (65, .int .u64 t288), (11, .pointer (some ⟨s_, 0, none⟩)), (58, .int .i64 (wrap64 (t284))), (62, .int .i64 (wrap64 (t286))), (66, .int .u32 ((t288) % 4294967296))]) (fun s_ w' => (w'.cell? ⟨ad272.block, ad272.off + 13, none⟩ = some (.int .u8 (rd l0 13))) ∧ (Kd.R (Kd.int .u8) 5 w' w.heap.size (fun _ => True) (.slice Ao44 y276.length co44) y276) ∧ (w'.heap[gb271]? = some (.cells #[.int .i64 0, .int .i64 0, .int .u32 0, .int .u32 0, .int .i64 0, .int .i64 0, .int .i64 0, .slice none 0 0] 25 (0, 0))) ∧ (w'.heap[s_]? = some (.cells #[.int .i64 0, .int .i64 0, .int .u32 0, .int .u32 0, .int .i64 0, .int .i64 0, .int .i64 0, .slice none 0 0] 25 (0, 0))) ∧ (w.heap.size ≤ s_) ∧ (w.heap.size ≤ s_) ∧ (gb271 ≠ s_) ∧ (s_ ≠ gb271) ∧ (Below w.heap.size w w')) ?_ ?_
                                                        rotate_left
                                                        · intro hJ2_6_10_27
                                                          refine join_ (σ := Unit) 7 #[true, true, true, true, true, true, true, true, true, true, true, true, true, true, false, false, true, true, true, true, true, true, true, false, false, true, false, false, false] (fun s_ => [(57, .int .u64 t284), (61, .int .u64 t286), (65, .int .u64 t288), (58, .int .i64 (wrap64 (t284))), (62, .int .i64 (wrap64 (t286))), (66, .int .u32 ((t288) % 4294967296))]) (fun s_ w' => (w'.cell? ⟨ad272.block, ad272.off + 13, none⟩ = some (.int .u8 (rd l0 13))) ∧ (Kd.R (Kd.int .u8) 5 w' w.heap.size (fun _ => True) (.slice Ao44 y276.length co44) y276) ∧ (w'.heap[gb271]? = some (.cells #[.int .i64 0, .int .i64 0, .int .u32 0, .int .u32 0, .int .i64 0, .int .i64 0, .int .i64 0, .slice none 0 0] 25 (0, 0))) ∧ (Below w.heap.size w w')) ?_ ?_
                                                          rotate_left
                                                          · intro hJ2_6_10
                                                            refine join_ (σ := Nat) 8 #[true, true, true, true, true, true, true, true, true, true, false, false, true, true, false, false, true, true, true, true, true, true, true, false, false, true, false, true, false] (fun s_ => [(57, .int .u64 t284), (61, .int .u64 t286), (11, .pointer (some ⟨s_, 0, none⟩)), (58, .int .i64 (wrap64 (t284))), (62, .int .i64 (wrap64 (t286)))]) (fun s_ w' => (w'.cell? ⟨ad272.block, ad272.off + 13, none⟩ = some (.int .u8 (rd l0 13))) ∧ (Kd.R (Kd.int .u8) 5 w' w.heap.size (fun _ => True) (.slice Ao44 y276.length co44) y276) ∧ (w'.heap[gb271]? = some (.cells #[.int .i64 0, .int .i64 0, .int .u32 0, .int .u32 0, .int .i64 0, .int .i64 0, .int .i64 0, .slice none 0 0] 25 (0, 0))) ∧ (w'.heap[s_]? = some (.cells #[.int .i64 0, .int .i64 0, .int .u32 0, .int .u32 0, .int .i64 0, .int .i64 0, .int .i64 0, .slice none 0 0] 25 (0, 0))) ∧ (w.heap.size ≤ s_) ∧ (w.heap.size ≤ s_) ∧ (gb271 ≠ s_) ∧ (s_ ≠ gb271) ∧ (Below w.heap.size w w')) ?_ ?_
                                                            rotate_left
                                                            · intro hJ2_6_27
                                                              refine join_ (σ := Unit) 9 #[true, true, true, true, true, true, true, true, true, true, false, false, true, true, false, false, true, true, true, true, true, true, true, false, false, true, false, false, false] (fun s_ => [(57, .int .u64 t284), (61, .int .u64 t286), (58, .int .i64 (wrap64 (t284))), (62, .int .i64 (wrap64 (t286)))]) (fun s_ w' => (w'.cell? ⟨ad272.block, ad272.off + 13, none⟩ = some (.int .u8 (rd l0 13))) ∧ (Kd.R (Kd.int .u8) 5 w' w.heap.size (fun _ => True) (.slice Ao44 y276.length co44) y276) ∧ (w'.heap[gb271]? = some (.cells #[.int .i64 0, .int .i64 0, .int .u32 0, .int .u32 0, .int .i64 0, .int .i64 0, .int .i64 0, .slice none 0 0] 25 (0, 0))) ∧ (Below w.heap.size w w')) ?_ ?_
                                                              rotate_left
                                                              · intro hJ2_6
                                                                refine join_ (σ := Nat) 10 #[true, true, true, true, true, true, false, false, true, true, false, false, true, true, false, false, true, true, true, true, true, true, true, false, false, true, false, true, false] (fun s_ => [(57, .int .u64 t284), (11, .pointer (some ⟨s_, 0, none⟩)), (58, .int .i64 (wrap64 (t284)))]) (fun s_ w' => (w'.cell? ⟨ad272.block, ad272.off + 13, none⟩ = some (.int .u8 (rd l0 13))) ∧ (Kd.R (Kd.int .u8) 5 w' w.heap.size (fun _ => True) (.slice Ao44 y276.length co44) y276) ∧ (w'.heap[gb271]? = some (.cells #[.int .i64 0, .int .i64 0, .int .u32 0, .int .u32 0, .int .i64 0, .int .i64 0, .int .i64 0, .slice none 0 0] 25 (0, 0))) ∧ (w'.heap[s_]? = some (.cells #[.int .i64 0, .int .i64 0, .int .u32 0, .int .u32 0, .int .i64 0, .int .i64 0, .int .i64 0, .slice none 0 0] 25 (0, 0))) ∧ (w.heap.size ≤ s_) ∧ (w.heap.size ≤ s_) ∧ (gb271 ≠ s_) ∧ (s_ ≠ gb271) ∧ (Below w.heap.size w w')) ?_ ?_
                                                                rotate_left
                                                                · intro hJ2_27
                                                                  refine join_ (σ := Unit) 11 #[true, true, true, true, true, true, false, false, true, true, false, false, true, true, false, false, true, true, true, true, true, true, true, false, false, true, false, false, false] (fun s_ => [(57, .int .u64 t284), (58, .int .i64 (wrap64 (t284)))]) (fun s_ w' => (w'.cell? ⟨ad272.block, ad272.off + 13, none⟩ = some (.int .u8 (rd l0 13))) ∧ (Kd.R (Kd.int .u8) 5 w' w.heap.size (fun _ => True) (.slice Ao44 y276.length co44) y276) ∧ (w'.heap[gb271]? = some (.cells #[.int .i64 0, .int .i64 0, .int .u32 0, .int .u32 0, .int .i64 0, .int .i64 0, .int .i64 0, .slice none 0 0] 25 (0, 0))) ∧ (Below w.heap.size w w')) ?_ ?_
                                                                  rotate_left
                                                                  · intro hJ2
                                                                    refine join_ (σ := Nat) 12 #[true, true, false, false, true, true, false, false, true, true, false, false, true, true, false, false, true, true, true, true, true, true, true, false, false, true, false, true, false] (fun s_ => [(11, .pointer (some ⟨s_, 0, none⟩))]) (fun s_ w' => (w'.cell? ⟨ad272.block, ad272.off + 13, none⟩ = some (.int .u8 (rd l0 13))) ∧ (Kd.R (Kd.int .u8) 5 w' w.heap.size (fun _ => True) (.slice Ao44 y276.length co44) y276) ∧ (w'.heap[gb271]? = some (.cells #[.int .i64 0, .int .i64 0, .int .u32 0, .int .u32 0, .int .i64 0, .int .i64 0, .int .i64 0, .slice none 0 0] 25 (0, 0))) ∧ (w'.heap[s_]? = some (.cells #[.int .i64 0, .int .i64 0, .int .u32 0, .int .u32 0, .int .i64 0, .int .i64 0, .int .i64 0, .slice none 0 0] 25 (0, 0))) ∧ (w.heap.size ≤ s_) ∧ (w.heap.size ≤ s_) ∧ (gb271 ≠ s_) ∧ (s_ ≠ gb271) ∧ (Below w.heap.size w w')) ?_ ?_
                                                                    rotate_left
                                                                    · intro hJ27
                                                                      refine two_ (i := 2) (j := 27) (Ni := some 57) (Nj := some 11) #[true, true, true, false, true, true, false, false, true, true, false, false, true, true, false, false, true, true, true, true, true, true, true, false, false, true, false, false, false] #[true, true, false, false, true, true, false, false, true, true, false, false, true, true, false, false, true, true, true, true, true, true, true, false, false, true, false, true, false] rfl rfl rfl rfl (two_of HT_.out (by kernel_rfl)) (by decide) (by decide) (fun K hK => ?_) (fun K hK => ?_)
                                                                      · skip
                                                                        refine goes_ Try.func37 (by kernel_rfl) rfl #[.slice (some ad272) (l0.take 2).length c0] (by rfl) rfl rfl (by (try simp only [List.map_toArray, List.map_cons, List.map_nil]); first | done | (rw [show (l0.take 2).length = 2 from (by rw [List.length_take]; have h_ : (2 : Int) ≤ (l0.length : Int) := of_decide_eq_true (by first | (with_reducible assumption) | assumption); omega)] <;> rfl) | rfl | (simp only [List.length_drop, List.length_take]; rfl)) ?_
                                                                        with_reducible refine (drawbridgeref19_get.calls _ _ (l0.take 2) t284 _ ?side1 ?side2 A24.out).mono ?_
                                                                        (case side1 => repeat (first | exact (Kd.C_below HR283.out HB.out) | (with_reducible refine Kd.C_alloc ?_ _) | (with_reducible refine Kd.C_drewN ?_ _) | (with_reducible refine Kd.C_drew ?_)))
                                                                        (case side2 => exact HC283.out)
                                                                        rintro e w' ⟨rfl, ⟨nd, rfl⟩⟩
                                                                        refine ⟨_, rfl, ?_⟩
                                                                        refine hK.out _ _ (((HB.out.cell (World.block_lt_of_cell? w _ hw291_0)).trans hw291_0)) (fun hHeld => ?_)
                                                                        clear hK K
                                                                        refine norm_ (a' := ?_) ?_ ?_
                                                                        rotate_left
                                                                        · show Act.put _ (some 57) _ = _
                                                                          simp only [Act.put, List.setIfInBounds_toArray, List.set_cons_zero, List.set_cons_succ, i64_w, i32_w]
                                                                          rfl
                                                                        refine pure_ (i := 3) (N := some 58) (v := ?_) (a' := ?_) #[true, true, true, true, true, true, false, false, true, true, false, false, true, true, false, false, true, true, true, true, true, true, true, false, false, true, false, false, false] rfl rfl (any_of HT_.out (by kernel_rfl)) (fun _ _ _ h => h) (Or.inl ⟨by rfl, ?_⟩) ?_ ?_
                                                                        rotate_left
                                                                        · intro w'
                                                                          go_simp
                                                                          with_reducible rfl
                                                                        rotate_left
                                                                        · simp only [Act.put, List.setIfInBounds_toArray, List.set_cons_zero, List.set_cons_succ, i64_w, i32_w]
                                                                          rfl
                                                                        exact norm_ (by first | (simp only [putAll, Act.put, List.setIfInBounds_toArray, List.set_cons_zero, List.set_cons_succ]; done) | (simp only [putAll, Act.put, List.setIfInBounds_toArray, List.set_cons_zero, List.set_cons_succ]; rfl)) (hJ2 () _ ⟨hHeld, (by (with_reducible repeat (first | apply Kd.R_alloc | apply Kd.R_drewN | apply Kd.R_drew)); exact HO278.out), (by (with_reducible repeat (first | refine blk_drewN ?_ _ | refine blk_drew ?_ | refine blk_alloc ?_ _)); exact BK271.out), (by repeat (first | (with_reducible first | exact HB.out | apply below_alloc | apply pw_below_drewN | apply below_drew1 | refine below_set ?_ GE271.out) | exact HB.out))⟩)
                                                                      · skip
                                                                        refine box_step ?hg (N := 11) ?hd (cs := #[.int .i64 0, .int .i64 0, .int .u32 0, .int .u32 0, .int .i64 0, .int .i64 0, .int .i64 0, .slice none 0 0]) (t := 25) ?hr ?_; (case hd => rfl); (case hg => rfl); (case hr => first | (go_simp; done) | (go_simp; rfl))
                                                                        intro gb294 hg w52 hbox hb
                                                                        have n0_ := Aside0.mk (Kd.R_below (by (with_reducible repeat (first | apply Kd.R_alloc | apply Kd.R_drewN | apply Kd.R_drew)); exact HO278.out) hb)
                                                                        have n1_ := Aside0.mk (blk_below (g := gb271) (o := .cells #[.int .i64 0, .int .i64 0, .int .u32 0, .int .u32 0, .int .i64 0, .int .i64 0, .int .i64 0, .slice none 0 0] 25 (0, 0)) (by (with_reducible repeat (first | refine blk_drewN ?_ _ | refine blk_drew ?_ | refine blk_alloc ?_ _)); exact BK271.out) hb)
                                                                        have n2_ := Aside0.mk (below_step (by repeat (first | (with_reducible first | exact HB.out | apply below_alloc | apply pw_below_drewN | apply below_drew1 | refine below_set ?_ GE271.out) | exact HB.out)) hb)
                                                                        have n3_ := Aside0.mk (hbox)
                                                                        have n4_ := Aside0.mk ((by rw [hg]; exact (below_size (by repeat (first | (with_reducible first | exact HB.out | apply below_alloc | apply pw_below_drewN | apply below_drew1 | refine below_set ?_ GE271.out) | exact HB.out))) : w.heap.size ≤ gb294))
                                                                        have n5_ := Aside0.mk ((by rw [hg]; exact (below_size (by repeat (first | (with_reducible first | exact HB.out | apply below_alloc | apply pw_below_drewN | apply below_drew1 | refine below_set ?_ GE271.out) | exact HB.out))) : w.heap.size ≤ gb294))
                                                                        have n6_ := Aside0.mk ((by rw [hg]; exact Nat.ne_of_lt (blk_lt (g := gb271) (o := .cells #[.int .i64 0, .int .i64 0, .int .u32 0, .int .u32 0, .int .i64 0, .int .i64 0, .int .i64 0, .slice none 0 0] 25 (0, 0)) (by (with_reducible repeat (first | refine blk_drewN ?_ _ | refine blk_drew ?_ | refine blk_alloc ?_ _)); exact BK271.out)) : gb271 ≠ gb294))
                                                                        have n7_ := Aside0.mk ((by rw [hg]; exact Nat.ne_of_gt (blk_lt (g := gb271) (o := .cells #[.int .i64 0, .int .i64 0, .int .u32 0, .int .u32 0, .int .i64 0, .int .i64 0, .int .i64 0, .slice none 0 0] 25 (0, 0)) (by (with_reducible repeat (first | refine blk_drewN ?_ _ | refine blk_drew ?_ | refine blk_alloc ?_ _)); exact BK271.out)) : gb294 ≠ gb271))
                                                                        clear HO278
                                                                        clear BK271
                                                                        clear HB
                                                                        have HO278 := n0_
                                                                        have BK271 := n1_
                                                                        have HB := n2_
                                                                        have BK294 := n3_
                                                                        have GW294 := n4_
                                                                        have GE294 := n5_
                                                                        have NB271_294 := n6_
                                                                        have NB294_271 := n7_
                                                                        clear n0_ n1_ n2_ n3_ n4_ n5_ n6_ n7_
                                                                        clear hb hbox hg
                                                                        refine hK.out _ _ (((HB.out.cell (World.block_lt_of_cell? w _ hw291_0)).trans hw291_0)) (fun hHeld => ?_)
                                                                        clear hK K
                                                                        refine norm_ (a' := ?_) ?_ ?_
                                                                        rotate_left
                                                                        · show Act.put _ (some 11) _ = _
                                                                          simp only [Act.put, List.setIfInBounds_toArray, List.set_cons_zero, List.set_cons_succ, i64_w, i32_w]
                                                                          rfl
                                                                        exact norm_ (by first | (simp only [putAll, Act.put, List.setIfInBounds_toArray, List.set_cons_zero, List.set_cons_succ]; done) | (simp only [putAll, Act.put, List.setIfInBounds_toArray, List.set_cons_zero, List.set_cons_succ]; rfl)) (hJ27 (gb294) _ ⟨hHeld, (by (with_reducible repeat (first | apply Kd.R_alloc | apply Kd.R_drewN | apply Kd.R_drew)); exact HO278.out), (by (with_reducible repeat (first | refine blk_drewN ?_ _ | refine blk_drew ?_ | refine blk_alloc ?_ _)); exact BK271.out), (by (with_reducible repeat (first | refine blk_drewN ?_ _ | refine blk_drew ?_ | refine blk_alloc ?_ _)); exact BK294.out), GW294.out, GE294.out, NB271_294.out, NB294_271.out, (by repeat (first | (with_reducible first | exact HB.out | apply below_alloc | apply pw_below_drewN | apply below_drew1 | refine below_set ?_ GE271.out | refine below_set ?_ GE294.out) | exact HB.out))⟩)
                                                                    · skip
                                                                      rintro gb294 w53 ⟨hS_, h0_, h1_, h2_, h3_, h4_, h5_, h6_, h7_⟩
                                                                      have n0_ : Aside0 (Kd.R (Kd.int .u8) 5 w53 w.heap.size (fun _ => True) (.slice Ao44 y276.length co44) y276) := ⟨h0_⟩
                                                                      have n1_ : Aside0 (w53.heap[gb271]? = some (.cells #[.int .i64 0, .int .i64 0, .int .u32 0, .int .u32 0, .int .i64 0, .int .i64 0, .int .i64 0, .slice none 0 0] 25 (0, 0))) := ⟨h1_⟩
                                                                      have n2_ : Aside0 (w53.heap[gb294]? = some (.cells #[.int .i64 0, .int .i64 0, .int .u32 0, .int .u32 0, .int .i64 0, .int .i64 0, .int .i64 0, .slice none 0 0] 25 (0, 0))) := ⟨h2_⟩
                                                                      have n3_ : Aside0 (w.heap.size ≤ gb294) := ⟨h3_⟩
                                                                      have n4_ : Aside0 (w.heap.size ≤ gb294) := ⟨h4_⟩
                                                                      have n5_ : Aside0 (gb271 ≠ gb294) := ⟨h5_⟩
                                                                      have n6_ : Aside0 (gb294 ≠ gb271) := ⟨h6_⟩
                                                                      have n7_ : Aside0 (Below w.heap.size w w53) := ⟨h7_⟩
                                                                      clear HO278
                                                                      clear BK271
                                                                      clear HB
                                                                      clear h0_ h1_ h2_ h3_ h4_ h5_ h6_ h7_
                                                                      have HO278 := n0_
                                                                      have BK271 := n1_
                                                                      have BK294 := n2_
                                                                      have GW294 := n3_
                                                                      have GE294 := n4_
                                                                      have NB271_294 := n5_
                                                                      have NB294_271 := n6_
                                                                      have HB := n7_
                                                                      clear n0_ n1_ n2_ n3_ n4_ n5_ n6_ n7_
                                                                      have hHeld : w53.cell? ⟨ad272.block, ad272.off + 13, none⟩ = some (.int .u8 (rd l0 13)) := hS_
                                                                      refine norm_ (a' := ?_) ?_ ?_
                                                                      rotate_left
                                                                      · simp only [putAll, Act.put, List.setIfInBounds_toArray, List.set_cons_zero, List.set_cons_succ]
                                                                        rfl
                                                                      refine one_ (i := 2) (N := some 57) #[true, true, true, false, true, true, false, false, true, true, false, false, true, true, false, false, true, true, true, true, true, true, true, false, false, true, false, true, false] rfl rfl (one_of HT_.out (by kernel_rfl)) (by decide) (fun K hK => ?_)
                                                                      refine goes_ Try.func37 (by kernel_rfl) rfl #[.slice (some ad272) (l0.take 2).length c0] (by rfl) rfl rfl (by (try simp only [List.map_toArray, List.map_cons, List.map_nil]); first | done | (rw [show (l0.take 2).length = 2 from (by rw [List.length_take]; have h_ : (2 : Int) ≤ (l0.length : Int) := of_decide_eq_true (by first | (with_reducible assumption) | assumption); omega)] <;> rfl) | rfl | (simp only [List.length_drop, List.length_take]; rfl)) ?_
                                                                      with_reducible refine (drawbridgeref19_get.calls _ _ (l0.take 2) t284 _ ?side1 ?side2 A24.out).mono ?_
                                                                      (case side1 => repeat (first | exact (Kd.C_below HR283.out HB.out) | (with_reducible refine Kd.C_alloc ?_ _) | (with_reducible refine Kd.C_drewN ?_ _) | (with_reducible refine Kd.C_drew ?_)))
                                                                      (case side2 => exact HC283.out)
                                                                      rintro e w' ⟨rfl, ⟨nd, rfl⟩⟩
                                                                      refine ⟨_, rfl, ?_⟩
                                                                      refine hK.out _ _ (((HB.out.cell (World.block_lt_of_cell? w _ hw291_0)).trans hw291_0)) (fun hHeld => ?_)
                                                                      clear hK K
                                                                      refine norm_ (a' := ?_) ?_ ?_
                                                                      rotate_left
                                                                      · show Act.put _ (some 57) _ = _
                                                                        simp only [Act.put, List.setIfInBounds_toArray, List.set_cons_zero, List.set_cons_succ, i64_w, i32_w]
                                                                        rfl
                                                                      refine pure_ (i := 3) (N := some 58) (v := ?_) (a' := ?_) #[true, true, true, true, true, true, false, false, true, true, false, false, true, true, false, false, true, true, true, true, true, true, true, false, false, true, false, true, false] rfl rfl (any_of HT_.out (by kernel_rfl)) (fun _ _ _ h => h) (Or.inl ⟨by rfl, ?_⟩) ?_ ?_
                                                                      rotate_left
                                                                      · intro w'
                                                                        go_simp
                                                                        with_reducible rfl
                                                                      rotate_left
                                                                      · simp only [Act.put, List.setIfInBounds_toArray, List.set_cons_zero, List.set_cons_succ, i64_w, i32_w]
                                                                        rfl
                                                                      exact norm_ (by first | (simp only [putAll, Act.put, List.setIfInBounds_toArray, List.set_cons_zero, List.set_cons_succ]; done) | (simp only [putAll, Act.put, List.setIfInBounds_toArray, List.set_cons_zero, List.set_cons_succ]; rfl)) (hJ2_27 (gb294) _ ⟨hHeld, (by (with_reducible repeat (first | apply Kd.R_alloc | apply Kd.R_drewN | apply Kd.R_drew)); exact HO278.out), (by (with_reducible repeat (first | refine blk_drewN ?_ _ | refine blk_drew ?_ | refine blk_alloc ?_ _)); exact BK271.out), (by (with_reducible repeat (first | refine blk_drewN ?_ _ | refine blk_drew ?_ | refine blk_alloc ?_ _)); exact BK294.out), GW294.out, GE294.out, NB271_294.out, NB294_271.out, (by repeat (first | (with_reducible first | exact HB.out | apply below_alloc | apply pw_below_drewN | apply below_drew1 | refine below_set ?_ GE271.out | refine below_set ?_ GE294.out) | exact HB.out))⟩)
                                                                  · skip
                                                                    rintro _ w52 ⟨hS_, h0_, h1_, h2_⟩
                                                                    have n0_ : Aside0 (Kd.R (Kd.int .u8) 5 w52 w.heap.size (fun _ => True) (.slice Ao44 y276.length co44) y276) := ⟨h0_⟩
                                                                    have n1_ : Aside0 (w52.heap[gb271]? = some (.cells #[.int .i64 0, .int .i64 0, .int .u32 0, .int .u32 0, .int .i64 0, .int .i64 0, .int .i64 0, .slice none 0 0] 25 (0, 0))) := ⟨h1_⟩
                                                                    have n2_ : Aside0 (Below w.heap.size w w52) := ⟨h2_⟩
                                                                    clear HO278
                                                                    clear BK271
                                                                    clear HB
                                                                    clear h0_ h1_ h2_
                                                                    have HO278 := n0_
                                                                    have BK271 := n1_
                                                                    have HB := n2_
                                                                    clear n0_ n1_ n2_
                                                                    have hHeld : w52.cell? ⟨ad272.block, ad272.off + 13, none⟩ = some (.int .u8 (rd l0 13)) := hS_
                                                                    refine norm_ (a' := ?_) ?_ ?_
                                                                    rotate_left
                                                                    · simp only [putAll, Act.put, List.setIfInBounds_toArray, List.set_cons_zero, List.set_cons_succ]
                                                                      rfl
                                                                    refine two_ (i := 6) (j := 27) (Ni := some 61) (Nj := some 11) #[true, true, true, true, true, true, true, false, true, true, false, false, true, true, false, false, true, true, true, true, true, true, true, false, false, true, false, false, false] #[true, true, true, true, true, true, false, false, true, true, false, false, true, true, false, false, true, true, true, true, true, true, true, false, false, true, false, true, false] rfl rfl rfl rfl (two_of HT_.out (by kernel_rfl)) (by decide) (by decide) (fun K hK => ?_) (fun K hK => ?_)
                                                                    · skip
                                                                      refine goes_ Try.func37 (by kernel_rfl) rfl #[.slice A48 ((l0.take 4).drop 2).length (c0 - 2)] (by rfl) rfl rfl (by (try simp only [List.map_toArray, List.map_cons, List.map_nil]); first | done | (rw [show ((l0.take 4).drop 2).length = (4 - 2) from (by rw [List.length_drop, List.length_take]; have h_ : (4 : Int) ≤ (l0.length : Int) := of_decide_eq_true (by first | (with_reducible assumption) | assumption); omega)] <;> rfl) | rfl | (simp only [List.length_drop, List.length_take]; rfl)) ?_
                                                                      with_reducible refine (drawbridgeref19_get.calls _ _ ((l0.take 4).drop 2) t286 _ ?side1 ?side2 A27.out).mono ?_
                                                                      (case side1 => repeat (first | exact (Kd.C_below HR285.out HB.out) | (with_reducible refine Kd.C_alloc ?_ _) | (with_reducible refine Kd.C_drewN ?_ _) | (with_reducible refine Kd.C_drew ?_)))
                                                                      (case side2 => exact HC285.out)
                                                                      rintro e w' ⟨rfl, ⟨nd, rfl⟩⟩
                                                                      refine ⟨_, rfl, ?_⟩
                                                                      refine hK.out _ _ (((HB.out.cell (World.block_lt_of_cell? w _ hw291_0)).trans hw291_0)) (fun hHeld => ?_)
                                                                      clear hK K
                                                                      refine norm_ (a' := ?_) ?_ ?_
                                                                      rotate_left
                                                                      · show Act.put _ (some 61) _ = _
                                                                        simp only [Act.put, List.setIfInBounds_toArray, List.set_cons_zero, List.set_cons_succ, i64_w, i32_w]
                                                                        rfl
                                                                      refine pure_ (i := 7) (N := some 62) (v := ?_) (a' := ?_) #[true, true, true, true, true, true, true, true, true, true, false, false, true, true, false, false, true, true, true, true, true, true, true, false, false, true, false, false, false] rfl rfl (any_of HT_.out (by kernel_rfl)) (fun _ _ _ h => h) (Or.inl ⟨by rfl, ?_⟩) ?_ ?_
                                                                      rotate_left
                                                                      · intro w'
                                                                        go_simp
                                                                        with_reducible rfl
                                                                      rotate_left
                                                                      · simp only [Act.put, List.setIfInBounds_toArray, List.set_cons_zero, List.set_cons_succ, i64_w, i32_w]
                                                                        rfl
                                                                      exact norm_ (by first | (simp only [putAll, Act.put, List.setIfInBounds_toArray, List.set_cons_zero, List.set_cons_succ]; done) | (simp only [putAll, Act.put, List.setIfInBounds_toArray, List.set_cons_zero, List.set_cons_succ]; rfl)) (hJ2_6 () _ ⟨hHeld, (by (with_reducible repeat (first | apply Kd.R_alloc | apply Kd.R_drewN | apply Kd.R_drew)); exact HO278.out), (by (with_reducible repeat (first | refine blk_drewN ?_ _ | refine blk_drew ?_ | refine blk_alloc ?_ _)); exact BK271.out), (by repeat (first | (with_reducible first | exact HB.out | apply below_alloc | apply pw_below_drewN | apply below_drew1 | refine below_set ?_ GE271.out) | exact HB.out))⟩)
                                                                    · skip
                                                                      refine box_step ?hg (N := 11) ?hd (cs := #[.int .i64 0, .int .i64 0, .int .u32 0, .int .u32 0, .int .i64 0, .int .i64 0, .int .i64 0, .slice none 0 0]) (t := 25) ?hr ?_; (case hd => rfl); (case hg => rfl); (case hr => first | (go_simp; done) | (go_simp; rfl))
                                                                      intro gb294 hg w53 hbox hb
                                                                      have n0_ := Aside0.mk (Kd.R_below (by (with_reducible repeat (first | apply Kd.R_alloc | apply Kd.R_drewN | apply Kd.R_drew)); exact HO278.out) hb)
                                                                      have n1_ := Aside0.mk (blk_below (g := gb271) (o := .cells #[.int .i64 0, .int .i64 0, .int .u32 0, .int .u32 0, .int .i64 0, .int .i64 0, .int .i64 0, .slice none 0 0] 25 (0, 0)) (by (with_reducible repeat (first | refine blk_drewN ?_ _ | refine blk_drew ?_ | refine blk_alloc ?_ _)); exact BK271.out) hb)
                                                                      have n2_ := Aside0.mk (below_step (by repeat (first | (with_reducible first | exact HB.out | apply below_alloc | apply pw_below_drewN | apply below_drew1 | refine below_set ?_ GE271.out) | exact HB.out)) hb)
                                                                      have n3_ := Aside0.mk (hbox)
                                                                      have n4_ := Aside0.mk ((by rw [hg]; exact (below_size (by repeat (first | (with_reducible first | exact HB.out | apply below_alloc | apply pw_below_drewN | apply below_drew1 | refine below_set ?_ GE271.out) | exact HB.out))) : w.heap.size ≤ gb294))
                                                                      have n5_ := Aside0.mk ((by rw [hg]; exact (below_size (by repeat (first | (with_reducible first | exact HB.out | apply below_alloc | apply pw_below_drewN | apply below_drew1 | refine below_set ?_ GE271.out) | exact HB.out))) : w.heap.size ≤ gb294))
                                                                      have n6_ := Aside0.mk ((by rw [hg]; exact Nat.ne_of_lt (blk_lt (g := gb271) (o := .cells #[.int .i64 0, .int .i64 0, .int .u32 0, .int .u32 0, .int .i64 0, .int .i64 0, .int .i64 0, .slice none 0 0] 25 (0, 0)) (by (with_reducible repeat (first | refine blk_drewN ?_ _ | refine blk_drew ?_ | refine blk_alloc ?_ _)); exact BK271.out)) : gb271 ≠ gb294))
                                                                      have n7_ := Aside0.mk ((by rw [hg]; exact Nat.ne_of_gt (blk_lt (g := gb271) (o := .cells #[.int .i64 0, .int .i64 0, .int .u32 0, .int .u32 0, .int .i64 0, .int .i64 0, .int .i64 0, .slice none 0 0] 25 (0, 0)) (by (with_reducible repeat (first | refine blk_drewN ?_ _ | refine blk_drew ?_ | refine blk_alloc ?_ _)); exact BK271.out)) : gb294 ≠ gb271))
                                                                      clear HO278
                                                                      clear BK271
                                                                      clear HB
                                                                      have HO278 := n0_
                                                                      have BK271 := n1_
                                                                      have HB := n2_
                                                                      have BK294 := n3_
                                                                      have GW294 := n4_
                                                                      have GE294 := n5_
                                                                      have NB271_294 := n6_
                                                                      have NB294_271 := n7_
                                                                      clear n0_ n1_ n2_ n3_ n4_ n5_ n6_ n7_
                                                                      clear hb hbox hg
                                                                      refine hK.out _ _ (((HB.out.cell (World.block_lt_of_cell? w _ hw291_0)).trans hw291_0)) (fun hHeld => ?_)
                                                                      clear hK K
                                                                      refine norm_ (a' := ?_) ?_ ?_
                                                                      rotate_left
                                                                      · show Act.put _ (some 11) _ = _
                                                                        simp only [Act.put, List.setIfInBounds_toArray, List.set_cons_zero, List.set_cons_succ, i64_w, i32_w]
                                                                        rfl
                                                                      exact norm_ (by first | (simp only [putAll, Act.put, List.setIfInBounds_toArray, List.set_cons_zero, List.set_cons_succ]; done) | (simp only [putAll, Act.put, List.setIfInBounds_toArray, List.set_cons_zero, List.set_cons_succ]; rfl)) (hJ2_27 (gb294) _ ⟨hHeld, (by (with_reducible repeat (first | apply Kd.R_alloc | apply Kd.R_drewN | apply Kd.R_drew)); exact HO278.out), (by (with_reducible repeat (first | refine blk_drewN ?_ _ | refine blk_drew ?_ | refine blk_alloc ?_ _)); exact BK271.out), (by (with_reducible repeat (first | refine blk_drewN ?_ _ | refine blk_drew ?_ | refine blk_alloc ?_ _)); exact BK294.out), GW294.out, GE294.out, NB271_294.out, NB294_271.out, (by repeat (first | (with_reducible first | exact HB.out | apply below_alloc | apply pw_below_drewN | apply below_drew1 | refine below_set ?_ GE271.out | refine below_set ?_ GE294.out) | exact HB.out))⟩)
                                                                · skip
                                                                  rintro gb294 w53 ⟨hS_, h0_, h1_, h2_, h3_, h4_, h5_, h6_, h7_⟩
                                                                  have n0_ : Aside0 (Kd.R (Kd.int .u8) 5 w53 w.heap.size (fun _ => True) (.slice Ao44 y276.length co44) y276) := ⟨h0_⟩
                                                                  have n1_ : Aside0 (w53.heap[gb271]? = some (.cells #[.int .i64 0, .int .i64 0, .int .u32 0, .int .u32 0, .int .i64 0, .int .i64 0, .int .i64 0, .slice none 0 0] 25 (0, 0))) := ⟨h1_⟩
                                                                  have n2_ : Aside0 (w53.heap[gb294]? = some (.cells #[.int .i64 0, .int .i64 0, .int .u32 0, .int .u32 0, .int .i64 0, .int .i64 0, .int .i64 0, .slice none 0 0] 25 (0, 0))) := ⟨h2_⟩
                                                                  have n3_ : Aside0 (w.heap.size ≤ gb294) := ⟨h3_⟩
                                                                  have n4_ : Aside0 (w.heap.size ≤ gb294) := ⟨h4_⟩
                                                                  have n5_ : Aside0 (gb271 ≠ gb294) := ⟨h5_⟩
                                                                  have n6_ : Aside0 (gb294 ≠ gb271) := ⟨h6_⟩
                                                                  have n7_ : Aside0 (Below w.heap.size w w53) := ⟨h7_⟩
                                                                  clear HO278
                                                                  clear BK271
                                                                  clear HB
                                                                  clear h0_ h1_ h2_ h3_ h4_ h5_ h6_ h7_
                                                                  have HO278 := n0_
                                                                  have BK271 := n1_
                                                                  have BK294 := n2_
                                                                  have GW294 := n3_
                                                                  have GE294 := n4_
                                                                  have NB271_294 := n5_
                                                                  have NB294_271 := n6_
                                                                  have HB := n7_
                                                                  clear n0_ n1_ n2_ n3_ n4_ n5_ n6_ n7_
                                                                  have hHeld : w53.cell? ⟨ad272.block, ad272.off + 13, none⟩ = some (.int .u8 (rd l0 13)) := hS_
                                                                  refine norm_ (a' := ?_) ?_ ?_
                                                                  rotate_left
                                                                  · simp only [putAll, Act.put, List.setIfInBounds_toArray, List.set_cons_zero, List.set_cons_succ]
                                                                    rfl
                                                                  refine one_ (i := 6) (N := some 61) #[true, true, true, true, true, true, true, false, true, true, false, false, true, true, false, false, true, true, true, true, true, true, true, false, false, true, false, true, false] rfl rfl (one_of HT_.out (by kernel_rfl)) (by decide) (fun K hK => ?_)
                                                                  refine goes_ Try.func37 (by kernel_rfl) rfl #[.slice A48 ((l0.take 4).drop 2).length (c0 - 2)] (by rfl) rfl rfl (by (try simp only [List.map_toArray, List.map_cons, List.map_nil]); first | done | (rw [show ((l0.take 4).drop 2).length = (4 - 2) from (by rw [List.length_drop, List.length_take]; have h_ : (4 : Int) ≤ (l0.length : Int) := of_decide_eq_true (by first | (with_reducible assumption) | assumption); omega)] <;> rfl) | rfl | (simp only [List.length_drop, List.length_take]; rfl)) ?_
                                                                  with_reducible refine (drawbridgeref19_get.calls _ _ ((l0.take 4).drop 2) t286 _ ?side1 ?side2 A27.out).mono ?_
                                                                  (case side1 => repeat (first | exact (Kd.C_below HR285.out HB.out) | (with_reducible refine Kd.C_alloc ?_ _) | (with_reducible refine Kd.C_drewN ?_ _) | (with_reducible refine Kd.C_drew ?_)))
                                                                  (case side2 => exact HC285.out)
                                                                  rintro e w' ⟨rfl, ⟨nd, rfl⟩⟩
                                                                  refine ⟨_, rfl, ?_⟩
                                                                  refine hK.out _ _ (((HB.out.cell (World.block_lt_of_cell? w _ hw291_0)).trans hw291_0)) (fun hHeld => ?_)
                                                                  clear hK K
                                                                  refine norm_ (a' := ?_) ?_ ?_
                                                                  rotate_left
                                                                  · show Act.put _ (some 61) _ = _
                                                                    simp only [Act.put, List.setIfInBounds_toArray, List.set_cons_zero, List.set_cons_succ, i64_w, i32_w]
                                                                    rfl
                                                                  refine pure_ (i := 7) (N := some 62) (v := ?_) (a' := ?_) #[true, true, true, true, true, true, true, true, true, true, false, false, true, true, false, false, true, true, true, true, true, true, true, false, false, true, false, true, false] rfl rfl (any_of HT_.out (by kernel_rfl)) (fun _ _ _ h => h) (Or.inl ⟨by rfl, ?_⟩) ?_ ?_
                                                                  rotate_left
                                                                  · intro w'
                                                                    go_simp
                                                                    with_reducible rfl
                                                                  rotate_left
                                                                  · simp only [Act.put, List.setIfInBounds_toArray, List.set_cons_zero, List.set_cons_succ, i64_w, i32_w]
                                                                    rfl
                                                                  exact norm_ (by first | (simp only [putAll, Act.put, List.setIfInBounds_toArray, List.set_cons_zero, List.set_cons_succ]; done) | (simp only [putAll, Act.put, List.setIfInBounds_toArray, List.set_cons_zero, List.set_cons_succ]; rfl)) (hJ2_6_27 (gb294) _ ⟨hHeld, (by (with_reducible repeat (first | apply Kd.R_alloc | apply Kd.R_drewN | apply Kd.R_drew)); exact HO278.out), (by (with_reducible repeat (first | refine blk_drewN ?_ _ | refine blk_drew ?_ | refine blk_alloc ?_ _)); exact BK271.out), (by (with_reducible repeat (first | refine blk_drewN ?_ _ | refine blk_drew ?_ | refine blk_alloc ?_ _)); exact BK294.out), GW294.out, GE294.out, NB271_294.out, NB294_271.out, (by repeat (first | (with_reducible first | exact HB.out | apply below_alloc | apply pw_below_drewN | apply below_drew1 | refine below_set ?_ GE271.out | refine below_set ?_ GE294.out) | exact HB.out))⟩)
                                                              · skip
                                                                rintro _ w52 ⟨hS_, h0_, h1_, h2_⟩
                                                                have n0_ : Aside0 (Kd.R (Kd.int .u8) 5 w52 w.heap.size (fun _ => True) (.slice Ao44 y276.length co44) y276) := ⟨h0_⟩
                                                                have n1_ : Aside0 (w52.heap[gb271]? = some (.cells #[.int .i64 0, .int .i64 0, .int .u32 0, .int .u32 0, .int .i64 0, .int .i64 0, .int .i64 0, .slice none 0 0] 25 (0, 0))) := ⟨h1_⟩
                                                                have n2_ : Aside0 (Below w.heap.size w w52) := ⟨h2_⟩
                                                                clear HO278
                                                                clear BK271
                                                                clear HB
                                                                clear h0_ h1_ h2_
                                                                have HO278 := n0_
                                                                have BK271 := n1_
                                                                have HB := n2_
                                                                clear n0_ n1_ n2_
                                                                have hHeld : w52.cell? ⟨ad272.block, ad272.off + 13, none⟩ = some (.int .u8 (rd l0 13)) := hS_
                                                                refine norm_ (a' := ?_) ?_ ?_
                                                                rotate_left
                                                                · simp only [putAll, Act.put, List.setIfInBounds_toArray, List.set_cons_zero, List.set_cons_succ]
                                                                  rfl
                                                                refine two_ (i := 10) (j := 27) (Ni := some 65) (Nj := some 11) #[true, true, true, true, true, true, true, true, true, true, true, false, true, true, false, false, true, true, true, true, true, true, true, false, false, true, false, false, false] #[true, true, true, true, true, true, true, true, true, true, false, false, true, true, false, false, true, true, true, true, true, true, true, false, false, true, false, true, false] rfl rfl rfl rfl (two_of HT_.out (by kernel_rfl)) (by decide) (by decide) (fun K hK => ?_) (fun K hK => ?_)
                                                                · skip
                                                                  refine goes_ Try.func37 (by kernel_rfl) rfl #[.slice A49 ((l0.take 8).drop 4).length (c0 - 4)] (by rfl) rfl rfl (by (try simp only [List.map_toArray, List.map_cons, List.map_nil]); first | done | (rw [show ((l0.take 8).drop 4).length = (8 - 4) from (by rw [List.length_drop, List.length_take]; have h_ : (8 : Int) ≤ (l0.length : Int) := of_decide_eq_true (by first | (with_reducible assumption) | assumption); omega)] <;> rfl) | rfl | (simp only [List.length_drop, List.length_take]; rfl)) ?_
                                                                  with_reducible refine (drawbridgeref19_get.calls _ _ ((l0.take 8).drop 4) t288 _ ?side1 ?side2 A30.out).mono ?_
                                                                  (case side1 => repeat (first | exact (Kd.C_below HR287.out HB.out) | (with_reducible refine Kd.C_alloc ?_ _) | (with_reducible refine Kd.C_drewN ?_ _) | (with_reducible refine Kd.C_drew ?_)))
                                                                  (case side2 => exact HC287.out)
                                                                  rintro e w' ⟨rfl, ⟨nd, rfl⟩⟩
                                                                  refine ⟨_, rfl, ?_⟩
                                                                  refine hK.out _ _ (((HB.out.cell (World.block_lt_of_cell? w _ hw291_0)).trans hw291_0)) (fun hHeld => ?_)
                                                                  clear hK K
                                                                  refine norm_ (a' := ?_) ?_ ?_
                                                                  rotate_left
                                                                  · show Act.put _ (some 65) _ = _
                                                                    simp only [Act.put, List.setIfInBounds_toArray, List.set_cons_zero, List.set_cons_succ, i64_w, i32_w]
                                                                    rfl
                                                                  refine pure_ (i := 11) (N := some 66) (v := ?_) (a' := ?_) #[true, true, true, true, true, true, true, true, true, true, true, true, true, true, false, false, true, true, true, true, true, true, true, false, false, true, false, false, false] rfl rfl (any_of HT_.out (by kernel_rfl)) (fun _ _ _ h => h) (Or.inl ⟨by rfl, ?_⟩) ?_ ?_
                                                                  rotate_left
                                                                  · intro w'
                                                                    go_simp
                                                                    with_reducible rfl
                                                                  rotate_left
                                                                  · simp only [Act.put, List.setIfInBounds_toArray, List.set_cons_zero, List.set_cons_succ, i64_w, i32_w]
                                                                    rfl
                                                                  exact norm_ (by first | (simp only [putAll, Act.put, List.setIfInBounds_toArray, List.set_cons_zero, List.set_cons_succ]; done) | (simp only [putAll, Act.put, List.setIfInBounds_toArray, List.set_cons_zero, List.set_cons_succ]; rfl)) (hJ2_6_10 () _ ⟨hHeld, (by (with_reducible repeat (first | apply Kd.R_alloc | apply Kd.R_drewN | apply Kd.R_drew)); exact HO278.out), (by (with_reducible repeat (first | refine blk_drewN ?_ _ | refine blk_drew ?_ | refine blk_alloc ?_ _)); exact BK271.out), (by repeat (first | (with_reducible first | exact HB.out | apply below_alloc | apply pw_below_drewN | apply below_drew1 | refine below_set ?_ GE271.out) | exact HB.out))⟩)
                                                                · skip
                                                                  refine box_step ?hg (N := 11) ?hd (cs := #[.int .i64 0, .int .i64 0, .int .u32 0, .int .u32 0, .int .i64 0, .int .i64 0, .int .i64 0, .slice none 0 0]) (t := 25) ?hr ?_; (case hd => rfl); (case hg => rfl); (case hr => first | (go_simp; done) | (go_simp; rfl))
                                                                  intro gb294 hg w53 hbox hb
                                                                  have n0_ := Aside0.mk (Kd.R_below (by (with_reducible repeat (first | apply Kd.R_alloc | apply Kd.R_drewN | apply Kd.R_drew)); exact HO278.out) hb)
                                                                  have n1_ := Aside0.mk (blk_below (g := gb271) (o := .cells #[.int .i64 0, .int .i64 0, .int .u32 0, .int .u32 0, .int .i64 0, .int .i64 0, .int .i64 0, .slice none 0 0] 25 (0, 0)) (by (with_reducible repeat (first | refine blk_drewN ?_ _ | refine blk_drew ?_ | refine blk_alloc ?_ _)); exact BK271.out) hb)
                                                                  have n2_ := Aside0.mk (below_step (by repeat (first | (with_reducible first | exact HB.out | apply below_alloc | apply pw_below_drewN | apply below_drew1 | refine below_set ?_ GE271.out) | exact HB.out)) hb)
                                                                  have n3_ := Aside0.mk (hbox)
                                                                  have n4_ := Aside0.mk ((by rw [hg]; exact (below_size (by repeat (first | (with_reducible first | exact HB.out | apply below_alloc | apply pw_below_drewN | apply below_drew1 | refine below_set ?_ GE271.out) | exact HB.out))) : w.heap.size ≤ gb294))
                                                                  have n5_ := Aside0.mk ((by rw [hg]; exact (below_size (by repeat (first | (with_reducible first | exact HB.out | apply below_alloc | apply pw_below_drewN | apply below_drew1 | refine below_set ?_ GE271.out) | exact HB.out))) : w.heap.size ≤ gb294))
                                                                  have n6_ := Aside0.mk ((by rw [hg]; exact Nat.ne_of_lt (blk_lt (g := gb271) (o := .cells #[.int .i64 0, .int .i64 0, .int .u32 0, .int .u32 0, .int .i64 0, .int .i64 0, .int .i64 0, .slice none 0 0] 25 (0, 0)) (by (with_reducible repeat (first | refine blk_drewN ?_ _ | refine blk_drew ?_ | refine blk_alloc ?_ _)); exact BK271.out)) : gb271 ≠ gb294))
                                                                  have n7_ := Aside0.mk ((by rw [hg]; exact Nat.ne_of_gt (blk_lt (g := gb271) (o := .cells #[.int .i64 0, .int .i64 0, .int .u32 0, .int .u32 0, .int .i64 0, .int .i64 0, .int .i64 0, .slice none 0 0] 25 (0, 0)) (by (with_reducible repeat (first | refine blk_drewN ?_ _ | refine blk_drew ?_ | refine blk_alloc ?_ _)); exact BK271.out)) : gb294 ≠ gb271))
                                                                  clear HO278
                                                                  clear BK271
                                                                  clear HB
                                                                  have HO278 := n0_
                                                                  have BK271 := n1_
                                                                  have HB := n2_
                                                                  have BK294 := n3_
                                                                  have GW294 := n4_
                                                                  have GE294 := n5_
                                                                  have NB271_294 := n6_
                                                                  have NB294_271 := n7_
                                                                  clear n0_ n1_ n2_ n3_ n4_ n5_ n6_ n7_
                                                                  clear hb hbox hg
                                                                  refine hK.out _ _ (((HB.out.cell (World.block_lt_of_cell? w _ hw291_0)).trans hw291_0)) (fun hHeld => ?_)
                                                                  clear hK K
                                                                  refine norm_ (a' := ?_) ?_ ?_
                                                                  rotate_left
                                                                  · show Act.put _ (some 11) _ = _
                                                                    simp only [Act.put, List.setIfInBounds_toArray, List.set_cons_zero, List.set_cons_succ, i64_w, i32_w]
                                                                    rfl
                                                                  exact norm_ (by first | (simp only [putAll, Act.put, List.setIfInBounds_toArray, List.set_cons_zero, List.set_cons_succ]; done) | (simp only [putAll, Act.put, List.setIfInBounds_toArray, List.set_cons_zero, List.set_cons_succ]; rfl)) (hJ2_6_27 (gb294) _ ⟨hHeld, (by (with_reducible repeat (first | apply Kd.R_alloc | apply Kd.R_drewN | apply Kd.R_drew)); exact HO278.out), (by (with_reducible repeat (first | refine blk_drewN ?_ _ | refine blk_drew ?_ | refine blk_alloc ?_ _)); exact BK271.out), (by (with_reducible repeat (first | refine blk_drewN ?_ _ | refine blk_drew ?_ | refine blk_alloc ?_ _)); exact BK294.out), GW294.out, GE294.out, NB271_294.out, NB294_271.out, (by repeat (first | (with_reducible first | exact HB.out | apply below_alloc | apply pw_below_drewN | apply below_drew1 | refine below_set ?_ GE271.out | refine below_set ?_ GE294.out) | exact HB.out))⟩)
                                                            · skip
                                                              rintro gb294 w53 ⟨hS_, h0_, h1_, h2_, h3_, h4_, h5_, h6_, h7_⟩
                                                              have n0_ : Aside0 (Kd.R (Kd.int .u8) 5 w53 w.heap.size (fun _ => True) (.slice Ao44 y276.length co44) y276) := ⟨h0_⟩
                                                              have n1_ : Aside0 (w53.heap[gb271]? = some (.cells #[.int .i64 0, .int .i64 0, .int .u32 0, .int .u32 0, .int .i64 0, .int .i64 0, .int .i64 0, .slice none 0 0] 25 (0, 0))) := ⟨h1_⟩
                                                              have n2_ : Aside0 (w53.heap[gb294]? = some (.cells #[.int .i64 0, .int .i64 0, .int .u32 0, .int .u32 0, .int .i64 0, .int .i64 0, .int .i64 0, .slice none 0 0] 25 (0, 0))) := ⟨h2_⟩
                                                              have n3_ : Aside0 (w.heap.size ≤ gb294) := ⟨h3_⟩
                                                              have n4_ : Aside0 (w.heap.size ≤ gb294) := ⟨h4_⟩
                                                              have n5_ : Aside0 (gb271 ≠ gb294) := ⟨h5_⟩
                                                              have n6_ : Aside0 (gb294 ≠ gb271) := ⟨h6_⟩
                                                              have n7_ : Aside0 (Below w.heap.size w w53) := ⟨h7_⟩
                                                              clear HO278
                                                              clear BK271
                                                              clear HB
                                                              clear h0_ h1_ h2_ h3_ h4_ h5_ h6_ h7_
                                                              have HO278 := n0_
                                                              have BK271 := n1_
                                                              have BK294 := n2_
                                                              have GW294 := n3_
                                                              have GE294 := n4_
                                                              have NB271_294 := n5_
                                                              have NB294_271 := n6_
                                                              have HB := n7_
                                                              clear n0_ n1_ n2_ n3_ n4_ n5_ n6_ n7_
                                                              have hHeld : w53.cell? ⟨ad272.block, ad272.off + 13, none⟩ = some (.int .u8 (rd l0 13)) := hS_
                                                              refine norm_ (a' := ?_) ?_ ?_
                                                              rotate_left
                                                              · simp only [putAll, Act.put, List.setIfInBounds_toArray, List.set_cons_zero, List.set_cons_succ]
                                                                rfl
                                                              refine one_ (i := 10) (N := some 65) #[true, true, true, true, true, true, true, true, true, true, true, false, true, true, false, false, true, true, true, true, true, true, true, false, false, true, false, true, false] rfl rfl (one_of HT_.out (by kernel_rfl)) (by decide) (fun K hK => ?_)
                                                              refine goes_ Try.func37 (by kernel_rfl) rfl #[.slice A49 ((l0.take 8).drop 4).length (c0 - 4)] (by rfl) rfl rfl (by (try simp only [List.map_toArray, List.map_cons, List.map_nil]); first | done | (rw [show ((l0.take 8).drop 4).length = (8 - 4) from (by rw [List.length_drop, List.length_take]; have h_ : (8 : Int) ≤ (l0.length : Int) := of_decide_eq_true (by first | (with_reducible assumption) | assumption); omega)] <;> rfl) | rfl | (simp only [List.length_drop, List.length_take]; rfl)) ?_
                                                              with_reducible refine (drawbridgeref19_get.calls _ _ ((l0.take 8).drop 4) t288 _ ?side1 ?side2 A30.out).mono ?_
                                                              (case side1 => repeat (first | exact (Kd.C_below HR287.out HB.out) | (with_reducible refine Kd.C_alloc ?_ _) | (with_reducible refine Kd.C_drewN ?_ _) | (with_reducible refine Kd.C_drew ?_)))
                                                              (case side2 => exact HC287.out)
                                                              rintro e w' ⟨rfl, ⟨nd, rfl⟩⟩
                                                              refine ⟨_, rfl, ?_⟩
                                                              refine hK.out _ _ (((HB.out.cell (World.block_lt_of_cell? w _ hw291_0)).trans hw291_0)) (fun hHeld => ?_)
                                                              clear hK K
                                                              refine norm_ (a' := ?_) ?_ ?_
                                                              rotate_left
                                                              · show Act.put _ (some 65) _ = _
                                                                simp only [Act.put, List.setIfInBounds_toArray, List.set_cons_zero, List.set_cons_succ, i64_w, i32_w]
                                                                rfl
                                                              refine pure_ (i := 11) (N := some 66) (v := ?_) (a' := ?_) #[true, true, true, true, true, true, true, true, true, true, true, true, true, true, false, false, true, true, true, true, true, true, true, false, false, true, false, true, false] rfl rfl (any_of HT_.out (by kernel_rfl)) (fun _ _ _ h => h) (Or.inl ⟨by rfl, ?_⟩) ?_ ?_
                                                              rotate_left
                                                              · intro w'
                                                                go_simp
                                                                with_reducible rfl
                                                              rotate_left
                                                              · simp only [Act.put, List.setIfInBounds_toArray, List.set_cons_zero, List.set_cons_succ, i64_w, i32_w]
                                                                rfl
                                                              exact norm_ (by first | (simp only [putAll, Act.put, List.setIfInBounds_toArray, List.set_cons_zero, List.set_cons_succ]; done) | (simp only [putAll, Act.put, List.setIfInBounds_toArray, List.set_cons_zero, List.set_cons_succ]; rfl)) (hJ2_6_10_27 (gb294) _ ⟨hHeld, (by (with_reducible repeat (first | apply Kd.R_alloc | apply Kd.R_drewN | apply Kd.R_drew)); exact HO278.out), (by (with_reducible repeat (first | refine blk_drewN ?_ _ | refine blk_drew ?_ | refine blk_alloc ?_ _)); exact BK271.out), (by (with_reducible repeat (first | refine blk_drewN ?_ _ | refine blk_drew ?_ | refine blk_alloc ?_ _)); exact BK294.out), GW294.out, GE294.out, NB271_294.out, NB294_271.out, (by repeat (first | (with_reducible first | exact HB.out | apply below_alloc | apply pw_below_drewN | apply below_drew1 | refine below_set ?_ GE271.out | refine below_set ?_ GE294.out) | exact HB.out))⟩)
                                                          · skip
                                                            rintro _ w52 ⟨hS_, h0_, h1_, h2_⟩
                                                            have n0_ : Aside0 (Kd.R (Kd.int .u8) 5 w52 w.heap.size (fun _ => True) (.slice Ao44 y276.length co44) y276) := ⟨h0_⟩
                                                            have n1_ : Aside0 (w52.heap[gb271]? = some (.cells #[.int .i64 0, .int .i64 0, .int .u32 0, .int .u32 0, .int .i64 0, .int .i64 0, .int .i64 0, .slice none 0 0] 25 (0, 0))) := ⟨h1_⟩
                                                            have n2_ : Aside0 (Below w.heap.size w w52) := ⟨h2_⟩
                                                            clear HO278
                                                            clear BK271
                                                            clear HB
                                                            clear h0_ h1_ h2_
                                                            have HO278 := n0_
                                                            have BK271 := n1_
                                                            have HB := n2_
                                                            clear n0_ n1_ n2_
                                                            have hHeld : w52.cell? ⟨ad272.block, ad272.off + 13, none⟩ = some (.int .u8 (rd l0 13)) := hS_
                                                            refine norm_ (a' := ?_) ?_ ?_
                                                            rotate_left
                                                            · simp only [putAll, Act.put, List.setIfInBounds_toArray, List.set_cons_zero, List.set_cons_succ]
                                                              rfl
                                                            refine two_ (i := 14) (j := 27) (Ni := some 69) (Nj := some 11) #[true, true, true, true, true, true, true, true, true, true, true, true, true, true, true, false, true, true, true, true, true, true, true, false, false, true, false, false, false] #[true, true, true, true, true, true, true, true, true, true, true, true, true, true, false, false, true, true, true, true, true, true, true, false, false, true, false, true, false] rfl rfl rfl rfl (two_of HT_.out (by kernel_rfl)) (by decide) (by decide) (fun K hK => ?_) (fun K hK => ?_)
                                                            · skip
                                                              refine goes_ Try.func37 (by kernel_rfl) rfl #[.slice A50 ((l0.take 12).drop 8).length (c0 - 8)] (by rfl) rfl rfl (by (try simp only [List.map_toArray, List.map_cons, List.map_nil]); first | done | (rw [show ((l0.take 12).drop 8).length = (12 - 8) from (by rw [List.length_drop, List.length_take]; have h_ : (12 : Int) ≤ (l0.length : Int) := of_decide_eq_true (by first | (with_reducible assumption) | assumption); omega)] <;> rfl) | rfl | (simp only [List.length_drop, List.length_take]; rfl)) ?_
                                                              with_reducible refine (drawbridgeref19_get.calls _ _ ((l0.take 12).drop 8) t290 _ ?side1 ?side2 A33.out).mono ?_
                                                              (case side1 => repeat (first | exact (Kd.C_below HR289.out HB.out) | (with_reducible refine Kd.C_alloc ?_ _) | (with_reducible refine Kd.C_drewN ?_ _) | (with_reducible refine Kd.C_drew ?_)))
                                                              (case side2 => exact HC289.out)
                                                              rintro e w' ⟨rfl, ⟨nd, rfl⟩⟩
                                                              refine ⟨_, rfl, ?_⟩
                                                              refine hK.out _ _ (((HB.out.cell (World.block_lt_of_cell? w _ hw291_0)).trans hw291_0)) (fun hHeld => ?_)
                                                              clear hK K
                                                              refine norm_ (a' := ?_) ?_ ?_
                                                              rotate_left
                                                              · show Act.put _ (some 69) _ = _
                                                                simp only [Act.put, List.setIfInBounds_toArray, List.set_cons_zero, List.set_cons_succ, i64_w, i32_w]
                                                                rfl
                                                              refine pure_ (i := 15) (N := some 70) (v := ?_) (a' := ?_) #[true, true, true, true, true, true, true, true, true, true, true, true, true, true, true, true, true, true, true, true, true, true, true, false, false, true, false, false, false] rfl rfl (any_of HT_.out (by kernel_rfl)) (fun _ _ _ h => h) (Or.inl ⟨by rfl, ?_⟩) ?_ ?_
                                                              rotate_left
                                                              · intro w'
                                                                go_simp
                                                                with_reducible rfl
                                                              rotate_left
                                                              · simp only [Act.put, List.setIfInBounds_toArray, List.set_cons_zero, List.set_cons_succ, i64_w, i32_w]
                                                                rfl
                                                              exact norm_ (by first | (simp only [putAll, Act.put, List.setIfInBounds_toArray, List.set_cons_zero, List.set_cons_succ]; done) | (simp only [putAll, Act.put, List.setIfInBounds_toArray, List.set_cons_zero, List.set_cons_succ]; rfl)) (hJ2_6_10_14 () _ ⟨hHeld, (by (with_reducible repeat (first | apply Kd.R_alloc | apply Kd.R_drewN | apply Kd.R_drew)); exact HO278.out), (by (with_reducible repeat (first | refine blk_drewN ?_ _ | refine blk_drew ?_ | refine blk_alloc ?_ _)); exact BK271.out), (by repeat (first | (with_reducible first | exact HB.out | apply below_alloc | apply pw_below_drewN | apply below_drew1 | refine below_set ?_ GE271.out) | exact HB.out))⟩)
                                                            · skip
                                                              refine box_step ?hg (N := 11) ?hd (cs := #[.int .i64 0, .int .i64 0, .int .u32 0, .int .u32 0, .int .i64 0, .int .i64 0, .int .i64 0, .slice none 0 0]) (t := 25) ?hr ?_; (case hd => rfl); (case hg => rfl); (case hr => first | (go_simp; done) | (go_simp; rfl))
                                                              intro gb294 hg w53 hbox hb
                                                              have n0_ := Aside0.mk (Kd.R_below (by (with_reducible repeat (first | apply Kd.R_alloc | apply Kd.R_drewN | apply Kd.R_drew)); exact HO278.out) hb)
                                                              have n1_ := Aside0.mk (blk_below (g := gb271) (o := .cells #[.int .i64 0, .int .i64 0, .int .u32 0, .int .u32 0, .int .i64 0, .int .i64 0, .int .i64 0, .slice none 0 0] 25 (0, 0)) (by (with_reducible repeat (first | refine blk_drewN ?_ _ | refine blk_drew ?_ | refine blk_alloc ?_ _)); exact BK271.out) hb)
                                                              have n2_ := Aside0.mk (below_step (by repeat (first | (with_reducible first | exact HB.out | apply below_alloc | apply pw_below_drewN | apply below_drew1 | refine below_set ?_ GE271.out) | exact HB.out)) hb)
                                                              have n3_ := Aside0.mk (hbox)
                                                              have n4_ := Aside0.mk ((by rw [hg]; exact (below_size (by repeat (first | (with_reducible first | exact HB.out | apply below_alloc | apply pw_below_drewN | apply below_drew1 | refine below_set ?_ GE271.out) | exact HB.out))) : w.heap.size ≤ gb294))
                                                              have n5_ := Aside0.mk ((by rw [hg]; exact (below_size (by repeat (first | (with_reducible first | exact HB.out | apply below_alloc | apply pw_below_drewN | apply below_drew1 | refine below_set ?_ GE271.out) | exact HB.out))) : w.heap.size ≤ gb294))
                                                              have n6_ := Aside0.mk ((by rw [hg]; exact Nat.ne_of_lt (blk_lt (g := gb271) (o := .cells #[.int .i64 0, .int .i64 0, .int .u32 0, .int .u32 0, .int .i64 0, .int .i64 0, .int .i64 0, .slice none 0 0] 25 (0, 0)) (by (with_reducible repeat (first | refine blk_drewN ?_ _ | refine blk_drew ?_ | refine blk_alloc ?_ _)); exact BK271.out)) : gb271 ≠ gb294))
                                                              have n7_ := Aside0.mk ((by rw [hg]; exact Nat.ne_of_gt (blk_lt (g := gb271) (o := .cells #[.int .i64 0, .int .i64 0, .int .u32 0, .int .u32 0, .int .i64 0, .int .i64 0, .int .i64 0, .slice none 0 0] 25 (0, 0)) (by (with_reducible repeat (first | refine blk_drewN ?_ _ | refine blk_drew ?_ | refine blk_alloc ?_ _)); exact BK271.out)) : gb294 ≠ gb271))
                                                              clear HO278
                                                              clear BK271
                                                              clear HB
                                                              have HO278 := n0_
                                                              have BK271 := n1_
                                                              have HB := n2_
                                                              have BK294 := n3_
                                                              have GW294 := n4_
                                                              have GE294 := n5_
                                                              have NB271_294 := n6_
                                                              have NB294_271 := n7_
                                                              clear n0_ n1_ n2_ n3_ n4_ n5_ n6_ n7_
                                                              clear hb hbox hg
                                                              refine hK.out _ _ (((HB.out.cell (World.block_lt_of_cell? w _ hw291_0)).trans hw291_0)) (fun hHeld => ?_)
                                                              clear hK K
                                                              refine norm_ (a' := ?_) ?_ ?_
                                                              rotate_left
                                                              · show Act.put _ (some 11) _ = _
                                                                simp only [Act.put, List.setIfInBounds_toArray, List.set_cons_zero, List.set_cons_succ, i64_w, i32_w]
                                                                rfl
                                                              exact norm_ (by first | (simp only [putAll, Act.put, List.setIfInBounds_toArray, List.set_cons_zero, List.set_cons_succ]; done) | (simp only [putAll, Act.put, List.setIfInBounds_toArray, List.set_cons_zero, List.set_cons_succ]; rfl)) (hJ2_6_10_27 (gb294) _ ⟨hHeld, (by (with_reducible repeat (first | apply Kd.R_alloc | apply Kd.R_drewN | apply Kd.R_drew)); exact HO278.out), (by (with_reducible repeat (first | refine blk_drewN ?_ _ | refine blk_drew ?_ | refine blk_alloc ?_ _)); exact BK271.out), (by (with_reducible repeat (first | refine blk_drewN ?_ _ | refine blk_drew ?_ | refine blk_alloc ?_ _)); exact BK294.out), GW294.out, GE294.out, NB271_294.out, NB294_271.out, (by repeat (first | (with_reducible first | exact HB.out | apply below_alloc | apply pw_below_drewN | apply below_drew1 | refine below_set ?_ GE271.out | refine below_set ?_ GE294.out) | exact HB.out))⟩)
                                                        · skip
                                                          rintro gb294 w53 ⟨hS_, h0_, h1_, h2_, h3_, h4_, h5_, h6_, h7_⟩
                                                          have n0_ : Aside0 (Kd.R (Kd.int .u8) 5 w53 w.heap.size (fun _ => True) (.slice Ao44 y276.length co44) y276) := ⟨h0_⟩
                                                          have n1_ : Aside0 (w53.heap[gb271]? = some (.cells #[.int .i64 0, .int .i64 0, .int .u32 0, .int .u32 0, .int .i64 0, .int .i64 0, .int .i64 0, .slice none 0 0] 25 (0, 0))) := ⟨h1_⟩
                                                          have n2_ : Aside0 (w53.heap[gb294]? = some (.cells #[.int .i64 0, .int .i64 0, .int .u32 0, .int .u32 0, .int .i64 0, .int .i64 0, .int .i64 0, .slice none 0 0] 25 (0, 0))) := ⟨h2_⟩
                                                          have n3_ : Aside0 (w.heap.size ≤ gb294) := ⟨h3_⟩
                                                          have n4_ : Aside0 (w.heap.size ≤ gb294) := ⟨h4_⟩
                                                          have n5_ : Aside0 (gb271 ≠ gb294) := ⟨h5_⟩
                                                          have n6_ : Aside0 (gb294 ≠ gb271) := ⟨h6_⟩
                                                          have n7_ : Aside0 (Below w.heap.size w w53) := ⟨h7_⟩
                                                          clear HO278
                                                          clear BK271
                                                          clear HB
                                                          clear h0_ h1_ h2_ h3_ h4_ h5_ h6_ h7_
                                                          have HO278 := n0_
                                                          have BK271 := n1_
                                                          have BK294 := n2_
                                                          have GW294 := n3_
                                                          have GE294 := n4_
                                                          have NB271_294 := n5_
                                                          have NB294_271 := n6_
                                                          have HB := n7_
                                                          clear n0_ n1_ n2_ n3_ n4_ n5_ n6_ n7_
                                                          have hHeld : w53.cell? ⟨ad272.block, ad272.off + 13, none⟩ = some (.int .u8 (rd l0 13)) := hS_
                                                          refine norm_ (a' := ?_) ?_ ?_
                                                          rotate_left
                                                          · simp only [putAll, Act.put, List.setIfInBounds_toArray, List.set_cons_zero, List.set_cons_succ]
                                                            rfl
                                                          refine one_ (i := 14) (N := some 69) #[true, true, true, true, true, true, true, true, true, true, true, true, true, true, true, false, true, true, true, true, true, true, true, false, false, true, false, true, false] rfl rfl (one_of HT_.out (by kernel_rfl)) (by decide) (fun K hK => ?_)
                                                          refine goes_ Try.func37 (by kernel_rfl) rfl #[.slice A50 ((l0.take 12).drop 8).length (c0 - 8)] (by rfl) rfl rfl (by (try simp only [List.map_toArray, List.map_cons, List.map_nil]); first | done | (rw [show ((l0.take 12).drop 8).length = (12 - 8) from (by rw [List.length_drop, List.length_take]; have h_ : (12 : Int) ≤ (l0.length : Int) := of_decide_eq_true (by first | (with_reducible assumption) | assumption); omega)] <;> rfl) | rfl | (simp only [List.length_drop, List.length_take]; rfl)) ?_
                                                          with_reducible refine (drawbridgeref19_get.calls _ _ ((l0.take 12).drop 8) t290 _ ?side1 ?side2 A33.out).mono ?_
                                                          (case side1 => repeat (first | exact (Kd.C_below HR289.out HB.out) | (with_reducible refine Kd.C_alloc ?_ _) | (with_reducible refine Kd.C_drewN ?_ _) | (with_reducible refine Kd.C_drew ?_)))
                                                          (case side2 => exact HC289.out)
                                                          rintro e w' ⟨rfl, ⟨nd, rfl⟩⟩
                                                          refine ⟨_, rfl, ?_⟩
                                                          refine hK.out _ _ (((HB.out.cell (World.block_lt_of_cell? w _ hw291_0)).trans hw291_0)) (fun hHeld => ?_)
                                                          clear hK K
                                                          refine norm_ (a' := ?_) ?_ ?_
                                                          rotate_left
                                                          · show Act.put _ (some 69) _ = _
                                                            simp only [Act.put, List.setIfInBounds_toArray, List.set_cons_zero, List.set_cons_succ, i64_w, i32_w]
                                                            rfl
                                                          refine pure_ (i := 15) (N := some 70) (v := ?_) (a' := ?_) #[true, true, true, true, true, true, true, true, true, true, true, true, true, true, true, true, true, true, true, true, true, true, true, false, false, true, false, true, false] rfl rfl (any_of HT_.out (by kernel_rfl)) (fun _ _ _ h => h) (Or.inl ⟨by rfl, ?_⟩) ?_ ?_
                                                          rotate_left
                                                          · intro w'
                                                            go_simp
                                                            with_reducible rfl
                                                          rotate_left
                                                          · simp only [Act.put, List.setIfInBounds_toArray, List.set_cons_zero, List.set_cons_succ, i64_w, i32_w]
                                                            rfl
                                                          exact norm_ (by first | (simp only [putAll, Act.put, List.setIfInBounds_toArray, List.set_cons_zero, List.set_cons_succ]; done) | (simp only [putAll, Act.put, List.setIfInBounds_toArray, List.set_cons_zero, List.set_cons_succ]; rfl)) (hJ2_6_10_14_27 (gb294) _ ⟨hHeld, (by (with_reducible repeat (first | apply Kd.R_alloc | apply Kd.R_drewN | apply Kd.R_drew)); exact HO278.out), (by (with_reducible repeat (first | refine blk_drewN ?_ _ | refine blk_drew ?_ | refine blk_alloc ?_ _)); exact BK271.out), (by (with_reducible repeat (first | refine blk_drewN ?_ _ | refine blk_drew ?_ | refine blk_alloc ?_ _)); exact BK294.out), GW294.out, GE294.out, NB271_294.out, NB294_271.out, (by repeat (first | (with_reducible first | exact HB.out | apply below_alloc | apply pw_below_drewN | apply below_drew1 | refine below_set ?_ GE271.out | refine below_set ?_ GE294.out) | exact HB.out))⟩)
                                                      · skip
                                                        rintro _ w52 ⟨hS_, h0_, h1_, h2_⟩
                                                        have n0_ : Aside0 (Kd.R (Kd.int .u8) 5 w52 w.heap.size (fun _ => True) (.slice Ao44 y276.length co44) y276) := ⟨h0_⟩
                                                        have n1_ : Aside0 (w52.heap[gb271]? = some (.cells #[.int .i64 0, .int .i64 0, .int .u32 0, .int .u32 0, .int .i64 0, .int .i64 0, .int .i64 0, .slice none 0 0] 25 (0, 0))) := ⟨h1_⟩
                                                        have n2_ : Aside0 (Below w.heap.size w w52) := ⟨h2_⟩
                                                        clear HO278
                                                        clear BK271
                                                        clear HB
                                                        clear h0_ h1_ h2_
                                                        have HO278 := n0_
                                                        have BK271 := n1_
                                                        have HB := n2_
                                                        clear n0_ n1_ n2_
                                                        have hHeld : w52.cell? ⟨ad272.block, ad272.off + 13, none⟩ = some (.int .u8 (rd l0 13)) := hS_
                                                        refine norm_ (a' := ?_) ?_ ?_
                                                        rotate_left
                                                        · simp only [putAll, Act.put, List.setIfInBounds_toArray, List.set_cons_zero, List.set_cons_succ]
                                                          rfl
                                                        refine two_ (i := 23) (j := 27) (Ni := some 78) (Nj := some 11) #[true, true, true, true, true, true, true, true, true, true, true, true, true, true, true, true, true, true, true, true, true, true, true, true, false, true, false, false, false] #[true, true, true, true, true, true, true, true, true, true, true, true, true, true, true, true, true, true, true, true, true, true, true, false, false, true, false, true, false] rfl rfl rfl rfl (two_of HT_.out (by kernel_rfl)) (by decide) (by decide) (fun K hK => ?_) (fun K hK => ?_)
                                                        · skip
                                                          refine goes_ Try.func37 (by kernel_rfl) rfl #[.slice A51 ((l0.take 16).drop 14).length (c0 - 14)] (by rfl) rfl rfl (by (try simp only [List.map_toArray, List.map_cons, List.map_nil]); first | done | (rw [show ((l0.take 16).drop 14).length = (16 - 14) from (by rw [List.length_drop, List.length_take]; have h_ : (16 : Int) ≤ (l0.length : Int) := of_decide_eq_true (by first | (with_reducible assumption) | assumption); omega)] <;> rfl) | rfl | (simp only [List.length_drop, List.length_take]; rfl)) ?_
                                                          with_reducible refine (drawbridgeref19_get.calls _ _ ((l0.take 16).drop 14) t293 _ ?side1 ?side2 A37.out).mono ?_
                                                          (case side1 => repeat (first | exact (Kd.C_below HR292.out HB.out) | (with_reducible refine Kd.C_alloc ?_ _) | (with_reducible refine Kd.C_drewN ?_ _) | (with_reducible refine Kd.C_drew ?_)))
                                                          (case side2 => exact HC292.out)
                                                          rintro e w' ⟨rfl, ⟨nd, rfl⟩⟩
                                                          refine ⟨_, rfl, ?_⟩
                                                          refine hK.out _ _ (((HB.out.cell (World.block_lt_of_cell? w _ hw291_0)).trans hw291_0)) (fun hHeld => ?_)
                                                          clear hK K
                                                          refine norm_ (a' := ?_) ?_ ?_
                                                          rotate_left
                                                          · show Act.put _ (some 78) _ = _
                                                            simp only [Act.put, List.setIfInBounds_toArray, List.set_cons_zero, List.set_cons_succ, i64_w, i32_w]
                                                            rfl
                                                          refine pure_ (i := 24) (N := some 79) (v := ?_) (a' := ?_) #[true, true, true, true, true, true, true, true, true, true, true, true, true, true, true, true, true, true, true, true, true, true, true, true, true, true, false, false, false] rfl rfl (any_of HT_.out (by kernel_rfl)) (fun _ _ _ h => h) (Or.inl ⟨by rfl, ?_⟩) ?_ ?_
                                                          rotate_left
                                                          · intro w'
                                                            go_simp
                                                            with_reducible rfl
                                                          rotate_left
                                                          · simp only [Act.put, List.setIfInBounds_toArray, List.set_cons_zero, List.set_cons_succ, i64_w, i32_w]
                                                            rfl
                                                          refine pure_ (i := 26) (N := some 81) (v := ?_) (a' := ?_) #[true, true, true, true, true, true, true, true, true, true, true, true, true, true, true, true, true, true, true, true, true, true, true, true, true, true, true, false, false] rfl rfl (any_of HT_.out (by kernel_rfl)) (fun _ _ _ h => h) (Or.inl ⟨by rfl, ?_⟩) ?_ ?_
                                                          rotate_left
                                                          · intro w'
                                                            go_simp
                                                            with_reducible rfl
                                                          rotate_left
                                                          · simp only [Act.put, List.setIfInBounds_toArray, List.set_cons_zero, List.set_cons_succ, i64_w, i32_w]
                                                            rfl
                                                          exact norm_ (by first | (simp only [putAll, Act.put, List.setIfInBounds_toArray, List.set_cons_zero, List.set_cons_succ]; done) | (simp only [putAll, Act.put, List.setIfInBounds_toArray, List.set_cons_zero, List.set_cons_succ]; rfl)) (hJ2_6_10_14_23 () _ ⟨hHeld, (by (with_reducible repeat (first | apply Kd.R_alloc | apply Kd.R_drewN | apply Kd.R_drew)); exact HO278.out), (by (with_reducible repeat (first | refine blk_drewN ?_ _ | refine blk_drew ?_ | refine blk_alloc ?_ _)); exact BK271.out), (by repeat (first | (with_reducible first | exact HB.out | apply below_alloc | apply pw_below_drewN | apply below_drew1 | refine below_set ?_ GE271.out) | exact HB.out))⟩)
                                                        · skip
                                                          refine box_step ?hg (N := 11) ?hd (cs := #[.int .i64 0, .int .i64 0, .int .u32 0, .int .u32 0, .int .i64 0, .int .i64 0, .int .i64 0, .slice none 0 0]) (t := 25) ?hr ?_; (case hd => rfl); (case hg => rfl); (case hr => first | (go_simp; done) | (go_simp; rfl))
                                                          intro gb294 hg w53 hbox hb
                                                          have n0_ := Aside0.mk (Kd.R_below (by (with_reducible repeat (first | apply Kd.R_alloc | apply Kd.R_drewN | apply Kd.R_drew)); exact HO278.out) hb)
                                                          have n1_ := Aside0.mk (blk_below (g := gb271) (o := .cells #[.int .i64 0, .int .i64 0, .int .u32 0, .int .u32 0, .int .i64 0, .int .i64 0, .int .i64 0, .slice none 0 0] 25 (0, 0)) (by (with_reducible repeat (first | refine blk_drewN ?_ _ | refine blk_drew ?_ | refine blk_alloc ?_ _)); exact BK271.out) hb)
                                                          have n2_ := Aside0.mk (below_step (by repeat (first | (with_reducible first | exact HB.out | apply below_alloc | apply pw_below_drewN | apply below_drew1 | refine below_set ?_ GE271.out) | exact HB.out)) hb)
                                                          have n3_ := Aside0.mk (hbox)
                                                          have n4_ := Aside0.mk ((by rw [hg]; exact (below_size (by repeat (first | (with_reducible first | exact HB.out | apply below_alloc | apply pw_below_drewN | apply below_drew1 | refine below_set ?_ GE271.out) | exact HB.out))) : w.heap.size ≤ gb294))
                                                          have n5_ := Aside0.mk ((by rw [hg]; exact (below_size (by repeat (first | (with_reducible first | exact HB.out | apply below_alloc | apply pw_below_drewN | apply below_drew1 | refine below_set ?_ GE271.out) | exact HB.out))) : w.heap.size ≤ gb294))
                                                          have n6_ := Aside0.mk ((by rw [hg]; exact Nat.ne_of_lt (blk_lt (g := gb271) (o := .cells #[.int .i64 0, .int .i64 0, .int .u32 0, .int .u32 0, .int .i64 0, .int .i64 0, .int .i64 0, .slice none 0 0] 25 (0, 0)) (by (with_reducible repeat (first | refine blk_drewN ?_ _ | refine blk_drew ?_ | refine blk_alloc ?_ _)); exact BK271.out)) : gb271 ≠ gb294))
                                                          have n7_ := Aside0.mk ((by rw [hg]; exact Nat.ne_of_gt (blk_lt (g := gb271) (o := .cells #[.int .i64 0, .int .i64 0, .int .u32 0, .int .u32 0, .int .i64 0, .int .i64 0, .int .i64 0, .slice none 0 0] 25 (0, 0)) (by (with_reducible repeat (first | refine blk_drewN ?_ _ | refine blk_drew ?_ | refine blk_alloc ?_ _)); exact BK271.out)) : gb294 ≠ gb271))
                                                          clear HO278
                                                          clear BK271
                                                          clear HB
                                                          have HO278 := n0_
                                                          have BK271 := n1_
                                                          have HB := n2_
                                                          have BK294 := n3_
                                                          have GW294 := n4_
                                                          have GE294 := n5_
                                                          have NB271_294 := n6_
                                                          have NB294_271 := n7_
                                                          clear n0_ n1_ n2_ n3_ n4_ n5_ n6_ n7_
                                                          clear hb hbox hg
                                                          refine hK.out _ _ (((HB.out.cell (World.block_lt_of_cell? w _ hw291_0)).trans hw291_0)) (fun hHeld => ?_)
                                                          clear hK K
                                                          refine norm_ (a' := ?_) ?_ ?_
                                                          rotate_left
                                                          · show Act.put _ (some 11) _ = _
                                                            simp only [Act.put, List.setIfInBounds_toArray, List.set_cons_zero, List.set_cons_succ, i64_w, i32_w]
                                                            rfl
                                                          exact norm_ (by first | (simp only [putAll, Act.put, List.setIfInBounds_toArray, List.set_cons_zero, List.set_cons_succ]; done) | (simp only [putAll, Act.put, List.setIfInBounds_toArray, List.set_cons_zero, List.set_cons_succ]; rfl)) (hJ2_6_10_14_27 (gb294) _ ⟨hHeld, (by (with_reducible repeat (first | apply Kd.R_alloc | apply Kd.R_drewN | apply Kd.R_drew)); exact HO278.out), (by (with_reducible repeat (first | refine blk_drewN ?_ _ | refine blk_drew ?_ | refine blk_alloc ?_ _)); exact BK271.out), (by (with_reducible repeat (first | refine blk_drewN ?_ _ | refine blk_drew ?_ | refine blk_alloc ?_ _)); exact BK294.out), GW294.out, GE294.out, NB271_294.out, NB294_271.out, (by repeat (first | (with_reducible first | exact HB.out | apply below_alloc | apply pw_below_drewN | apply below_drew1 | refine below_set ?_ GE271.out | refine below_set ?_ GE294.out) | exact HB.out))⟩)
                                                    · skip
                                                      rintro gb294 w53 ⟨hS_, h0_, h1_, h2_, h3_, h4_, h5_, h6_, h7_⟩
                                                      have n0_ : Aside0 (Kd.R (Kd.int .u8) 5 w53 w.heap.size (fun _ => True) (.slice Ao44 y276.length co44) y276) := ⟨h0_⟩
                                                      have n1_ : Aside0 (w53.heap[gb271]? = some (.cells #[.int .i64 0, .int .i64 0, .int .u32 0, .int .u32 0, .int .i64 0, .int .i64 0, .int .i64 0, .slice none 0 0] 25 (0, 0))) := ⟨h1_⟩
                                                      have n2_ : Aside0 (w53.heap[gb294]? = some (.cells #[.int .i64 0, .int .i64 0, .int .u32 0, .int .u32 0, .int .i64 0, .int .i64 0, .int .i64 0, .slice none 0 0] 25 (0, 0))) := ⟨h2_⟩
                                                      have n3_ : Aside0 (w.heap.size ≤ gb294) := ⟨h3_⟩
                                                      have n4_ : Aside0 (w.heap.size ≤ gb294) := ⟨h4_⟩
                                                      have n5_ : Aside0 (gb271 ≠ gb294) := ⟨h5_⟩
                                                      have n6_ : Aside0 (gb294 ≠ gb271) := ⟨h6_⟩
                                                      have n7_ : Aside0 (Below w.heap.size w w53) := ⟨h7_⟩
                                                      clear HO278
                                                      clear BK271
                                                      clear HB
                                                      clear h0_ h1_ h2_ h3_ h4_ h5_ h6_ h7_
                                                      have HO278 := n0_
                                                      have BK271 := n1_
                                                      have BK294 := n2_
                                                      have GW294 := n3_
                                                      have GE294 := n4_
                                                      have NB271_294 := n5_
                                                      have NB294_271 := n6_
                                                      have HB := n7_
                                                      clear n0_ n1_ n2_ n3_ n4_ n5_ n6_ n7_
                                                      have hHeld : w53.cell? ⟨ad272.block, ad272.off + 13, none⟩ = some (.int .u8 (rd l0 13)) := hS_
                                                      refine norm_ (a' := ?_) ?_ ?_
                                                      rotate_left
                                                      · simp only [putAll, Act.put, List.setIfInBounds_toArray, List.set_cons_zero, List.set_cons_succ]
                                                        rfl
                                                      refine one_ (i := 23) (N := some 78) #[true, true, true, true, true, true, true, true, true, true, true, true, true, true, true, true, true, true, true, true, true, true, true, true, false, true, false, true, false] rfl rfl (one_of HT_.out (by kernel_rfl)) (by decide) (fun K hK => ?_)
                                                      refine goes_ Try.func37 (by kernel_rfl) rfl #[.slice A51 ((l0.take 16).drop 14).length (c0 - 14)] (by rfl) rfl rfl (by (try simp only [List.map_toArray, List.map_cons, List.map_nil]); first | done | (rw [show ((l0.take 16).drop 14).length = (16 - 14) from (by rw [List.length_drop, List.length_take]; have h_ : (16 : Int) ≤ (l0.length : Int) := of_decide_eq_true (by first | (with_reducible assumption) | assumption); omega)] <;> rfl) | rfl | (simp only [List.length_drop, List.length_take]; rfl)) ?_
                                                      with_reducible refine (drawbridgeref19_get.calls _ _ ((l0.take 16).drop 14) t293 _ ?side1 ?side2 A37.out).mono ?_
                                                      (case side1 => repeat (first | exact (Kd.C_below HR292.out HB.out) | (with_reducible refine Kd.C_alloc ?_ _) | (with_reducible refine Kd.C_drewN ?_ _) | (with_reducible refine Kd.C_drew ?_)))
                                                      (case side2 => exact HC292.out)
                                                      rintro e w' ⟨rfl, ⟨nd, rfl⟩⟩
                                                      refine ⟨_, rfl, ?_⟩
                                                      refine hK.out _ _ (((HB.out.cell (World.block_lt_of_cell? w _ hw291_0)).trans hw291_0)) (fun hHeld => ?_)
                                                      clear hK K
                                                      refine norm_ (a' := ?_) ?_ ?_
                                                      rotate_left
                                                      · show Act.put _ (some 78) _ = _
                                                        simp only [Act.put, List.setIfInBounds_toArray, List.set_cons_zero, List.set_cons_succ, i64_w, i32_w]
                                                        rfl
                                                      refine pure_ (i := 24) (N := some 79) (v := ?_) (a' := ?_) #[true, true, true, true, true, true, true, true, true, true, true, true, true, true, true, true, true, true, true, true, true, true, true, true, true, true, false, true, false] rfl rfl (any_of HT_.out (by kernel_rfl)) (fun _ _ _ h => h) (Or.inl ⟨by rfl, ?_⟩) ?_ ?_
                                                      rotate_left
                                                      · intro w'
                                                        go_simp
                                                        with_reducible rfl
                                                      rotate_left
                                                      · simp only [Act.put, List.setIfInBounds_toArray, List.set_cons_zero, List.set_cons_succ, i64_w, i32_w]
                                                        rfl
                                                      refine pure_ (i := 26) (N := some 81) (v := ?_) (a' := ?_) #[true, true, true, true, true, true, true, true, true, true, true, true, true, true, true, true, true, true, true, true, true, true, true, true, true, true, true, true, false] rfl rfl (any_of HT_.out (by kernel_rfl)) (fun _ _ _ h => h) (Or.inl ⟨by rfl, ?_⟩) ?_ ?_
                                                      rotate_left
                                                      · intro w'
                                                        go_simp
                                                        with_reducible rfl
                                                      rotate_left
                                                      · simp only [Act.put, List.setIfInBounds_toArray, List.set_cons_zero, List.set_cons_succ, i64_w, i32_w]
                                                        rfl
                                                      exact norm_ (by first | (simp only [putAll, Act.put, List.setIfInBounds_toArray, List.set_cons_zero, List.set_cons_succ]; done) | (simp only [putAll, Act.put, List.setIfInBounds_toArray, List.set_cons_zero, List.set_cons_succ]; rfl)) (hJ2_6_10_14_23_27 (gb294) _ ⟨hHeld, (by (with_reducible repeat (first | apply Kd.R_alloc | apply Kd.R_drewN | apply Kd.R_drew)); exact HO278.out), (by (with_reducible repeat (first | refine blk_drewN ?_ _ | refine blk_drew ?_ | refine blk_alloc ?_ _)); exact BK271.out), (by (with_reducible repeat (first | refine blk_drewN ?_ _ | refine blk_drew ?_ | refine blk_alloc ?_ _)); exact BK294.out), GW294.out, GE294.out, NB271_294.out, NB294_271.out, (by repeat (first | (with_reducible first | exact HB.out | apply below_alloc | apply pw_below_drewN | apply below_drew1 | refine below_set ?_ GE271.out | refine below_set ?_ GE294.out) | exact HB.out))⟩)
                                                  · skip
                                                    rintro _ w52 ⟨hS_, h0_, h1_, h2_⟩
                                                    have n0_ : Aside0 (Kd.R (Kd.int .u8) 5 w52 w.heap.size (fun _ => True) (.slice Ao44 y276.length co44) y276) := ⟨h0_⟩
                                                    have n1_ : Aside0 (w52.heap[gb271]? = some (.cells #[.int .i64 0, .int .i64 0, .int .u32 0, .int .u32 0, .int .i64 0, .int .i64 0, .int .i64 0, .slice none 0 0] 25 (0, 0))) := ⟨h1_⟩
                                                    have n2_ : Aside0 (Below w.heap.size w w52) := ⟨h2_⟩
                                                    clear HO278
                                                    clear BK271
                                                    clear HB
                                                    clear h0_ h1_ h2_
                                                    have HO278 := n0_
                                                    have BK271 := n1_
                                                    have HB := n2_
                                                    clear n0_ n1_ n2_
                                                    have hHeld : w52.cell? ⟨ad272.block, ad272.off + 13, none⟩ = some (.int .u8 (rd l0 13)) := hS_
                                                    refine norm_ (a' := ?_) ?_ ?_
                                                    rotate_left
                                                    · simp only [putAll, Act.put, List.setIfInBounds_toArray, List.set_cons_zero, List.set_cons_succ]
                                                      rfl
                                                    refine one_ (i := 27) (N := some 11) #[true, true, true, true, true, true, true, true, true, true, true, true, true, true, true, true, true, true, true, true, true, true, true, true, true, true, true, true, false] rfl rfl (one_of HT_.out (by kernel_rfl)) (by decide) (fun K hK => ?_)
                                                    refine box_step ?hg (N := 11) ?hd (cs := #[.int .i64 0, .int .i64 0, .int .u32 0, .int .u32 0, .int .i64 0, .int .i64 0, .int .i64 0, .slice none 0 0]) (t := 25) ?hr ?_; (case hd => rfl); (case hg => rfl); (case hr => first | (go_simp; done) | (go_simp; rfl))
                                                    intro gb294 hg w53 hbox hb
                                                    have n0_ := Aside0.mk (Kd.R_below (by (with_reducible repeat (first | apply Kd.R_alloc | apply Kd.R_drewN | apply Kd.R_drew)); exact HO278.out) hb)
                                                    have n1_ := Aside0.mk (blk_below (g := gb271) (o := .cells #[.int .i64 0, .int .i64 0, .int .u32 0, .int .u32 0, .int .i64 0, .int .i64 0, .int .i64 0, .slice none 0 0] 25 (0, 0)) (by (with_reducible repeat (first | refine blk_drewN ?_ _ | refine blk_drew ?_ | refine blk_alloc ?_ _)); exact BK271.out) hb)
                                                    have n2_ := Aside0.mk (below_step (by repeat (first | (with_reducible first | exact HB.out | apply below_alloc | apply pw_below_drewN | apply below_drew1 | refine below_set ?_ GE271.out) | exact HB.out)) hb)
                                                    have n3_ := Aside0.mk (hbox)
                                                    have n4_ := Aside0.mk ((by rw [hg]; exact (below_size (by repeat (first | (with_reducible first | exact HB.out | apply below_alloc | apply pw_below_drewN | apply below_drew1 | refine below_set ?_ GE271.out) | exact HB.out))) : w.heap.size ≤ gb294))
                                                    have n5_ := Aside0.mk ((by rw [hg]; exact (below_size (by repeat (first | (with_reducible first | exact HB.out | apply below_alloc | apply pw_below_drewN | apply below_drew1 | refine below_set ?_ GE271.out) | exact HB.out))) : w.heap.size ≤ gb294))
                                                    have n6_ := Aside0.mk ((by rw [hg]; exact Nat.ne_of_lt (blk_lt (g := gb271) (o := .cells #[.int .i64 0, .int .i64 0, .int .u32 0, .int .u32 0, .int .i64 0, .int .i64 0, .int .i64 0, .slice none 0 0] 25 (0, 0)) (by (with_reducible repeat (first | refine blk_drewN ?_ _ | refine blk_drew ?_ | refine blk_alloc ?_ _)); exact BK271.out)) : gb271 ≠ gb294))
                                                    have n7_ := Aside0.mk ((by rw [hg]; exact Nat.ne_of_gt (blk_lt (g := gb271) (o := .cells #[.int .i64 0, .int .i64 0, .int .u32 0, .int .u32 0, .int .i64 0, .int .i64 0, .int .i64 0, .slice none 0 0] 25 (0, 0)) (by (with_reducible repeat (first | refine blk_drewN ?_ _ | refine blk_drew ?_ | refine blk_alloc ?_ _)); exact BK271.out)) : gb294 ≠ gb271))
                                                    clear HO278
                                                    clear BK271
                                                    clear HB
                                                    have HO278 := n0_
                                                    have BK271 := n1_
                                                    have HB := n2_
                                                    have BK294 := n3_
                                                    have GW294 := n4_
                                                    have GE294 := n5_
                                                    have NB271_294 := n6_
                                                    have NB294_271 := n7_
                                                    clear n0_ n1_ n2_ n3_ n4_ n5_ n6_ n7_
                                                    clear hb hbox hg
                                                    refine hK.out _ _ (((HB.out.cell (World.block_lt_of_cell? w _ hw291_0)).trans hw291_0)) (fun hHeld => ?_)
                                                    clear hK K
                                                    refine norm_ (a' := ?_) ?_ ?_
                                                    rotate_left
                                                    · show Act.put _ (some 11) _ = _
                                                      simp only [Act.put, List.setIfInBounds_toArray, List.set_cons_zero, List.set_cons_succ, i64_w, i32_w]
                                                      rfl
                                                    exact norm_ (by first | (simp only [putAll, Act.put, List.setIfInBounds_toArray, List.set_cons_zero, List.set_cons_succ]; done) | (simp only [putAll, Act.put, List.setIfInBounds_toArray, List.set_cons_zero, List.set_cons_succ]; rfl)) (hJ2_6_10_14_23_27 (gb294) _ ⟨hHeld, (by (with_reducible repeat (first | apply Kd.R_alloc | apply Kd.R_drewN | apply Kd.R_drew)); exact HO278.out), (by (with_reducible repeat (first | refine blk_drewN ?_ _ | refine blk_drew ?_ | refine blk_alloc ?_ _)); exact BK271.out), (by (with_reducible repeat (first | refine blk_drewN ?_ _ | refine blk_drew ?_ | refine blk_alloc ?_ _)); exact BK294.out), GW294.out, GE294.out, NB271_294.out, NB294_271.out, (by repeat (first | (with_reducible first | exact HB.out | apply below_alloc | apply pw_below_drewN | apply below_drew1 | refine below_set ?_ GE271.out | refine below_set ?_ GE294.out) | exact HB.out))⟩)
                                                rintro gb294 w53 ⟨hS_, h0_, h1_, h2_, h3_, h4_, h5_, h6_, h7_⟩
                                                have n0_ : Aside0 (Kd.R (Kd.int .u8) 5 w53 w.heap.size (fun _ => True) (.slice Ao44 y276.length co44) y276) := ⟨h0_⟩
                                                have n1_ : Aside0 (w53.heap[gb271]? = some (.cells #[.int .i64 0, .int .i64 0, .int .u32 0, .int .u32 0, .int .i64 0, .int .i64 0, .int .i64 0, .slice none 0 0] 25 (0, 0))) := ⟨h1_⟩
                                                have n2_ : Aside0 (w53.heap[gb294]? = some (.cells #[.int .i64 0, .int .i64 0, .int .u32 0, .int .u32 0, .int .i64 0, .int .i64 0, .int .i64 0, .slice none 0 0] 25 (0, 0))) := ⟨h2_⟩
                                                have n3_ : Aside0 (w.heap.size ≤ gb294) := ⟨h3_⟩
                                                have n4_ : Aside0 (w.heap.size ≤ gb294) := ⟨h4_⟩
                                                have n5_ : Aside0 (gb271 ≠ gb294) := ⟨h5_⟩
                                                have n6_ : Aside0 (gb294 ≠ gb271) := ⟨h6_⟩
                                                have n7_ : Aside0 (Below w.heap.size w w53) := ⟨h7_⟩
                                                clear HO278
                                                clear BK271
                                                clear HB
                                                clear h0_ h1_ h2_ h3_ h4_ h5_ h6_ h7_
                                                have HO278 := n0_
                                                have BK271 := n1_
                                                have BK294 := n2_
                                                have GW294 := n3_
                                                have GE294 := n4_
                                                have NB271_294 := n5_
                                                have NB294_271 := n6_
                                                have HB := n7_
                                                clear n0_ n1_ n2_ n3_ n4_ n5_ n6_ n7_
                                                have hHeld : w53.cell? ⟨ad272.block, ad272.off + 13, none⟩ = some (.int .u8 (rd l0 13)) := hS_
                                                refine norm_ (a' := ?_) ?_ ?_
                                                rotate_left
                                                · simp only [putAll, Act.put, List.setIfInBounds_toArray, List.set_cons_zero, List.set_cons_succ]
                                                  rfl
                                                refine one_ (i := 28) (N := none) #[true, true, true, true, true, true, true, true, true, true, true, true, true, true, true, true, true, true, true, true, true, true, true, true, true, true, true, true, true] rfl rfl (one_of HT_.out (by kernel_rfl)) (by decide) (fun K hK => ?_)
                                                have hs54 : w53.cell? ⟨gb294, 0, none⟩ = some (.int .i64 0) := (blk_cell BK294.out 0).trans rfl
                                                have hfs54 := blk_frozen BK294.out 0
                                                have hns54_0 := NB271_294.out
                                                have hms54_0 := NB294_271.out
                                                have hs55 : w53.cell? ⟨gb294, 1, none⟩ = some (.int .i64 0) := (blk_cell BK294.out 1).trans rfl
                                                have hfs55 := blk_frozen BK294.out 1
                                                have hns55_0 := NB271_294.out
                                                have hms55_0 := NB294_271.out
                                                have hs56 : w53.cell? ⟨gb294, 2, none⟩ = some (.int .u32 0) := (blk_cell BK294.out 2).trans rfl
                                                have hfs56 := blk_frozen BK294.out 2
                                                have hns56_0 := NB271_294.out
                                                have hms56_0 := NB294_271.out
                                                have hs57 : w53.cell? ⟨gb294, 3, none⟩ = some (.int .u32 0) := (blk_cell BK294.out 3).trans rfl
                                                have hfs57 := blk_frozen BK294.out 3
                                                have hns57_0 := NB271_294.out
                                                have hms57_0 := NB294_271.out
                                                have hs58 : w53.cell? ⟨gb294, 4, none⟩ = some (.int .i64 0) := (blk_cell BK294.out 4).trans rfl
                                                have hfs58 := blk_frozen BK294.out 4
                                                have hns58_0 := NB271_294.out
                                                have hms58_0 := NB294_271.out
                                                have hs59 : w53.cell? ⟨gb294, 5, none⟩ = some (.int .i64 0) := (blk_cell BK294.out 5).trans rfl
                                                have hfs59 := blk_frozen BK294.out 5
                                                have hns59_0 := NB271_294.out
                                                have hms59_0 := NB294_271.out
                                                have hs60 : w53.cell? ⟨gb294, 6, none⟩ = some (.int .i64 0) := (blk_cell BK294.out 6).trans rfl
                                                have hfs60 := blk_frozen BK294.out 6
                                                have hns60_0 := NB271_294.out
                                                have hms60_0 := NB294_271.out
                                                have hs61 : w53.cell? ⟨gb294, 7, none⟩ = some (.slice none 0 0) := (blk_cell BK294.out 7).trans rfl
                                                have hfs61 := blk_frozen BK294.out 7
                                                have hns61_0 := NB271_294.out
                                                have hms61_0 := NB294_271.out
                                                refine skip_ (w1 := ?_) (by rfl) rfl ?_ ?_
                                                rotate_left
                                                · go_simp
                                                  rfl
                                                refine hK.out _ _ (((cell_far (p := ⟨gb294, _, none⟩) (by first | exact Nat.ne_of_lt (Nat.lt_of_lt_of_le (by have := World.block_lt_of_cell? _ _ hw291_0; first | rwa [add_block] at this | exact this) GW294.out) | (rw [add_block]; exact Nat.ne_of_lt (Nat.lt_of_lt_of_le (by have := World.block_lt_of_cell? _ _ hw291_0; first | rwa [add_block] at this | exact this) GW294.out)) | (show (Addr.add _ _).block ≠ _; rw [add_block]; exact Nat.ne_of_lt (Nat.lt_of_lt_of_le (by have := World.block_lt_of_cell? _ _ hw291_0; first | rwa [add_block] at this | exact this) GW294.out)) | (dsimp only; exact Nat.ne_of_lt (Nat.lt_of_lt_of_le (by have := World.block_lt_of_cell? _ _ hw291_0; first | rwa [add_block] at this | exact this) GW294.out))) _).trans (((cell_far (p := ⟨gb294, _, none⟩) (by first | exact Nat.ne_of_lt (Nat.lt_of_lt_of_le (by have := World.block_lt_of_cell? _ _ hw291_0; first | rwa [add_block] at this | exact this) GW294.out) | (rw [add_block]; exact Nat.ne_of_lt (Nat.lt_of_lt_of_le (by have := World.block_lt_of_cell? _ _ hw291_0; first | rwa [add_block] at this | exact this) GW294.out)) | (show (Addr.add _ _).block ≠ _; rw [add_block]; exact Nat.ne_of_lt (Nat.lt_of_lt_of_le (by have := World.block_lt_of_cell? _ _ hw291_0; first | rwa [add_block] at this | exact this) GW294.out)) | (dsimp only; exact Nat.ne_of_lt (Nat.lt_of_lt_of_le (by have := World.block_lt_of_cell? _ _ hw291_0; first | rwa [add_block] at this | exact this) GW294.out))) _).trans (((cell_far (p := ⟨gb294, _, none⟩) (by first | exact Nat.ne_of_lt (Nat.lt_of_lt_of_le (by have := World.block_lt_of_cell? _ _ hw291_0; first | rwa [add_block] at this | exact this) GW294.out) | (rw [add_block]; exact Nat.ne_of_lt (Nat.lt_of_lt_of_le (by have := World.block_lt_of_cell? _ _ hw291_0; first | rwa [add_block] at this | exact this) GW294.out)) | (show (Addr.add _ _).block ≠ _; rw [add_block]; exact Nat.ne_of_lt (Nat.lt_of_lt_of_le (by have := World.block_lt_of_cell? _ _ hw291_0; first | rwa [add_block] at this | exact this) GW294.out)) | (dsimp only; exact Nat.ne_of_lt (Nat.lt_of_lt_of_le (by have := World.block_lt_of_cell? _ _ hw291_0; first | rwa [add_block] at this | exact this) GW294.out))) _).trans (((cell_far (p := ⟨gb294, _, none⟩) (by first | exact Nat.ne_of_lt (Nat.lt_of_lt_of_le (by have := World.block_lt_of_cell? _ _ hw291_0; first | rwa [add_block] at this | exact this) GW294.out) | (rw [add_block]; exact Nat.ne_of_lt (Nat.lt_of_lt_of_le (by have := World.block_lt_of_cell? _ _ hw291_0; first | rwa [add_block] at this | exact this) GW294.out)) | (show (Addr.add _ _).block ≠ _; rw [add_block]; exact Nat.ne_of_lt (Nat.lt_of_lt_of_le (by have := World.block_lt_of_cell? _ _ hw291_0; first | rwa [add_block] at this | exact this) GW294.out)) | (dsimp only; exact Nat.ne_of_lt (Nat.lt_of_lt_of_le (by have := World.block_lt_of_cell? _ _ hw291_0; first | rwa [add_block] at this | exact this) GW294.out))) _).trans (((cell_far (p := ⟨gb294, _, none⟩) (by first | exact Nat.ne_of_lt (Nat.lt_of_lt_of_le (by have := World.block_lt_of_cell? _ _ hw291_0; first | rwa [add_block] at this | exact this) GW294.out) | (rw [add_block]; exact Nat.ne_of_lt (Nat.lt_of_lt_of_le (by have := World.block_lt_of_cell? _ _ hw291_0; first | rwa [add_block] at this | exact this) GW294.out)) | (show (Addr.add _ _).block ≠ _; rw [add_block]; exact Nat.ne_of_lt (Nat.lt_of_lt_of_le (by have := World.block_lt_of_cell? _ _ hw291_0; first | rwa [add_block] at this | exact this) GW294.out)) | (dsimp only; exact Nat.ne_of_lt (Nat.lt_of_lt_of_le (by have := World.block_lt_of_cell? _ _ hw291_0; first | rwa [add_block] at this | exact this) GW294.out))) _).trans (((cell_far (p := ⟨gb294, _, none⟩) (by first | exact Nat.ne_of_lt (Nat.lt_of_lt_of_le (by have := World.block_lt_of_cell? _ _ hw291_0; first | rwa [add_block] at this | exact this) GW294.out) | (rw [add_block]; exact Nat.ne_of_lt (Nat.lt_of_lt_of_le (by have := World.block_lt_of_cell? _ _ hw291_0; first | rwa [add_block] at this | exact this) GW294.out)) | (show (Addr.add _ _).block ≠ _; rw [add_block]; exact Nat.ne_of_lt (Nat.lt_of_lt_of_le (by have := World.block_lt_of_cell? _ _ hw291_0; first | rwa [add_block] at this | exact this) GW294.out)) | (dsimp only; exact Nat.ne_of_lt (Nat.lt_of_lt_of_le (by have := World.block_lt_of_cell? _ _ hw291_0; first | rwa [add_block] at this | exact this) GW294.out))) _).trans (((cell_far (p := ⟨gb294, _, none⟩) (by first | exact Nat.ne_of_lt (Nat.lt_of_lt_of_le (by have := World.block_lt_of_cell? _ _ hw291_0; first | rwa [add_block] at this | exact this) GW294.out) | (rw [add_block]; exact Nat.ne_of_lt (Nat.lt_of_lt_of_le (by have := World.block_lt_of_cell? _ _ hw291_0; first | rwa [add_block] at this | exact this) GW294.out)) | (show (Addr.add _ _).block ≠ _; rw [add_block]; exact Nat.ne_of_lt (Nat.lt_of_lt_of_le (by have := World.block_lt_of_cell? _ _ hw291_0; first | rwa [add_block] at this | exact this) GW294.out)) | (dsimp only; exact Nat.ne_of_lt (Nat.lt_of_lt_of_le (by have := World.block_lt_of_cell? _ _ hw291_0; first | rwa [add_block] at this | exact this) GW294.out))) _).trans (((cell_far (p := ⟨gb294, _, none⟩) (by first | exact Nat.ne_of_lt (Nat.lt_of_lt_of_le (by have := World.block_lt_of_cell? _ _ hw291_0; first | rwa [add_block] at this | exact this) GW294.out) | (rw [add_block]; exact Nat.ne_of_lt (Nat.lt_of_lt_of_le (by have := World.block_lt_of_cell? _ _ hw291_0; first | rwa [add_block] at this | exact this) GW294.out)) | (show (Addr.add _ _).block ≠ _; rw [add_block]; exact Nat.ne_of_lt (Nat.lt_of_lt_of_le (by have := World.block_lt_of_cell? _ _ hw291_0; first | rwa [add_block] at this | exact this) GW294.out)) | (dsimp only; exact Nat.ne_of_lt (Nat.lt_of_lt_of_le (by have := World.block_lt_of_cell? _ _ hw291_0; first | rwa [add_block] at this | exact this) GW294.out))) _).trans (hHeld))))))))))))))))) (fun hHeld => ?_)
                                                clear hK K
                                                refine done_ (done_of HT_.out (by kernel_rfl)) ?_
                                                try go_wp2_with (first | ((with_reducible refine gate_dst (N := 82) rfl ?_); refine Kd.R_lit (Kd.int .u8) _ 5 ?hg (N := 82) ?hd (xs := ([] : List Int)) (inner := []) (ok := fun _ => True) (okp := fun _ => True) ?hr ?hp (fun _ hk => hk) trivial (Below.refl _ _) (Nat.le_refl _) (by simp) ?_; (case hd => rfl); (case hg => rfl); (case hr => first | (go_simp; done) | (go_simp; rfl)); (case hp => exact (Reps.none _ _)); intro v296 w62 ho63 hb hg_ hnew_; clear hg_ hnew_; (first | rw [← Ny295.out] at ho63 | (simp only [Int.reduceToNat] at ho63; rw [← Ny295.out] at ho63)); have n0_ := Aside0.mk (Kd.R_elder' (by (with_reducible repeat (first | apply Kd.R_alloc | apply Kd.R_drewN | apply Kd.R_drew)); exact (Kd.R_mono (Kd.R_far (p := ⟨gb294, 7, none⟩) (Kd.R_far (p := ⟨gb294, 6, none⟩) (Kd.R_far (p := ⟨gb294, 5, none⟩) (Kd.R_far (p := ⟨gb294, 4, none⟩) (Kd.R_far (p := ⟨gb294, 3, none⟩) (Kd.R_far (p := ⟨gb294, 2, none⟩) (Kd.R_far (p := ⟨gb294, 1, none⟩) (Kd.R_far (p := ⟨gb294, 0, none⟩) (Kd.R_types HO278.out BK294.out (by decide)) (fun _ hk => hk.2) (.int .i64 (wrap64 (t284)))) (fun _ hk => hk.2) (.int .i64 (wrap64 (t286)))) (fun _ hk => hk.2) (.int .u32 ((t288) % 4294967296))) (fun _ hk => hk.2) (.int .u32 ((t290) % 4294967296))) (fun _ hk => hk.2) (.int .i64 (wrap64 (Int.tmod (rd l0 13) 64)))) (fun _ hk => hk.2) (.int .i64 (wrap64 (t293)))) (fun _ hk => hk.2) (.int .i64 t281)) (fun _ hk => hk.2) (.slice none 0 0)) (fun _ h_ => h_.1))) (Kd.R_base ho63) hb); have n1_ := Aside0.mk (Kd.R_lower (Kd.R_new' ho63 (Kd.R_lt (by (with_reducible repeat (first | apply Kd.R_alloc | apply Kd.R_drewN | apply Kd.R_drew)); exact (Kd.R_mono (Kd.R_far (p := ⟨gb294, 7, none⟩) (Kd.R_far (p := ⟨gb294, 6, none⟩) (Kd.R_far (p := ⟨gb294, 5, none⟩) (Kd.R_far (p := ⟨gb294, 4, none⟩) (Kd.R_far (p := ⟨gb294, 3, none⟩) (Kd.R_far (p := ⟨gb294, 2, none⟩) (Kd.R_far (p := ⟨gb294, 1, none⟩) (Kd.R_far (p := ⟨gb294, 0, none⟩) (Kd.R_types HO278.out BK294.out (by decide)) (fun _ hk => hk.2) (.int .i64 (wrap64 (t284)))) (fun _ hk => hk.2) (.int .i64 (wrap64 (t286)))) (fun _ hk => hk.2) (.int .u32 ((t288) % 4294967296))) (fun _ hk => hk.2) (.int .u32 ((t290) % 4294967296))) (fun _ hk => hk.2) (.int .i64 (wrap64 (Int.tmod (rd l0 13) 64)))) (fun _ hk => hk.2) (.int .i64 (wrap64 (t293)))) (fun _ hk => hk.2) (.int .i64 t281)) (fun _ hk => hk.2) (.slice none 0 0)) (fun _ h_ => h_.1))))) (below_size (by repeat (first | (with_reducible first | exact HB.out | apply below_alloc | apply pw_below_drewN | apply below_drew1 | refine below_set ?_ GE271.out | refine below_set ?_ GE294.out) | exact HB.out)))); have n2_ := Aside0.mk (blk_below (g := gb271) (o := .cells #[.int .i64 0, .int .i64 0, .int .u32 0, .int .u32 0, .int .i64 0, .int .i64 0, .int .i64 0, .slice none 0 0] 25 (0, 0)) (by (with_reducible repeat (first | refine blk_drewN ?_ _ | refine blk_drew ?_ | refine blk_alloc ?_ _)); refine blk_far ?_ NB271_294.out _; (with_reducible repeat (first | refine blk_drewN ?_ _ | refine blk_drew ?_ | refine blk_alloc ?_ _)); refine blk_far ?_ NB271_294.out _; (with_reducible repeat (first | refine blk_drewN ?_ _ | refine blk_drew ?_ | refine blk_alloc ?_ _)); refine blk_far ?_ NB271_294.out _; (with_reducible repeat (first | refine blk_drewN ?_ _ | refine blk_drew ?_ | refine blk_alloc ?_ _)); refine blk_far ?_ NB271_294.out _; (with_reducible repeat (first | refine blk_drewN ?_ _ | refine blk_drew ?_ | refine blk_alloc ?_ _)); refine blk_far ?_ NB271_294.out _; (with_reducible repeat (first | refine blk_drewN ?_ _ | refine blk_drew ?_ | refine blk_alloc ?_ _)); refine blk_far ?_ NB271_294.out _; (with_reducible repeat (first | refine blk_drewN ?_ _ | refine blk_drew ?_ | refine blk_alloc ?_ _)); refine blk_far ?_ NB271_294.out _; (with_reducible repeat (first | refine blk_drewN ?_ _ | refine blk_drew ?_ | refine blk_alloc ?_ _)); refine blk_far ?_ NB271_294.out _; (with_reducible repeat (first | refine blk_drewN ?_ _ | refine blk_drew ?_ | refine blk_alloc ?_ _)); exact BK271.out) hb); have n3_ := Aside0.mk (blk_below (g := gb294) (o := .cells #[.int .i64 (wrap64 (t284)), .int .i64 (wrap64 (t286)), .int .u32 ((t288) % 4294967296), .int .u32 ((t290) % 4294967296), .int .i64 (wrap64 (Int.tmod (rd l0 13) 64)), .int .i64 (wrap64 (t293)), .int .i64 t281, .slice none 0 0] 25 (0, 0)) (by (with_reducible repeat (first | refine blk_drewN ?_ _ | refine blk_drew ?_ | refine blk_alloc ?_ _)); refine blk_put (cs := #[.int .i64 (wrap64 (t284)), .int .i64 (wrap64 (t286)), .int .u32 ((t288) % 4294967296), .int .u32 ((t290) % 4294967296), .int .i64 (wrap64 (Int.tmod (rd l0 13) 64)), .int .i64 (wrap64 (t293)), .int .i64 t281, .slice none 0 0]) ?_ 7 _ rfl; (with_reducible repeat (first | refine blk_drewN ?_ _ | refine blk_drew ?_ | refine blk_alloc ?_ _)); refine blk_put (cs := #[.int .i64 (wrap64 (t284)), .int .i64 (wrap64 (t286)), .int .u32 ((t288) % 4294967296), .int .u32 ((t290) % 4294967296), .int .i64 (wrap64 (Int.tmod (rd l0 13) 64)), .int .i64 (wrap64 (t293)), .int .i64 0, .slice none 0 0]) ?_ 6 _ rfl; (with_reducible repeat (first | refine blk_drewN ?_ _ | refine blk_drew ?_ | refine blk_alloc ?_ _)); refine blk_put (cs := #[.int .i64 (wrap64 (t284)), .int .i64 (wrap64 (t286)), .int .u32 ((t288) % 4294967296), .int .u32 ((t290) % 4294967296), .int .i64 (wrap64 (Int.tmod (rd l0 13) 64)), .int .i64 0, .int .i64 0, .slice none 0 0]) ?_ 5 _ rfl; (with_reducible repeat (first | refine blk_drewN ?_ _ | refine blk_drew ?_ | refine blk_alloc ?_ _)); refine blk_put (cs := #[.int .i64 (wrap64 (t284)), .int .i64 (wrap64 (t286)), .int .u32 ((t288) % 4294967296), .int .u32 ((t290) % 4294967296), .int .i64 0, .int .i64 0, .int .i64 0, .slice none 0 0]) ?_ 4 _ rfl; (with_reducible repeat (first | refine blk_drewN ?_ _ | refine blk_drew ?_ | refine blk_alloc ?_ _)); refine blk_put (cs := #[.int .i64 (wrap64 (t284)), .int .i64 (wrap64 (t286)), .int .u32 ((t288) % 4294967296), .int .u32 0, .int .i64 0, .int .i64 0, .int .i64 0, .slice none 0 0]) ?_ 3 _ rfl; (with_reducible repeat (first | refine blk_drewN ?_ _ | refine blk_drew ?_ | refine blk_alloc ?_ _)); refine blk_put (cs := #[.int .i64 (wrap64 (t284)), .int .i64 (wrap64 (t286)), .int .u32 0, .int .u32 0, .int .i64 0, .int .i64 0, .int .i64 0, .slice none 0 0]) ?_ 2 _ rfl; (with_reducible repeat (first | refine blk_drewN ?_ _ | refine blk_drew ?_ | refine blk_alloc ?_ _)); refine blk_put (cs := #[.int .i64 (wrap64 (t284)), .int .i64 0, .int .u32 0, .int .u32 0, .int .i64 0, .int .i64 0, .int .i64 0, .slice none 0 0]) ?_ 1 _ rfl; (with_reducible repeat (first | refine blk_drewN ?_ _ | refine blk_drew ?_ | refine blk_alloc ?_ _)); refine blk_put (cs := #[.int .i64 0, .int .i64 0, .int .u32 0, .int .u32 0, .int .i64 0, .int .i64 0, .int .i64 0, .slice none 0 0]) ?_ 0 _ rfl; (with_reducible repeat (first | refine blk_drewN ?_ _ | refine blk_drew ?_ | refine blk_alloc ?_ _)); exact BK294.out) hb); have n4_ := Aside0.mk (below_step (by repeat (first | (with_reducible first | exact HB.out | apply below_alloc | apply pw_below_drewN | apply below_drew1 | refine below_set ?_ GE271.out | refine below_set ?_ GE294.out) | exact HB.out)) hb); clear HO278; clear BK271; clear BK294; clear HB; have HO278 := n0_; have HO297 := n1_; have BK271 := n2_; have BK294 := n3_; have HB := n4_; clear n0_ n1_ n2_ n3_ n4_; clear hb ho63; obtain ⟨i064, hi064, _, hsz64, _⟩ := info_parts info5; obtain ⟨A64, hcut64, hA64, hC64⟩ := print_drop_of (P := Try.prog) (Value.int .u8) 0 23 5 .i64 Try.underlying23 hi064 hsz64 (some ad272) c0 l0 (ji38) (of_decide_eq_true (by first | (with_reducible assumption) | assumption)) (of_decide_eq_true (by first | (with_reducible assumption) | assumption)) HC0.out; have HR298 := Aside0.mk (Kd.C_of_reads (h1 := fun _ => rfl) (hA64 _ (Kd.reads_of_C HR0.out))); have HC298 := Aside0.mk hC64; clear hA64 hC64 hi064 hsz64) | ((with_reducible refine gate_builtin (b := .append) (xs := #[.tmp 82, .tmp 85]) rfl ?_); at_builtin; refine Kd.R_append_rows (Kd.int .u8) (w0 := w) w.heap.size rfl (.tmp 82) (.tmp 85) 23 5 (.int .u8 0) 1 rfl Try.underlying23 info5 rfl (by decide) (by omega) v296 y295 (l0.drop ((ji38) : Int).toNat) _ _ _ (fun k_ => some k_ ≠ (.slice Ao44 y276.length co44 : Value).ownBlock) (fun _ => False) rfl rfl ?aO ?aR (fun _ _ h => h) (fun _ h => h.elim) ?aF ?aB ?aS ?aL ?_; (case aR => first | (rw [← show (l0.drop ((ji38) : Int).toNat).length = (l0.length - (ji38).toNat) from List.length_drop]; repeat (first | exact (Kd.C_below HR298.out HB.out) | (with_reducible refine Kd.C_alloc ?_ _) | (with_reducible refine Kd.C_drewN ?_ _) | (with_reducible refine Kd.C_drew ?_))) | (repeat (first | exact (Kd.C_below HR298.out HB.out) | (with_reducible refine Kd.C_alloc ?_ _) | (with_reducible refine Kd.C_drewN ?_ _) | (with_reducible refine Kd.C_drew ?_)))); (case aB => exact (by repeat (first | (with_reducible first | exact HB.out | apply below_alloc | apply pw_below_drewN | apply below_drew1 | refine below_set ?_ GE271.out | refine below_set ?_ GE294.out) | exact HB.out))); (case aF => exact (fun k_ hk => Kd.fresh' (Kd.R_lt (by (with_reducible repeat (first | apply Kd.R_alloc | apply Kd.R_drewN | apply Kd.R_drew)); exact HO278.out)) k_ hk)); (case aO => exact (by (with_reducible repeat (first | apply Kd.R_alloc | apply Kd.R_drewN | apply Kd.R_drew)); exact Kd.R_mono HO297.out (fun _ hk => hk.2))); (case aS => exact (below_size (by repeat (first | (with_reducible first | exact HB.out | apply below_alloc | apply pw_below_drewN | apply below_drew1 | refine below_set ?_ GE271.out | refine below_set ?_ GE294.out) | exact HB.out)))); (case aL => have := LMc41.out; have hlx_ := (show (l0.drop ((ji38) : Int).toNat).length = (l0.length - (ji38).toNat) from List.length_drop); omega); intro v300 w65 ho hb hg hat; rw [← Ny299.out] at ho; have n0_ := Aside0.mk (blk_grown (g := gb271) (o := .cells #[.int .i64 0, .int .i64 0, .int .u32 0, .int .u32 0, .int .i64 0, .int .i64 0, .int .i64 0, .slice none 0 0] 25 (0, 0)) (by (with_reducible repeat (first | refine blk_drewN ?_ _ | refine blk_drew ?_ | refine blk_alloc ?_ _)); exact BK271.out) hg (Kd.R_ne HO297.out BK271.out (by decide))); have n1_ := Aside0.mk (Kd.R_after (ok := (fun _ => True)) (by (with_reducible repeat (first | apply Kd.R_alloc | apply Kd.R_drewN | apply Kd.R_drew)); exact HO278.out) hg hat); have n2_ := Aside0.mk (blk_grown (g := gb294) (o := .cells #[.int .i64 (wrap64 (t284)), .int .i64 (wrap64 (t286)), .int .u32 ((t288) % 4294967296), .int .u32 ((t290) % 4294967296), .int .i64 (wrap64 (Int.tmod (rd l0 13) 64)), .int .i64 (wrap64 (t293)), .int .i64 t281, .slice none 0 0] 25 (0, 0)) (by (with_reducible repeat (first | refine blk_drewN ?_ _ | refine blk_drew ?_ | refine blk_alloc ?_ _)); exact BK294.out) hg (Kd.R_ne HO297.out BK294.out (by decide))); have n3_ := Aside0.mk (hb); have n4_ := Aside0.mk (ho); clear BK271; clear HO278; clear BK294; clear HB; clear HO297; have BK271 := n0_; have HO278 := n1_; have BK294 := n2_; have HB := n3_; have HO301 := n4_; clear n0_ n1_ n2_ n3_ n4_; clear ho hb hg hat; obtain ⟨Ao66, co66, eo66⟩ := Kd.R_slice HO301.out; subst eo66; have hnb67 := NB294_271.out; have hnc67 := NB271_294.out; have hcz68_0 : w65.cell? ⟨gb294, 0, none⟩ = some (.int .i64 (wrap64 (t284))) := (blk_cell BK294.out 0).trans rfl; have hcz68_1 : w65.cell? ⟨gb294, 1, none⟩ = some (.int .i64 (wrap64 (t286))) := (blk_cell BK294.out 1).trans rfl; have hcz68_2 : w65.cell? ⟨gb294, 2, none⟩ = some (.int .u32 ((t288) % 4294967296)) := (blk_cell BK294.out 2).trans rfl; have hcz68_3 : w65.cell? ⟨gb294, 3, none⟩ = some (.int .u32 ((t290) % 4294967296)) := (blk_cell BK294.out 3).trans rfl; have hcz68_4 : w65.cell? ⟨gb294, 4, none⟩ = some (.int .i64 (wrap64 (Int.tmod (rd l0 13) 64))) := (blk_cell BK294.out 4).trans rfl; have hcz68_5 : w65.cell? ⟨gb294, 5, none⟩ = some (.int .i64 (wrap64 (t293))) := (blk_cell BK294.out 5).trans rfl; have hcz68_6 : w65.cell? ⟨gb294, 6, none⟩ = some (.int .i64 t281) := (blk_cell BK294.out 6).trans rfl; have hcz68_7 : w65.cell? ⟨gb294, 7, none⟩ = some (.slice none 0 0) := (blk_cell BK294.out 7).trans rfl; have hfz68_0 := blk_frozen BK294.out 0; have hfz68_1 := blk_frozen BK294.out 1; have hfz68_2 := blk_frozen BK294.out 2; have hfz68_3 := blk_frozen BK294.out 3; have hfz68_4 := blk_frozen BK294.out 4; have hfz68_5 := blk_frozen BK294.out 5; have hfz68_6 := blk_frozen BK294.out 6; have hfz68_7 := blk_frozen BK294.out 7; have hcz69_0 : w65.cell? ⟨gb271, 0, none⟩ = some (.int .i64 0) := (blk_cell BK271.out 0).trans rfl; have hcz69_1 : w65.cell? ⟨gb271, 1, none⟩ = some (.int .i64 0) := (blk_cell BK271.out 1).trans rfl; have hcz69_2 : w65.cell? ⟨gb271, 2, none⟩ = some (.int .u32 0) := (blk_cell BK271.out 2).trans rfl; have hcz69_3 : w65.cell? ⟨gb271, 3, none⟩ = some (.int .u32 0) := (blk_cell BK271.out 3).trans rfl; have hcz69_4 : w65.cell? ⟨gb271, 4, none⟩ = some (.int .i64 0) := (blk_cell BK271.out 4).trans rfl; have hcz69_5 : w65.cell? ⟨gb271, 5, none⟩ = some (.int .i64 0) := (blk_cell BK271.out 5).trans rfl; have hcz69_6 : w65.cell? ⟨gb271, 6, none⟩ = some (.int .i64 0) := (blk_cell BK271.out 6).trans rfl; have hcz69_7 : w65.cell? ⟨gb271, 7, none⟩ = some (.slice none 0 0) := (blk_cell BK271.out 7).trans rfl; have hfz69_0 := blk_frozen BK271.out 0; have hfz69_1 := blk_frozen BK271.out 1; have hfz69_2 := blk_frozen BK271.out 2; have hfz69_3 := blk_frozen BK271.out 3; have hfz69_4 := blk_frozen BK271.out 4; have hfz69_5 := blk_frozen BK271.out 5; have hfz69_6 := blk_frozen BK271.out 6; have hfz69_7 := blk_frozen BK271.out 7))
                                                refine bodyPost_ret (results_ct rfl _ _ gb271 25 #[.int .i64 (wrap64 (t284)), .int .i64 (wrap64 (t286)), .int .u32 ((t288) % 4294967296), .int .u32 ((t290) % 4294967296), .int .i64 (wrap64 (Int.tmod (rd l0 13) 64)), .int .i64 (wrap64 (t293)), .int .i64 t281, .slice Ao66 y299.length co66] (0, 0) _ rfl (by (with_reducible repeat (first | refine blk_drewN ?_ _ | refine blk_drew ?_ | refine blk_alloc ?_ _)); refine blk_put (cs := #[.int .i64 (wrap64 (t284)), .int .i64 (wrap64 (t286)), .int .u32 ((t288) % 4294967296), .int .u32 ((t290) % 4294967296), .int .i64 (wrap64 (Int.tmod (rd l0 13) 64)), .int .i64 (wrap64 (t293)), .int .i64 t281, .slice none 0 0]) ?_ 7 _ rfl; (with_reducible repeat (first | refine blk_drewN ?_ _ | refine blk_drew ?_ | refine blk_alloc ?_ _)); refine blk_put (cs := #[.int .i64 (wrap64 (t284)), .int .i64 (wrap64 (t286)), .int .u32 ((t288) % 4294967296), .int .u32 ((t290) % 4294967296), .int .i64 (wrap64 (Int.tmod (rd l0 13) 64)), .int .i64 (wrap64 (t293)), .int .i64 0, .slice none 0 0]) ?_ 6 _ rfl; (with_reducible repeat (first | refine blk_drewN ?_ _ | refine blk_drew ?_ | refine blk_alloc ?_ _)); refine blk_put (cs := #[.int .i64 (wrap64 (t284)), .int .i64 (wrap64 (t286)), .int .u32 ((t288) % 4294967296), .int .u32 ((t290) % 4294967296), .int .i64 (wrap64 (Int.tmod (rd l0 13) 64)), .int .i64 0, .int .i64 0, .slice none 0 0]) ?_ 5 _ rfl; (with_reducible repeat (first | refine blk_drewN ?_ _ | refine blk_drew ?_ | refine blk_alloc ?_ _)); refine blk_put (cs := #[.int .i64 (wrap64 (t284)), .int .i64 (wrap64 (t286)), .int .u32 ((t288) % 4294967296), .int .u32 ((t290) % 4294967296), .int .i64 0, .int .i64 0, .int .i64 0, .slice none 0 0]) ?_ 4 _ rfl; (with_reducible repeat (first | refine blk_drewN ?_ _ | refine blk_drew ?_ | refine blk_alloc ?_ _)); refine blk_put (cs := #[.int .i64 (wrap64 (t284)), .int .i64 (wrap64 (t286)), .int .u32 ((t288) % 4294967296), .int .u32 0, .int .i64 0, .int .i64 0, .int .i64 0, .slice none 0 0]) ?_ 3 _ rfl; (with_reducible repeat (first | refine blk_drewN ?_ _ | refine blk_drew ?_ | refine blk_alloc ?_ _)); refine blk_put (cs := #[.int .i64 (wrap64 (t284)), .int .i64 (wrap64 (t286)), .int .u32 0, .int .u32 0, .int .i64 0, .int .i64 0, .int .i64 0, .slice none 0 0]) ?_ 2 _ rfl; (with_reducible repeat (first | refine blk_drewN ?_ _ | refine blk_drew ?_ | refine blk_alloc ?_ _)); refine blk_put (cs := #[.int .i64 (wrap64 (t284)), .int .i64 0, .int .u32 0, .int .u32 0, .int .i64 0, .int .i64 0, .int .i64 0, .slice none 0 0]) ?_ 1 _ rfl; (with_reducible repeat (first | refine blk_drewN ?_ _ | refine blk_drew ?_ | refine blk_alloc ?_ _)); refine blk_put (cs := #[.int .i64 0, .int .i64 0, .int .u32 0, .int .u32 0, .int .i64 0, .int .i64 0, .int .i64 0, .slice none 0 0]) ?_ 0 _ rfl; (with_reducible repeat (first | refine blk_drewN ?_ _ | refine blk_drew ?_ | refine blk_alloc ?_ _)); refine blk_far ?_ NB271_294.out _; (with_reducible repeat (first | refine blk_drewN ?_ _ | refine blk_drew ?_ | refine blk_alloc ?_ _)); exact BK271.out) Try.underlying25 rfl (by kernel_rfl)) rfl ?_
                                                exact ⟨_, by first | rfl | (simp [errW_none, errW_some] <;> rfl) | (simp only [← hji38]; first | rfl | (simp [errW_none, errW_some] <;> rfl)) | (simp [*, errW_none, errW_some] <;> rfl), by (with_reducible repeat (first | apply Kd.R_alloc | apply Kd.R_drewN | apply Kd.R_drew)); exact Kd.R_mono (Kd.R_far (p := ⟨gb271, 7, none⟩) (Kd.R_far (p := ⟨gb271, 6, none⟩) (Kd.R_far (p := ⟨gb271, 5, none⟩) (Kd.R_far (p := ⟨gb271, 4, none⟩) (Kd.R_far (p := ⟨gb271, 3, none⟩) (Kd.R_far (p := ⟨gb271, 2, none⟩) (Kd.R_far (p := ⟨gb271, 1, none⟩) (Kd.R_far (p := ⟨gb271, 0, none⟩) (Kd.R_far (p := ⟨gb294, 7, none⟩) (Kd.R_types (Kd.R_types HO301.out BK294.out (by decide)) BK271.out (by decide)) (fun _ hk => hk.1.2) (.slice Ao66 y299.length co66)) (fun _ hk => hk.2) (.int .i64 (wrap64 (t284)))) (fun _ hk => hk.2) (.int .i64 (wrap64 (t286)))) (fun _ hk => hk.2) (.int .u32 ((t288) % 4294967296))) (fun _ hk => hk.2) (.int .u32 ((t290) % 4294967296))) (fun _ hk => hk.2) (.int .i64 (wrap64 (Int.tmod (rd l0 13) 64)))) (fun _ hk => hk.2) (.int .i64 (wrap64 (t293)))) (fun _ hk => hk.2) (.int .i64 t281)) (fun _ hk => hk.2) (.slice Ao66 y299.length co66)) (fun _ hk => trivial), by repeat (first | (with_reducible first | exact HB.out | apply below_alloc | apply pw_below_drewN | apply below_drew1 | refine below_set ?_ GE271.out | refine below_set ?_ GE294.out) | exact HB.out)⟩
                                              · rw [if_neg c41] at H
                                                exact absurd H (by simp)
                                            · rw [if_neg c39] at H
                                              exact absurd H (by simp)
                                          · rw [if_neg c36] at H
                                            exact absurd H (by simp)
                                        · rw [if_neg c35] at H
                                          exact absurd H (by simp)
                                      · rw [if_neg c34] at H
                                        exact absurd H (by simp)
                                    · rw [if_neg c32] at H
                                      exact absurd H (by simp)
                                  · rw [if_neg c31] at H
                                    exact absurd H (by simp)
                                · rw [if_neg c29] at H
                                  exact absurd H (by simp)
                              · rw [if_neg c28] at H
                                exact absurd H (by simp)
                            · rw [if_neg c26] at H
                              exact absurd H (by simp)
                          · rw [if_neg c25] at H
                            exact absurd H (by simp)
                        · rw [if_neg c23] at H
                          exact absurd H (by simp)
                      · replace c22 := Bool.eq_false_iff.mpr c22
                        subst c22
                        have H1 : (some (0, 0, 0, 0, 0, 0, 0, ([] : List Int), 161)) = some (r1, r2, r3, r4, r5, r6, r7, r8, r9) := by rw [if_neg (show ¬ (false = true) by decide)] at H; exact H
                        clear H
                        have H := H1
                        clear H1
                        simp only [Option.some.injEq, Prod.mk.injEq] at H
                        obtain ⟨rfl, rfl, rfl, rfl, rfl, rfl, rfl, rfl, rfl⟩ := H
                        go_wp2_with (first | ((with_reducible refine gate_callee (f := 28) rfl ?_); refine goesL_ (some 39) rfl rfl Try.func28 (by kernel_rfl) rfl #[.int .u32 a1, .int .u32 a2, .int .i64 6, .int .i64 (l0.length : Int)] rfl (by (try simp only [List.map_toArray, List.map_cons, List.map_nil]); first | done | rfl | (simp only [List.length_drop, List.length_take]; rfl)) ?_; (with_reducible refine (drawbridgeref15_Pseudo.calls a1 a2 6 (l0.length : Int) t273 _ A15.out).mono ?_); rintro e w70 ⟨v274, rfl, ho0, hb⟩; refine ⟨_, rfl, ?_⟩; have n0_ := Aside0.mk (Kd.R_lower ho0 (below_size (by repeat (first | (with_reducible first | exact HB.out | apply below_alloc | apply pw_below_drewN | apply below_drew1 | refine below_set ?_ GE271.out) | exact HB.out)))); have n1_ := Aside0.mk (blk_below (g := gb271) (o := .cells #[.int .i64 0, .int .i64 0, .int .u32 0, .int .u32 0, .int .i64 0, .int .i64 0, .int .i64 0, .slice none 0 0] 25 (0, 0)) (by (with_reducible repeat (first | refine blk_drewN ?_ _ | refine blk_drew ?_ | refine blk_alloc ?_ _)); exact BK271.out) hb); have n2_ := Aside0.mk (below_step (by repeat (first | (with_reducible first | exact HB.out | apply below_alloc | apply pw_below_drewN | apply below_drew1 | refine below_set ?_ GE271.out) | exact HB.out)) hb); clear BK271; clear HB; have HO275 := n0_; have BK271 := n1_; have HB := n2_; clear n0_ n1_ n2_; (try clear hb); (try clear hb2); (try clear hk); (try clear hi); (try clear ho0)) | ((with_reducible refine gate_builtin (b := .append) (xs := #[.tmp 39, .tmp 40]) rfl ?_); at_builtin; refine Kd.R_append_rows (Kd.int .u8) (w0 := w) w.heap.size rfl (.tmp 39) (.tmp 40) 23 5 (.int .u8 0) 1 rfl Try.underlying23 info5 rfl (by decide) (by omega) v274 t273 l0 _ _ _ (fun _ => True) (fun _ => False) rfl rfl ?aO ?aR (fun _ _ h => h) (fun _ h => h.elim) ?aF ?aB ?aS ?aL ?_; (case aR => repeat (first | exact (Kd.C_below HR0.out HB.out) | (with_reducible refine Kd.C_alloc ?_ _) | (with_reducible refine Kd.C_drewN ?_ _) | (with_reducible refine Kd.C_drew ?_))); (case aB => exact (by repeat (first | (with_reducible first | exact HB.out | apply below_alloc | apply pw_below_drewN | apply below_drew1 | refine below_set ?_ GE271.out) | exact HB.out))); (case aF => exact (fun _ _ => trivial)); (case aO => exact (by (with_reducible repeat (first | apply Kd.R_alloc | apply Kd.R_drewN | apply Kd.R_drew)); exact HO275.out)); (case aS => exact (below_size (by repeat (first | (with_reducible first | exact HB.out | apply below_alloc | apply pw_below_drewN | apply below_drew1 | refine below_set ?_ GE271.out) | exact HB.out)))); (case aL => have := LMc16.out; omega); intro v277 w71 ho hb hg hat; rw [← Ny276.out] at ho; have n0_ := Aside0.mk (blk_grown (g := gb271) (o := .cells #[.int .i64 0, .int .i64 0, .int .u32 0, .int .u32 0, .int .i64 0, .int .i64 0, .int .i64 0, .slice none 0 0] 25 (0, 0)) (by (with_reducible repeat (first | refine blk_drewN ?_ _ | refine blk_drew ?_ | refine blk_alloc ?_ _)); exact BK271.out) hg (Kd.R_ne HO275.out BK271.out (by decide))); have n1_ := Aside0.mk (hb); have n2_ := Aside0.mk (ho); clear BK271; clear HB; clear HO275; have BK271 := n0_; have HB := n1_; have HO278 := n2_; clear n0_ n1_ n2_; clear ho hb hg hat; obtain ⟨Ao72, co72, eo72⟩ := Kd.R_slice HO278.out; subst eo72) | ((with_reducible refine gate_callee (f := 35) rfl ?_); refine goesL_ (some 42) rfl rfl Try.func35 (by kernel_rfl) rfl #[.slice Ao72 y276.length co72] rfl (by (try simp only [List.map_toArray, List.map_cons, List.map_nil]); first | done | rfl | (simp only [List.length_drop, List.length_take]; rfl)) ?_; (with_reducible refine (drawbridgeref15_Right.calls _ _ y276 true _ ?side1 ?side2 A17.out).mono ?_); (case side1 => repeat (first | exact (Kd.R_reads' HO278.out).2.2 | (with_reducible refine Kd.C_alloc ?_ _) | (with_reducible refine Kd.C_drewN ?_ _) | (with_reducible refine Kd.C_drew ?_))); (case side2 => exact (Kd.R_reads' HO278.out).2.1); rintro e w' ⟨rfl, ⟨nd, rfl⟩⟩; refine ⟨_, rfl, ?_⟩; (try (rw [drewN_self w71]; generalize hq_ : World.drewN w71 _ = w71; have n0_ : Aside0 (Kd.R (Kd.int .u8) 5 w71 w.heap.size (fun _ => True) (.slice Ao72 y276.length co72) y276) := ⟨by rw [← hq_]; exact (by (with_reducible repeat (first | apply Kd.R_alloc | apply Kd.R_drewN | apply Kd.R_drew)); exact HO278.out)⟩; have n1_ : Aside0 (w71.heap[gb271]? = some (.cells #[.int .i64 0, .int .i64 0, .int .u32 0, .int .u32 0, .int .i64 0, .int .i64 0, .int .i64 0, .slice none 0 0] 25 (0, 0))) := ⟨by rw [← hq_]; exact (by (with_reducible repeat (first | refine blk_drewN ?_ _ | refine blk_drew ?_ | refine blk_alloc ?_ _)); exact BK271.out)⟩; have n2_ : Aside0 (Below w.heap.size w w71) := ⟨by rw [← hq_]; exact (by repeat (first | (with_reducible first | exact HB.out | apply below_alloc | apply pw_below_drewN | apply below_drew1 | refine below_set ?_ GE271.out) | exact HB.out))⟩; clear HO278 BK271 HB hq_; have HO278 := n0_; have BK271 := n1_; have HB := n2_; clear n0_ n1_ n2_)); obtain ⟨i073, hi073, _, hsz73, _⟩ := info_parts info5; obtain ⟨A73, hcut73, hA73, hC73⟩ := print_mid_of (P := Try.prog) (Value.int .u8) 0 23 5 .i64 .i64 Try.underlying23 hi073 hsz73 (some ad272) c0 l0 20 (((Int.tdiv (rd l0 12) 16) % 256) * 4) (by omega) (by first | omega | exact of_decide_eq_true (by first | (with_reducible assumption) | assumption)) (of_decide_eq_true (by first | (with_reducible assumption) | assumption)) HC0.out; have HR280 := Aside0.mk (Kd.C_of_reads (h1 := fun _ => rfl) (hA73 _ (Kd.reads_of_C HR0.out))); have HC280 := Aside0.mk hC73; clear hA73 hC73 hi073 hsz73) | ((with_reducible refine gate_callee (f := 36) rfl ?_); refine goesL_ (some 49) rfl rfl Try.func36 (by kernel_rfl) rfl #[.slice A73 ((l0.take ((((Int.tdiv (rd l0 12) 16) % 256) * 4) : Int).toNat).drop 20).length (c0 - 20)] rfl (by (try simp only [List.map_toArray, List.map_cons, List.map_nil]); first | done | (rw [show ((l0.take ((((Int.tdiv (rd l0 12) 16) % 256) * 4) : Int).toNat).drop 20).length = ((((Int.tdiv (rd l0 12) 16) % 256) * 4).toNat - 20) from (by rw [List.length_drop, List.length_take]; have h_ : ((((Int.tdiv (rd l0 12) 16) % 256) * 4) : Int) ≤ (l0.length : Int) := of_decide_eq_true (by first | (with_reducible assumption) | assumption); omega)] <;> rfl) | rfl | (simp only [List.length_drop, List.length_take]; rfl)) ?_; (with_reducible refine (drawbridgeref19_mss.calls kj7 _ _ ((l0.take ((((Int.tdiv (rd l0 12) 16) % 256) * 4) : Int).toNat).drop 20) t281 false _ ?side1 ?side2 A21.out).mono ?_); (case side1 => repeat (first | exact (Kd.C_below HR280.out HB.out) | (with_reducible refine Kd.C_alloc ?_ _) | (with_reducible refine Kd.C_drewN ?_ _) | (with_reducible refine Kd.C_drew ?_))); (case side2 => exact HC280.out); rintro e w' ⟨rfl, ⟨nd, rfl⟩⟩; refine ⟨_, rfl, ?_⟩; (try (rw [drewN_self w71]; generalize hq_ : World.drewN w71 _ = w71; have n0_ : Aside0 (Kd.R (Kd.int .u8) 5 w71 w.heap.size (fun _ => True) (.slice Ao72 y276.length co72) y276) := ⟨by rw [← hq_]; exact (by (with_reducible repeat (first | apply Kd.R_alloc | apply Kd.R_drewN | apply Kd.R_drew)); exact HO278.out)⟩; have n1_ : Aside0 (w71.heap[gb271]? = some (.cells #[.int .i64 0, .int .i64 0, .int .u32 0, .int .u32 0, .int .i64 0, .int .i64 0, .int .i64 0, .slice none 0 0] 25 (0, 0))) := ⟨by rw [← hq_]; exact (by (with_reducible repeat (first | refine blk_drewN ?_ _ | refine blk_drew ?_ | refine blk_alloc ?_ _)); exact BK271.out)⟩; have n2_ : Aside0 (Below w.heap.size w w71) := ⟨by rw [← hq_]; exact (by repeat (first | (with_reducible first | exact HB.out | apply below_alloc | apply pw_below_drewN | apply below_drew1 | refine below_set ?_ GE271.out) | exact HB.out))⟩; clear HO278 BK271 HB hq_; have HO278 := n0_; have BK271 := n1_; have HB := n2_; clear n0_ n1_ n2_)); have hcz74_0 : w71.cell? ⟨gb271, 0, none⟩ = some (.int .i64 0) := (blk_cell BK271.out 0).trans rfl; have hcz74_1 : w71.cell? ⟨gb271, 1, none⟩ = some (.int .i64 0) := (blk_cell BK271.out 1).trans rfl; have hcz74_2 : w71.cell? ⟨gb271, 2, none⟩ = some (.int .u32 0) := (blk_cell BK271.out 2).trans rfl; have hcz74_3 : w71.cell? ⟨gb271, 3, none⟩ = some (.int .u32 0) := (blk_cell BK271.out 3).trans rfl; have hcz74_4 : w71.cell? ⟨gb271, 4, none⟩ = some (.int .i64 0) := (blk_cell BK271.out 4).trans rfl; have hcz74_5 : w71.cell? ⟨gb271, 5, none⟩ = some (.int .i64 0) := (blk_cell BK271.out 5).trans rfl; have hcz74_6 : w71.cell? ⟨gb271, 6, none⟩ = some (.int .i64 0) := (blk_cell BK271.out 6).trans rfl; have hcz74_7 : w71.cell? ⟨gb271, 7, none⟩ = some (.slice none 0 0) := (blk_cell BK271.out 7).trans rfl; have hfz74_0 := blk_frozen BK271.out 0; have hfz74_1 := blk_frozen BK271.out 1; have hfz74_2 := blk_frozen BK271.out 2; have hfz74_3 := blk_frozen BK271.out 3; have hfz74_4 := blk_frozen BK271.out 4; have hfz74_5 := blk_frozen BK271.out 5; have hfz74_6 := blk_frozen BK271.out 6; have hfz74_7 := blk_frozen BK271.out 7))
                        refine bodyPost_ret (results_ct rfl _ _ gb271 25 #[.int .i64 0, .int .i64 0, .int .u32 0, .int .u32 0, .int .i64 0, .int .i64 0, .int .i64 0, .slice none 0 0] (0, 0) _ rfl (by (with_reducible repeat (first | refine blk_drewN ?_ _ | refine blk_drew ?_ | refine blk_alloc ?_ _)); refine blk_put (cs := #[.int .i64 0, .int .i64 0, .int .u32 0, .int .u32 0, .int .i64 0, .int .i64 0, .int .i64 0, .slice none 0 0]) ?_ 7 _ rfl; (with_reducible repeat (first | refine blk_drewN ?_ _ | refine blk_drew ?_ | refine blk_alloc ?_ _)); refine blk_put (cs := #[.int .i64 0, .int .i64 0, .int .u32 0, .int .u32 0, .int .i64 0, .int .i64 0, .int .i64 0, .slice none 0 0]) ?_ 6 _ rfl; (with_reducible repeat (first | refine blk_drewN ?_ _ | refine blk_drew ?_ | refine blk_alloc ?_ _)); refine blk_put (cs := #[.int .i64 0, .int .i64 0, .int .u32 0, .int .u32 0, .int .i64 0, .int .i64 0, .int .i64 0, .slice none 0 0]) ?_ 5 _ rfl; (with_reducible repeat (first | refine blk_drewN ?_ _ | refine blk_drew ?_ | refine blk_alloc ?_ _)); refine blk_put (cs := #[.int .i64 0, .int .i64 0, .int .u32 0, .int .u32 0, .int .i64 0, .int .i64 0, .int .i64 0, .slice none 0 0]) ?_ 4 _ rfl; (with_reducible repeat (first | refine blk_drewN ?_ _ | refine blk_drew ?_ | refine blk_alloc ?_ _)); refine blk_put (cs := #[.int .i64 0, .int .i64 0, .int .u32 0, .int .u32 0, .int .i64 0, .int .i64 0, .int .i64 0, .slice none 0 0]) ?_ 3 _ rfl; (with_reducible repeat (first | refine blk_drewN ?_ _ | refine blk_drew ?_ | refine blk_alloc ?_ _)); refine blk_put (cs := #[.int .i64 0, .int .i64 0, .int .u32 0, .int .u32 0, .int .i64 0, .int .i64 0, .int .i64 0, .slice none 0 0]) ?_ 2 _ rfl; (with_reducible repeat (first | refine blk_drewN ?_ _ | refine blk_drew ?_ | refine blk_alloc ?_ _)); refine blk_put (cs := #[.int .i64 0, .int .i64 0, .int .u32 0, .int .u32 0, .int .i64 0, .int .i64 0, .int .i64 0, .slice none 0 0]) ?_ 1 _ rfl; (with_reducible repeat (first | refine blk_drewN ?_ _ | refine blk_drew ?_ | refine blk_alloc ?_ _)); refine blk_put (cs := #[.int .i64 0, .int .i64 0, .int .u32 0, .int .u32 0, .int .i64 0, .int .i64 0, .int .i64 0, .slice none 0 0]) ?_ 0 _ rfl; (with_reducible repeat (first | refine blk_drewN ?_ _ | refine blk_drew ?_ | refine blk_alloc ?_ _)); exact BK271.out) Try.underlying25 rfl (by kernel_rfl)) rfl ?_
                        exact ⟨_, by first | rfl | (simp [errW_none, errW_some] <;> rfl) | (simp [*, errW_none, errW_some] <;> rfl), by first | exact Kd.R_nil _ _ _ _ _ | exact Kd.N_nil _ _ _ _ _ | exact Kd.V_nil _ _ _ _ _ | exact Kd.Q_nil _ _ _ _ _ | exact Kd.S_nil _ _ _ _ _, by repeat (first | (with_reducible first | exact HB.out | apply below_alloc | apply pw_below_drewN | apply below_drew1 | refine below_set ?_ GE271.out) | exact HB.out)⟩
                    · rw [if_neg c20] at H
                      exact absurd H (by simp)
                  · rw [if_neg c19] at H
                    exact absurd H (by simp)
                · replace c18 := Bool.eq_false_iff.mpr c18
                  subst c18
                  have H1 : (some (0, 0, 0, 0, 0, 0, 0, ([] : List Int), 162)) = some (r1, r2, r3, r4, r5, r6, r7, r8, r9) := by rw [if_neg (show ¬ (false = true) by decide)] at H; exact H
                  clear H
                  have H := H1
                  clear H1
                  simp only [Option.some.injEq, Prod.mk.injEq] at H
                  obtain ⟨rfl, rfl, rfl, rfl, rfl, rfl, rfl, rfl, rfl⟩ := H
                  go_wp2_with (first | ((with_reducible refine gate_callee (f := 28) rfl ?_); refine goesL_ (some 39) rfl rfl Try.func28 (by kernel_rfl) rfl #[.int .u32 a1, .int .u32 a2, .int .i64 6, .int .i64 (l0.length : Int)] rfl (by (try simp only [List.map_toArray, List.map_cons, List.map_nil]); first | done | rfl | (simp only [List.length_drop, List.length_take]; rfl)) ?_; (with_reducible refine (drawbridgeref15_Pseudo.calls a1 a2 6 (l0.length : Int) t273 _ A15.out).mono ?_); rintro e w75 ⟨v274, rfl, ho0, hb⟩; refine ⟨_, rfl, ?_⟩; have n0_ := Aside0.mk (Kd.R_lower ho0 (below_size (by repeat (first | (with_reducible first | exact HB.out | apply below_alloc | apply pw_below_drewN | apply below_drew1 | refine below_set ?_ GE271.out) | exact HB.out)))); have n1_ := Aside0.mk (blk_below (g := gb271) (o := .cells #[.int .i64 0, .int .i64 0, .int .u32 0, .int .u32 0, .int .i64 0, .int .i64 0, .int .i64 0, .slice none 0 0] 25 (0, 0)) (by (with_reducible repeat (first | refine blk_drewN ?_ _ | refine blk_drew ?_ | refine blk_alloc ?_ _)); exact BK271.out) hb); have n2_ := Aside0.mk (below_step (by repeat (first | (with_reducible first | exact HB.out | apply below_alloc | apply pw_below_drewN | apply below_drew1 | refine below_set ?_ GE271.out) | exact HB.out)) hb); clear BK271; clear HB; have HO275 := n0_; have BK271 := n1_; have HB := n2_; clear n0_ n1_ n2_; (try clear hb); (try clear hb2); (try clear hk); (try clear hi); (try clear ho0)) | ((with_reducible refine gate_builtin (b := .append) (xs := #[.tmp 39, .tmp 40]) rfl ?_); at_builtin; refine Kd.R_append_rows (Kd.int .u8) (w0 := w) w.heap.size rfl (.tmp 39) (.tmp 40) 23 5 (.int .u8 0) 1 rfl Try.underlying23 info5 rfl (by decide) (by omega) v274 t273 l0 _ _ _ (fun _ => True) (fun _ => False) rfl rfl ?aO ?aR (fun _ _ h => h) (fun _ h => h.elim) ?aF ?aB ?aS ?aL ?_; (case aR => repeat (first | exact (Kd.C_below HR0.out HB.out) | (with_reducible refine Kd.C_alloc ?_ _) | (with_reducible refine Kd.C_drewN ?_ _) | (with_reducible refine Kd.C_drew ?_))); (case aB => exact (by repeat (first | (with_reducible first | exact HB.out | apply below_alloc | apply pw_below_drewN | apply below_drew1 | refine below_set ?_ GE271.out) | exact HB.out))); (case aF => exact (fun _ _ => trivial)); (case aO => exact (by (with_reducible repeat (first | apply Kd.R_alloc | apply Kd.R_drewN | apply Kd.R_drew)); exact HO275.out)); (case aS => exact (below_size (by repeat (first | (with_reducible first | exact HB.out | apply below_alloc | apply pw_below_drewN | apply below_drew1 | refine below_set ?_ GE271.out) | exact HB.out)))); (case aL => have := LMc16.out; omega); intro v277 w76 ho hb hg hat; rw [← Ny276.out] at ho; have n0_ := Aside0.mk (blk_grown (g := gb271) (o := .cells #[.int .i64 0, .int .i64 0, .int .u32 0, .int .u32 0, .int .i64 0, .int .i64 0, .int .i64 0, .slice none 0 0] 25 (0, 0)) (by (with_reducible repeat (first | refine blk_drewN ?_ _ | refine blk_drew ?_ | refine blk_alloc ?_ _)); exact BK271.out) hg (Kd.R_ne HO275.out BK271.out (by decide))); have n1_ := Aside0.mk (hb); have n2_ := Aside0.mk (ho); clear BK271; clear HB; clear HO275; have BK271 := n0_; have HB := n1_; have HO278 := n2_; clear n0_ n1_ n2_; clear ho hb hg hat; obtain ⟨Ao77, co77, eo77⟩ := Kd.R_slice HO278.out; subst eo77) | ((with_reducible refine gate_callee (f := 35) rfl ?_); refine goesL_ (some 42) rfl rfl Try.func35 (by kernel_rfl) rfl #[.slice Ao77 y276.length co77] rfl (by (try simp only [List.map_toArray, List.map_cons, List.map_nil]); first | done | rfl | (simp only [List.length_drop, List.length_take]; rfl)) ?_; (with_reducible refine (drawbridgeref15_Right.calls _ _ y276 false _ ?side1 ?side2 A17.out).mono ?_); (case side1 => repeat (first | exact (Kd.R_reads' HO278.out).2.2 | (with_reducible refine Kd.C_alloc ?_ _) | (with_reducible refine Kd.C_drewN ?_ _) | (with_reducible refine Kd.C_drew ?_))); (case side2 => exact (Kd.R_reads' HO278.out).2.1); rintro e w' ⟨rfl, ⟨nd, rfl⟩⟩; refine ⟨_, rfl, ?_⟩; (try (rw [drewN_self w76]; generalize hq_ : World.drewN w76 _ = w76; have n0_ : Aside0 (Kd.R (Kd.int .u8) 5 w76 w.heap.size (fun _ => True) (.slice Ao77 y276.length co77) y276) := ⟨by rw [← hq_]; exact (by (with_reducible repeat (first | apply Kd.R_alloc | apply Kd.R_drewN | apply Kd.R_drew)); exact HO278.out)⟩; have n1_ : Aside0 (w76.heap[gb271]? = some (.cells #[.int .i64 0, .int .i64 0, .int .u32 0, .int .u32 0, .int .i64 0, .int .i64 0, .int .i64 0, .slice none 0 0] 25 (0, 0))) := ⟨by rw [← hq_]; exact (by (with_reducible repeat (first | refine blk_drewN ?_ _ | refine blk_drew ?_ | refine blk_alloc ?_ _)); exact BK271.out)⟩; have n2_ : Aside0 (Below w.heap.size w w76) := ⟨by rw [← hq_]; exact (by repeat (first | (with_reducible first | exact HB.out | apply below_alloc | apply pw_below_drewN | apply below_drew1 | refine below_set ?_ GE271.out) | exact HB.out))⟩; clear HO278 BK271 HB hq_; have HO278 := n0_; have BK271 := n1_; have HB := n2_; clear n0_ n1_ n2_)); have hcz78_0 : w76.cell? ⟨gb271, 0, none⟩ = some (.int .i64 0) := (blk_cell BK271.out 0).trans rfl; have hcz78_1 : w76.cell? ⟨gb271, 1, none⟩ = some (.int .i64 0) := (blk_cell BK271.out 1).trans rfl; have hcz78_2 : w76.cell? ⟨gb271, 2, none⟩ = some (.int .u32 0) := (blk_cell BK271.out 2).trans rfl; have hcz78_3 : w76.cell? ⟨gb271, 3, none⟩ = some (.int .u32 0) := (blk_cell BK271.out 3).trans rfl; have hcz78_4 : w76.cell? ⟨gb271, 4, none⟩ = some (.int .i64 0) := (blk_cell BK271.out 4).trans rfl; have hcz78_5 : w76.cell? ⟨gb271, 5, none⟩ = some (.int .i64 0) := (blk_cell BK271.out 5).trans rfl; have hcz78_6 : w76.cell? ⟨gb271, 6, none⟩ = some (.int .i64 0) := (blk_cell BK271.out 6).trans rfl; have hcz78_7 : w76.cell? ⟨gb271, 7, none⟩ = some (.slice none 0 0) := (blk_cell BK271.out 7).trans rfl; have hfz78_0 := blk_frozen BK271.out 0; have hfz78_1 := blk_frozen BK271.out 1; have hfz78_2 := blk_frozen BK271.out 2; have hfz78_3 := blk_frozen BK271.out 3; have hfz78_4 := blk_frozen BK271.out 4; have hfz78_5 := blk_frozen BK271.out 5; have hfz78_6 := blk_frozen BK271.out 6; have hfz78_7 := blk_frozen BK271.out 7))
                  refine bodyPost_ret (results_ct rfl _ _ gb271 25 #[.int .i64 0, .int .i64 0, .int .u32 0, .int .u32 0, .int .i64 0, .int .i64 0, .int .i64 0, .slice none 0 0] (0, 0) _ rfl (by (with_reducible repeat (first | refine blk_drewN ?_ _ | refine blk_drew ?_ | refine blk_alloc ?_ _)); refine blk_put (cs := #[.int .i64 0, .int .i64 0, .int .u32 0, .int .u32 0, .int .i64 0, .int .i64 0, .int .i64 0, .slice none 0 0]) ?_ 7 _ rfl; (with_reducible repeat (first | refine blk_drewN ?_ _ | refine blk_drew ?_ | refine blk_alloc ?_ _)); refine blk_put (cs := #[.int .i64 0, .int .i64 0, .int .u32 0, .int .u32 0, .int .i64 0, .int .i64 0, .int .i64 0, .slice none 0 0]) ?_ 6 _ rfl; (with_reducible repeat (first | refine blk_drewN ?_ _ | refine blk_drew ?_ | refine blk_alloc ?_ _)); refine blk_put (cs := #[.int .i64 0, .int .i64 0, .int .u32 0, .int .u32 0, .int .i64 0, .int .i64 0, .int .i64 0, .slice none 0 0]) ?_ 5 _ rfl; (with_reducible repeat (first | refine blk_drewN ?_ _ | refine blk_drew ?_ | refine blk_alloc ?_ _)); refine blk_put (cs := #[.int .i64 0, .int .i64 0, .int .u32 0, .int .u32 0, .int .i64 0, .int .i64 0, .int .i64 0, .slice none 0 0]) ?_ 4 _ rfl; (with_reducible repeat (first | refine blk_drewN ?_ _ | refine blk_drew ?_ | refine blk_alloc ?_ _)); refine blk_put (cs := #[.int .i64 0, .int .i64 0, .int .u32 0, .int .u32 0, .int .i64 0, .int .i64 0, .int .i64 0, .slice none 0 0]) ?_ 3 _ rfl; (with_reducible repeat (first | refine blk_drewN ?_ _ | refine blk_drew ?_ | refine blk_alloc ?_ _)); refine blk_put (cs := #[.int .i64 0, .int .i64 0, .int .u32 0, .int .u32 0, .int .i64 0, .int .i64 0, .int .i64 0, .slice none 0 0]) ?_ 2 _ rfl; (with_reducible repeat (first | refine blk_drewN ?_ _ | refine blk_drew ?_ | refine blk_alloc ?_ _)); refine blk_put (cs := #[.int .i64 0, .int .i64 0, .int .u32 0, .int .u32 0, .int .i64 0, .int .i64 0, .int .i64 0, .slice none 0 0]) ?_ 1 _ rfl; (with_reducible repeat (first | refine blk_drewN ?_ _ | refine blk_drew ?_ | refine blk_alloc ?_ _)); refine blk_put (cs := #[.int .i64 0, .int .i64 0, .int .u32 0, .int .u32 0, .int .i64 0, .int .i64 0, .int .i64 0, .slice none 0 0]) ?_ 0 _ rfl; (with_reducible repeat (first | refine blk_drewN ?_ _ | refine blk_drew ?_ | refine blk_alloc ?_ _)); exact BK271.out) Try.underlying25 rfl (by kernel_rfl)) rfl ?_
                  exact ⟨_, by first | rfl | (simp [errW_none, errW_some] <;> rfl) | (simp [*, errW_none, errW_some] <;> rfl), by first | exact Kd.R_nil _ _ _ _ _ | exact Kd.N_nil _ _ _ _ _ | exact Kd.V_nil _ _ _ _ _ | exact Kd.Q_nil _ _ _ _ _ | exact Kd.S_nil _ _ _ _ _, by repeat (first | (with_reducible first | exact HB.out | apply below_alloc | apply pw_below_drewN | apply below_drew1 | refine below_set ?_ GE271.out) | exact HB.out)⟩
              · rw [if_neg c16] at H
                exact absurd H (by simp)
    · rw [if_neg c7] at H
      exact absurd H (by simp)

end Go.Proofs.Ytndkaffkdjaaoaa.QSeg
