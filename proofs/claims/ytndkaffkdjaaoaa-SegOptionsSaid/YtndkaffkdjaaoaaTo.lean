/- Parts of a proof: contracts of functions that the law reaches. -/
import Derived.Test.YtndkaffkdjaaoaaTn
namespace Go.Proofs.Ytndkaffkdjaaoaa.QSeg
open Go.RowKit Go.Proofs.Ytndkaffkdjaaoaa.H Go.Proofs.YtndkaffkdjaaoaaW.PrintWords Go.Proofs.YtndkaffkdjaaoaaW.PrintLast Go.Proofs.YtndkaffkdjaaoaaW.PrintMore
attribute [local go_sem] max2_int min2_int max_two min_two max_three min_three max_four min_four   -- for this text's walks alone
set_option linter.unusedVariables false
set_option linter.unusedSimpArgs false

/-! ### drawbridgeref15_Patch: function 38 -/
def drawbridgeref15_Patch.f (l0 : List Int) (a1 : Int) : Option (List Int) := (some (([] : List Int) : List Int)).bind fun y354 => (if y354.length + l0.length < 140737488355328 then ((some (y354 ++ l0 : List Int)).bind fun y357 => (if a1 < 0 then (some y357) else (if (Int.tmod a1 2) = 0 then (if a1 ≥ (wrap64 ((l0.length : Int) - 1)) then (some y357) else (if 0 ≤ a1 then (if a1 < (y357.length : Int) then (if 0 ≤ (wrap64 (a1 + 1)) then (if (wrap64 (a1 + 1)) < (y357.length : Int) then ((some ((y357.set (a1 : Int).toNat 0).set ((wrap64 (a1 + 1)) : Int).toNat 0 : List Int)).bind fun y361 => ((drawbridgeref15_Sum.f y361).bind fun t362 => (some ((y361.set (a1 : Int).toNat ((wrap64 (Int.tdiv t362 256)) % 256)).set ((wrap64 (a1 + 1)) : Int).toNat ((Int.tmod t362 256) % 256))))) else (none)) else (none)) else (none)) else (none))) else (some y357)))) else (none))
set_option maxHeartbeats 8000000 in
set_option maxRecDepth 100000 in
theorem drawbridgeref15_Patch.calls (A0 : Option Addr) (c0 : Nat) (l0 : List Int) (a1 : Int) (r : List Int) (w : World) (hr0 : Kd.C (Kd.int .u8) w A0 l0.length l0) (hc0 : l0.length ≤ c0) (h : drawbridgeref15_Patch.f l0 a1 = some r) :
    Calls Try.prog 38 #[.slice A0 l0.length c0, .int .i64 a1] w fun e w' => ∃ v0_ : Value, e = .returned (v0_) ∧ Kd.R (Kd.int .u8) 5 w' w.heap.size (fun _ => True) v0_ r ∧ Below w.heap.size w w' := by
  have HR0 := Aside0.mk hr0
  have HC0 := Aside0.mk hc0
  clear hr0 hc0
  have HB := Aside0.mk (Below.refl w.heap.size w)
  have H : ((some (([] : List Int) : List Int)).bind fun y354 => (if y354.length + l0.length < 140737488355328 then ((some (y354 ++ l0 : List Int)).bind fun y357 => (if a1 < 0 then (some y357) else (if (Int.tmod a1 2) = 0 then (if a1 ≥ (wrap64 ((l0.length : Int) - 1)) then (some y357) else (if 0 ≤ a1 then (if a1 < (y357.length : Int) then (if 0 ≤ (wrap64 (a1 + 1)) then (if (wrap64 (a1 + 1)) < (y357.length : Int) then ((some ((y357.set (a1 : Int).toNat 0).set ((wrap64 (a1 + 1)) : Int).toNat 0 : List Int)).bind fun y361 => ((drawbridgeref15_Sum.f y361).bind fun t362 => (some ((y361.set (a1 : Int).toNat ((wrap64 (Int.tdiv t362 256)) % 256)).set ((wrap64 (a1 + 1)) : Int).toNat ((Int.tmod t362 256) % 256))))) else (none)) else (none)) else (none)) else (none))) else (some y357)))) else (none))) = some r := h
  clear h
  obtain ⟨y354, hy354⟩ : ∃ y_ : List Int, y_ = (([] : List Int)) := ⟨_, rfl⟩
  replace H : (if y354.length + l0.length < 140737488355328 then ((some (y354 ++ l0 : List Int)).bind fun y357 => (if a1 < 0 then (some y357) else (if (Int.tmod a1 2) = 0 then (if a1 ≥ (wrap64 ((l0.length : Int) - 1)) then (some y357) else (if 0 ≤ a1 then (if a1 < (y357.length : Int) then (if 0 ≤ (wrap64 (a1 + 1)) then (if (wrap64 (a1 + 1)) < (y357.length : Int) then ((some ((y357.set (a1 : Int).toNat 0).set ((wrap64 (a1 + 1)) : Int).toNat 0 : List Int)).bind fun y361 => ((drawbridgeref15_Sum.f y361).bind fun t362 => (some ((y361.set (a1 : Int).toNat ((wrap64 (Int.tdiv t362 256)) % 256)).set ((wrap64 (a1 + 1)) : Int).toNat ((Int.tmod t362 256) % 256))))) else (none)) else (none)) else (none)) else (none))) else (some y357)))) else (none)) = some r := by first | (rw [hy354]; with_reducible exact H) | (have H2_ := (Option.bind_some _ _).symm.trans H; rw [hy354]; with_reducible exact H2_) | (have H2_ := (Option.bind_some _ _).symm.trans H; with_reducible exact H2_) | with_reducible exact H | (rw [hy354]; exact H) | exact H
  have Ny354 := Aside0.mk hy354
  clear hy354
  by_cases c3 : y354.length + l0.length < 140737488355328
  · rw [if_pos c3] at H
    have LMc3 := Aside0.mk c3
    clear c3
    obtain ⟨y357, hy357⟩ : ∃ y_ : List Int, y_ = (y354 ++ l0) := ⟨_, rfl⟩
    replace H : (if a1 < 0 then (some y357) else (if (Int.tmod a1 2) = 0 then (if a1 ≥ (wrap64 ((l0.length : Int) - 1)) then (some y357) else (if 0 ≤ a1 then (if a1 < (y357.length : Int) then (if 0 ≤ (wrap64 (a1 + 1)) then (if (wrap64 (a1 + 1)) < (y357.length : Int) then ((some ((y357.set (a1 : Int).toNat 0).set ((wrap64 (a1 + 1)) : Int).toNat 0 : List Int)).bind fun y361 => ((drawbridgeref15_Sum.f y361).bind fun t362 => (some ((y361.set (a1 : Int).toNat ((wrap64 (Int.tdiv t362 256)) % 256)).set ((wrap64 (a1 + 1)) : Int).toNat ((Int.tmod t362 256) % 256))))) else (none)) else (none)) else (none)) else (none))) else (some y357))) = some r := by first | (rw [hy357]; with_reducible exact H) | (have H2_ := (Option.bind_some _ _).symm.trans H; rw [hy357]; with_reducible exact H2_) | (have H2_ := (Option.bind_some _ _).symm.trans H; with_reducible exact H2_) | with_reducible exact H | (rw [hy357]; exact H) | exact H
    have Ny357 := Aside0.mk hy357
    clear hy357
    by_cases c4 : a1 < 0
    · rw [if_pos c4] at H
      have c4b0 : decide (a1 < 0) = true := decide_eq_true c4
      clear c4
      obtain rfl := Option.some.inj H
      go_enter Try.func38, Try.ntmps38
      go_wp2_with (first | ((with_reducible refine gate_dst (N := 7) rfl ?_); (try (refine gate_guard (by rfl) ?_; dsimp only)); refine Kd.R_lit (Kd.int .u8) _ 5 ?hg (N := 7) ?hd (xs := ([] : List Int)) (inner := []) (ok := fun _ => True) (okp := fun _ => True) ?hr ?hp (fun _ hk => hk) trivial (Below.refl _ _) (Nat.le_refl _) (by simp) ?_; (case hd => rfl); (case hg => rfl); (case hr => first | (go_simp; done) | (go_simp; rfl)); (case hp => exact (Reps.none _ _)); intro v355 w5 ho6 hb hg_ hnew_; clear hg_ hnew_; (first | rw [← Ny354.out] at ho6 | (simp only [Int.reduceToNat] at ho6; rw [← Ny354.out] at ho6)); have n0_ := Aside0.mk (Kd.R_lower ho6 (below_size (by repeat (first | (with_reducible first | exact HB.out | apply below_alloc | apply pw_below_drewN | apply below_drew1) | exact HB.out)))); have n1_ := Aside0.mk (below_step (by repeat (first | (with_reducible first | exact HB.out | apply below_alloc | apply pw_below_drewN | apply below_drew1) | exact HB.out)) hb); clear HB; have HO356 := n0_; have HB := n1_; clear n0_ n1_; clear hb ho6) | ((with_reducible refine gate_builtin (b := .append) (xs := #[.tmp 7, .tmp 8]) rfl ?_); (try (refine gate_guard (by rfl) ?_; dsimp only)); at_builtin; refine Kd.R_append_rows (Kd.int .u8) (w0 := w) w.heap.size rfl (.tmp 7) (.tmp 8) 23 5 (.int .u8 0) 1 rfl Try.underlying23 info5 rfl (by decide) (by omega) v355 y354 l0 _ _ _ (fun _ => True) (fun _ => False) rfl rfl ?aO ?aR (fun _ _ h => h) (fun _ h => h.elim) ?aF ?aB ?aS ?aL ?_; (case aR => repeat (first | exact (Kd.C_below HR0.out HB.out) | (with_reducible refine Kd.C_alloc ?_ _) | (with_reducible refine Kd.C_drewN ?_ _) | (with_reducible refine Kd.C_drew ?_))); (case aB => exact (by repeat (first | (with_reducible first | exact HB.out | apply below_alloc | apply pw_below_drewN | apply below_drew1) | exact HB.out))); (case aF => exact (fun _ _ => trivial)); (case aO => exact (by (with_reducible repeat (first | apply Kd.R_alloc | apply Kd.R_drewN | apply Kd.R_drew)); exact HO356.out)); (case aS => exact (below_size (by repeat (first | (with_reducible first | exact HB.out | apply below_alloc | apply pw_below_drewN | apply below_drew1) | exact HB.out)))); (case aL => have := LMc3.out; omega); intro v358 w7 ho hb hg hat; rw [← Ny357.out] at ho; have n0_ := Aside0.mk (hb); have n1_ := Aside0.mk (ho); clear HB; clear HO356; have HB := n0_; have HO359 := n1_; clear n0_ n1_; clear ho hb hg hat))
      go_ret
      exact ⟨_, by first | rfl | (simp [errW_none, errW_some] <;> rfl) | (simp [*, errW_none, errW_some] <;> rfl), by (with_reducible repeat (first | apply Kd.R_alloc | apply Kd.R_drewN | apply Kd.R_drew)); exact HO359.out, by repeat (first | (with_reducible first | exact HB.out | apply below_alloc | apply pw_below_drewN | apply below_drew1) | exact HB.out)⟩
    · rw [if_neg c4] at H
      have c4b0 : decide (a1 < 0) = false := decide_eq_false c4
      clear c4
      by_cases c8 : (Int.tmod a1 2) = 0
      · rw [if_pos c8] at H
        have c8b0 : ((Int.tmod a1 2) == 0) = true := beq_iff_eq.mpr c8
        have c8b1 : ((Int.tmod a1 2) != 0) = false := bne_eq_false_iff_eq.mpr c8
        clear c8
        by_cases c9 : a1 ≥ (wrap64 ((l0.length : Int) - 1))
        · rw [if_pos c9] at H
          have c9b0 : decide ((wrap64 ((l0.length : Int) - 1)) ≤ a1) = true := decide_eq_true c9
          clear c9
          obtain rfl := Option.some.inj H
          go_enter Try.func38, Try.ntmps38
          go_wp2_with (first | ((with_reducible refine gate_dst (N := 7) rfl ?_); (try (refine gate_guard (by rfl) ?_; dsimp only)); refine Kd.R_lit (Kd.int .u8) _ 5 ?hg (N := 7) ?hd (xs := ([] : List Int)) (inner := []) (ok := fun _ => True) (okp := fun _ => True) ?hr ?hp (fun _ hk => hk) trivial (Below.refl _ _) (Nat.le_refl _) (by simp) ?_; (case hd => rfl); (case hg => rfl); (case hr => first | (go_simp; done) | (go_simp; rfl)); (case hp => exact (Reps.none _ _)); intro v355 w10 ho11 hb hg_ hnew_; clear hg_ hnew_; (first | rw [← Ny354.out] at ho11 | (simp only [Int.reduceToNat] at ho11; rw [← Ny354.out] at ho11)); have n0_ := Aside0.mk (Kd.R_lower ho11 (below_size (by repeat (first | (with_reducible first | exact HB.out | apply below_alloc | apply pw_below_drewN | apply below_drew1) | exact HB.out)))); have n1_ := Aside0.mk (below_step (by repeat (first | (with_reducible first | exact HB.out | apply below_alloc | apply pw_below_drewN | apply below_drew1) | exact HB.out)) hb); clear HB; have HO356 := n0_; have HB := n1_; clear n0_ n1_; clear hb ho11) | ((with_reducible refine gate_builtin (b := .append) (xs := #[.tmp 7, .tmp 8]) rfl ?_); (try (refine gate_guard (by rfl) ?_; dsimp only)); at_builtin; refine Kd.R_append_rows (Kd.int .u8) (w0 := w) w.heap.size rfl (.tmp 7) (.tmp 8) 23 5 (.int .u8 0) 1 rfl Try.underlying23 info5 rfl (by decide) (by omega) v355 y354 l0 _ _ _ (fun _ => True) (fun _ => False) rfl rfl ?aO ?aR (fun _ _ h => h) (fun _ h => h.elim) ?aF ?aB ?aS ?aL ?_; (case aR => repeat (first | exact (Kd.C_below HR0.out HB.out) | (with_reducible refine Kd.C_alloc ?_ _) | (with_reducible refine Kd.C_drewN ?_ _) | (with_reducible refine Kd.C_drew ?_))); (case aB => exact (by repeat (first | (with_reducible first | exact HB.out | apply below_alloc | apply pw_below_drewN | apply below_drew1) | exact HB.out))); (case aF => exact (fun _ _ => trivial)); (case aO => exact (by (with_reducible repeat (first | apply Kd.R_alloc | apply Kd.R_drewN | apply Kd.R_drew)); exact HO356.out)); (case aS => exact (below_size (by repeat (first | (with_reducible first | exact HB.out | apply below_alloc | apply pw_below_drewN | apply below_drew1) | exact HB.out)))); (case aL => have := LMc3.out; omega); intro v358 w12 ho hb hg hat; rw [← Ny357.out] at ho; have n0_ := Aside0.mk (hb); have n1_ := Aside0.mk (ho); clear HB; clear HO356; have HB := n0_; have HO359 := n1_; clear n0_ n1_; clear ho hb hg hat))
          go_ret
          exact ⟨_, by first | rfl | (simp [errW_none, errW_some] <;> rfl) | (simp [*, errW_none, errW_some] <;> rfl), by (with_reducible repeat (first | apply Kd.R_alloc | apply Kd.R_drewN | apply Kd.R_drew)); exact HO359.out, by repeat (first | (with_reducible first | exact HB.out | apply below_alloc | apply pw_below_drewN | apply below_drew1) | exact HB.out)⟩
        · rw [if_neg c9] at H
          have c9b0 : decide ((wrap64 ((l0.length : Int) - 1)) ≤ a1) = false := decide_eq_false c9
          clear c9
          by_cases c13 : 0 ≤ a1
          · rw [if_pos c13] at H
            have c13b0 : decide (0 ≤ a1) = true := decide_eq_true c13
            clear c13
            by_cases c14 : a1 < (y357.length : Int)
            · rw [if_pos c14] at H
              have c14b0 : decide (a1 < (y357.length : Int)) = true := decide_eq_true c14
              clear c14
              obtain ⟨y360, hy360⟩ : ∃ y_ : List Int, y_ = (y357.set (a1 : Int).toNat 0) := ⟨_, rfl⟩
              replace H : (if 0 ≤ (wrap64 (a1 + 1)) then (if (wrap64 (a1 + 1)) < (y357.length : Int) then ((some (y360.set ((wrap64 (a1 + 1)) : Int).toNat 0 : List Int)).bind fun y361 => ((drawbridgeref15_Sum.f y361).bind fun t362 => (some ((y361.set (a1 : Int).toNat ((wrap64 (Int.tdiv t362 256)) % 256)).set ((wrap64 (a1 + 1)) : Int).toNat ((Int.tmod t362 256) % 256))))) else (none)) else (none)) = some r := by first | (rw [hy360]; with_reducible exact H) | (have H2_ := (Option.bind_some _ _).symm.trans H; rw [hy360]; with_reducible exact H2_) | (have H2_ := (Option.bind_some _ _).symm.trans H; with_reducible exact H2_) | with_reducible exact H | (rw [hy360]; exact H) | exact H
              have Ny360 := Aside0.mk hy360
              clear hy360
              obtain ⟨ji16, hji16⟩ : ∃ j_ : Int, (wrap64 (a1 + 1)) = j_ := ⟨_, rfl⟩
              replace H : (if 0 ≤ (ji16) then (if (ji16) < (y357.length : Int) then ((some (y360.set ((ji16) : Int).toNat 0 : List Int)).bind fun y361 => ((drawbridgeref15_Sum.f y361).bind fun t362 => (some ((y361.set (a1 : Int).toNat ((wrap64 (Int.tdiv t362 256)) % 256)).set ((ji16) : Int).toNat ((Int.tmod t362 256) % 256))))) else (none)) else (none)) = some r := by first | (rw [hji16] at H; exact H) | (simp only [hji16] at H ⊢; exact H)
              have hji16w : (IntKind.i64.wrap (a1 + 1)) = ji16 := (i64_w _).trans hji16
              by_cases c17 : 0 ≤ (ji16)
              · rw [if_pos c17] at H
                have c17b0 : decide (0 ≤ (ji16)) = true := decide_eq_true c17
                clear c17
                by_cases c18 : (ji16) < (y357.length : Int)
                · rw [if_pos c18] at H
                  have c18b0 : decide ((ji16) < (y357.length : Int)) = true := decide_eq_true c18
                  clear c18
                  obtain ⟨y361, hy361⟩ : ∃ y_ : List Int, y_ = (y360.set ((ji16) : Int).toNat 0) := ⟨_, rfl⟩
                  replace H : ((drawbridgeref15_Sum.f y361).bind fun t362 => (some ((y361.set (a1 : Int).toNat ((wrap64 (Int.tdiv t362 256)) % 256)).set ((ji16) : Int).toNat ((Int.tmod t362 256) % 256)))) = some r := by first | (rw [hy361]; with_reducible exact H) | (have H2_ := (Option.bind_some _ _).symm.trans H; rw [hy361]; with_reducible exact H2_) | (have H2_ := (Option.bind_some _ _).symm.trans H; with_reducible exact H2_) | with_reducible exact H | (rw [hy361]; exact H) | exact H
                  have Ny361 := Aside0.mk hy361
                  clear hy361
                  replace H := Option.bind_eq_some_iff.mp H
                  obtain ⟨t362, A200, H⟩ := H
                  replace H : (some ((y361.set (a1 : Int).toNat ((wrap64 (Int.tdiv t362 256)) % 256)).set ((ji16) : Int).toNat ((Int.tmod t362 256) % 256))) = some r := H
                  have A20 := Aside0.mk A200
                  clear A200
                  obtain ⟨y363, hy363⟩ : ∃ y_ : List Int, y_ = (y361.set (a1 : Int).toNat ((wrap64 (Int.tdiv t362 256)) % 256)) := ⟨_, rfl⟩
                  replace H : (some (y363.set ((ji16) : Int).toNat ((Int.tmod t362 256) % 256))) = some r := by first | (rw [hy363]; with_reducible exact H) | (have H2_ := (Option.bind_some _ _).symm.trans H; rw [hy363]; with_reducible exact H2_) | (have H2_ := (Option.bind_some _ _).symm.trans H; with_reducible exact H2_) | with_reducible exact H | (rw [hy363]; exact H) | exact H
                  have Ny363 := Aside0.mk hy363
                  clear hy363
                  obtain ⟨y364, hy364⟩ : ∃ y_ : List Int, y_ = (y363.set ((ji16) : Int).toNat ((Int.tmod t362 256) % 256)) := ⟨_, rfl⟩
                  replace H : (some y364) = some r := by first | (rw [hy364]; with_reducible exact H) | (have H2_ := (Option.bind_some _ _).symm.trans H; rw [hy364]; with_reducible exact H2_) | (have H2_ := (Option.bind_some _ _).symm.trans H; with_reducible exact H2_) | with_reducible exact H | (rw [hy364]; exact H) | exact H
                  have Ny364 := Aside0.mk hy364
                  clear hy364
                  obtain rfl := Option.some.inj H
                  go_enter Try.func38, Try.ntmps38
                  go_wp2_with (first | ((with_reducible refine gate_dst (N := 7) rfl ?_); (try (refine gate_guard (by rfl) ?_; dsimp only)); refine Kd.R_lit (Kd.int .u8) _ 5 ?hg (N := 7) ?hd (xs := ([] : List Int)) (inner := []) (ok := fun _ => True) (okp := fun _ => True) ?hr ?hp (fun _ hk => hk) trivial (Below.refl _ _) (Nat.le_refl _) (by simp) ?_; (case hd => rfl); (case hg => rfl); (case hr => first | (go_simp; done) | (go_simp; rfl)); (case hp => exact (Reps.none _ _)); intro v355 w23 ho24 hb hg_ hnew_; clear hg_ hnew_; (first | rw [← Ny354.out] at ho24 | (simp only [Int.reduceToNat] at ho24; rw [← Ny354.out] at ho24)); have n0_ := Aside0.mk (Kd.R_lower ho24 (below_size (by repeat (first | (with_reducible first | exact HB.out | apply below_alloc | apply pw_below_drewN | apply below_drew1) | exact HB.out)))); have n1_ := Aside0.mk (below_step (by repeat (first | (with_reducible first | exact HB.out | apply below_alloc | apply pw_below_drewN | apply below_drew1) | exact HB.out)) hb); clear HB; have HO356 := n0_; have HB := n1_; clear n0_ n1_; clear hb ho24) | ((with_reducible refine gate_builtin (b := .append) (xs := #[.tmp 7, .tmp 8]) rfl ?_); (try (refine gate_guard (by rfl) ?_; dsimp only)); at_builtin; refine Kd.R_append_rows (Kd.int .u8) (w0 := w) w.heap.size rfl (.tmp 7) (.tmp 8) 23 5 (.int .u8 0) 1 rfl Try.underlying23 info5 rfl (by decide) (by omega) v355 y354 l0 _ _ _ (fun _ => True) (fun _ => False) rfl rfl ?aO ?aR (fun _ _ h => h) (fun _ h => h.elim) ?aF ?aB ?aS ?aL ?_; (case aR => repeat (first | exact (Kd.C_below HR0.out HB.out) | (with_reducible refine Kd.C_alloc ?_ _) | (with_reducible refine Kd.C_drewN ?_ _) | (with_reducible refine Kd.C_drew ?_))); (case aB => exact (by repeat (first | (with_reducible first | exact HB.out | apply below_alloc | apply pw_below_drewN | apply below_drew1) | exact HB.out))); (case aF => exact (fun _ _ => trivial)); (case aO => exact (by (with_reducible repeat (first | apply Kd.R_alloc | apply Kd.R_drewN | apply Kd.R_drew)); exact HO356.out)); (case aS => exact (below_size (by repeat (first | (with_reducible first | exact HB.out | apply below_alloc | apply pw_below_drewN | apply below_drew1) | exact HB.out)))); (case aL => have := LMc3.out; omega); intro v358 w25 ho hb hg hat; rw [← Ny357.out] at ho; have n0_ := Aside0.mk (hb); have n1_ := Aside0.mk (ho); clear HB; clear HO356; have HB := n0_; have HO359 := n1_; clear n0_ n1_; clear ho hb hg hat; have p15 : 0 ≤ (a1 : Int) := of_decide_eq_true (by first | (with_reducible assumption) | assumption); have q15 : (a1 : Int) < ((y357.length : Int) : Int) := of_decide_eq_true (by first | (with_reducible assumption) | assumption); obtain ⟨go15, co15, eo15, gb15, gl15, cl15, HG15⟩ := Kd.R_form HO359.out (by omega); (first | cases eo15 | (injection eo15 with ea_ en_ ec_; (first | subst ea_ | (injection ea_ with ea_; subst ea_)); subst ec_; clear en_)); have GB15 := Aside0.mk gb15; have GG15 := Aside0.mk HG15; clear gb15 gl15 HG15; obtain ⟨hx15_0, hf15_0⟩ := Kd.R_celln 0 HO359.out (a1 : Int) p15 q15; replace p15 := eq_true p15; replace q15 := eq_true q15; obtain ⟨hy26_, hz26_⟩ := Kd.R_celln 0 HO359.out (a1 : Int) (of_decide_eq_true (by first | (with_reducible assumption) | assumption)) (of_decide_eq_true (by first | (with_reducible assumption) | assumption)); have HP26 := Kd.R_putg HO359.out (a1 : Int) 0) | ((with_reducible refine gate_store (t := 5) (p := 30) rfl ?_); refine store_event (t := 5) (p := 30) (v := ?vo_w27) (w1 := (w25.setCell ⟨go15, (a1 : Int).toNat, none⟩ (.int .u8 0))) ?hg ?ho ?hn ?hr ?_; (case ho => rfl); (case hg => rfl); (case hn => rfl); (case hr => first | (go_simp; done) | (go_simp; rfl)); intro w27 hw; have hg : w25.grownBy w27 (some go15) := (by rw [hw]; exact HP26.2); have hp_ : Kd.R (Kd.int .u8) 5 w27 w.heap.size (fun _ => True) (.slice (some ⟨go15, 0, none⟩) y357.length co15) y360 := (by rw [hw, Ny360.out]; exact HP26.1); clear HP26; have n0_ := Aside0.mk (hp_); have n1_ := Aside0.mk ((by rw [hw]; exact below_set (HB.out) GB15.out : Below w.heap.size w w27)); clear HO359; clear HB; have HO359 := n0_; have HB := n1_; clear n0_ n1_; clear hg hw hp_; have p19 : 0 ≤ ((ji16) : Int) := of_decide_eq_true (by first | (with_reducible assumption) | assumption); have q19 : ((ji16) : Int) < ((y357.length : Int) : Int) := of_decide_eq_true (by first | (with_reducible assumption) | assumption); obtain ⟨hx19_0, hf19_0⟩ := Kd.R_celln 0 HO359.out ((ji16) : Int) p19 q19; replace p19 := eq_true p19; replace q19 := eq_true q19; obtain ⟨hy28_, hz28_⟩ := Kd.R_celln 0 HO359.out ((ji16) : Int) (of_decide_eq_true (by first | (with_reducible assumption) | assumption)) (of_decide_eq_true (by first | (with_reducible assumption) | assumption)); have HP28 := Kd.R_putg HO359.out ((ji16) : Int) 0) | ((with_reducible refine gate_store (t := 5) (p := 31) rfl ?_); refine store_event (t := 5) (p := 31) (v := ?vo_w29) (w1 := (w27.setCell ⟨go15, ((ji16) : Int).toNat, none⟩ (.int .u8 0))) ?hg ?ho ?hn ?hr ?_; (case ho => rfl); (case hg => rfl); (case hn => rfl); (case hr => first | (go_simp; done) | (go_simp; rfl)); intro w29 hw; have hg : w27.grownBy w29 (some go15) := (by rw [hw]; exact HP28.2); have hp_ : Kd.R (Kd.int .u8) 5 w29 w.heap.size (fun _ => True) (.slice (some ⟨go15, 0, none⟩) y357.length co15) y361 := (by rw [hw, Ny361.out]; exact HP28.1); clear HP28; have n0_ := Aside0.mk (hp_); have n1_ := Aside0.mk ((by rw [hw]; exact below_set (HB.out) GB15.out : Below w.heap.size w w29)); clear HO359; clear HB; have HO359 := n0_; have HB := n1_; clear n0_ n1_; clear hg hw hp_) | ((with_reducible refine gate_callee (f := 27) rfl ?_); refine goesL_ (some 33) rfl rfl Try.func27 (by kernel_rfl) rfl #[.slice (some ⟨go15, 0, none⟩) y361.length co15] rfl (by (try simp only [List.map_toArray, List.map_cons, List.map_nil]); first | done | (rw [show y361.length = y357.length from (Kd.R_reads' HO359.out).1.symm] <;> rfl) | rfl | (simp only [List.length_drop, List.length_take]; rfl)) ?_; (with_reducible refine (drawbridgeref15_Sum.calls _ _ y361 t362 _ ?side1 ?side2 A20.out).mono ?_); (case side1 => repeat (first | exact (Kd.R_reads' HO359.out).2.2 | (with_reducible refine Kd.C_alloc ?_ _) | (with_reducible refine Kd.C_drewN ?_ _) | (with_reducible refine Kd.C_drew ?_))); (case side2 => rw [show y361.length = y357.length from (Kd.R_reads' HO359.out).1.symm]; exact (Kd.R_reads' HO359.out).2.1); rintro e w' ⟨rfl, ⟨nd, rfl⟩⟩; refine ⟨_, rfl, ?_⟩; (try (rw [drewN_self w29]; generalize hq_ : World.drewN w29 _ = w29; have n0_ : Aside0 (Kd.R (Kd.int .u8) 5 w29 w.heap.size (fun _ => True) (.slice (some ⟨go15, 0, none⟩) y357.length co15) y361) := ⟨by rw [← hq_]; exact (by (with_reducible repeat (first | apply Kd.R_alloc | apply Kd.R_drewN | apply Kd.R_drew)); exact HO359.out)⟩; have n1_ : Aside0 (Below w.heap.size w w29) := ⟨by rw [← hq_]; exact (by repeat (first | (with_reducible first | exact HB.out | apply below_alloc | apply pw_below_drewN | apply below_drew1) | exact HB.out))⟩; clear HO359 HB hq_; have HO359 := n0_; have HB := n1_; clear n0_ n1_)); have p21 : 0 ≤ (a1 : Int) := of_decide_eq_true (by first | (with_reducible assumption) | assumption); have q21 : (a1 : Int) < ((y357.length : Int) : Int) := of_decide_eq_true (by first | (with_reducible assumption) | assumption); obtain ⟨hx21_0, hf21_0⟩ := Kd.R_celln 0 HO359.out (a1 : Int) p21 q21; replace p21 := eq_true p21; replace q21 := eq_true q21; obtain ⟨hy30_, hz30_⟩ := Kd.R_celln 0 HO359.out (a1 : Int) (of_decide_eq_true (by first | (with_reducible assumption) | assumption)) (of_decide_eq_true (by first | (with_reducible assumption) | assumption)); have HP30 := Kd.R_putg HO359.out (a1 : Int) ((wrap64 (Int.tdiv t362 256)) % 256)) | ((with_reducible refine gate_store (t := 5) (p := 45) rfl ?_); refine store_event (t := 5) (p := 45) (v := ?vo_w31) (w1 := (w29.setCell ⟨go15, (a1 : Int).toNat, none⟩ (.int .u8 ((wrap64 (Int.tdiv t362 256)) % 256)))) ?hg ?ho ?hn ?hr ?_; (case ho => rfl); (case hg => rfl); (case hn => rfl); (case hr => first | (go_simp; done) | (go_simp; rfl)); intro w31 hw; have hg : w29.grownBy w31 (some go15) := (by rw [hw]; exact HP30.2); have hp_ : Kd.R (Kd.int .u8) 5 w31 w.heap.size (fun _ => True) (.slice (some ⟨go15, 0, none⟩) y357.length co15) y363 := (by rw [hw, Ny363.out]; exact HP30.1); clear HP30; have n0_ := Aside0.mk (hp_); have n1_ := Aside0.mk ((by rw [hw]; exact below_set (HB.out) GB15.out : Below w.heap.size w w31)); clear HO359; clear HB; have HO359 := n0_; have HB := n1_; clear n0_ n1_; clear hg hw hp_; have p22 : 0 ≤ ((ji16) : Int) := of_decide_eq_true (by first | (with_reducible assumption) | assumption); have q22 : ((ji16) : Int) < ((y357.length : Int) : Int) := of_decide_eq_true (by first | (with_reducible assumption) | assumption); obtain ⟨hx22_0, hf22_0⟩ := Kd.R_celln 0 HO359.out ((ji16) : Int) p22 q22; replace p22 := eq_true p22; replace q22 := eq_true q22; obtain ⟨hy32_, hz32_⟩ := Kd.R_celln 0 HO359.out ((ji16) : Int) (of_decide_eq_true (by first | (with_reducible assumption) | assumption)) (of_decide_eq_true (by first | (with_reducible assumption) | assumption)); have HP32 := Kd.R_putg HO359.out ((ji16) : Int) ((Int.tmod t362 256) % 256)) | ((with_reducible refine gate_store (t := 5) (p := 46) rfl ?_); refine store_event (t := 5) (p := 46) (v := ?vo_w33) (w1 := (w31.setCell ⟨go15, ((ji16) : Int).toNat, none⟩ (.int .u8 ((Int.tmod t362 256) % 256)))) ?hg ?ho ?hn ?hr ?_; (case ho => rfl); (case hg => rfl); (case hn => rfl); (case hr => first | (go_simp; done) | (go_simp; rfl)); intro w33 hw; have hg : w31.grownBy w33 (some go15) := (by rw [hw]; exact HP32.2); have hp_ : Kd.R (Kd.int .u8) 5 w33 w.heap.size (fun _ => True) (.slice (some ⟨go15, 0, none⟩) y357.length co15) y364 := (by rw [hw, Ny364.out]; exact HP32.1); clear HP32; have n0_ := Aside0.mk (hp_); have n1_ := Aside0.mk ((by rw [hw]; exact below_set (HB.out) GB15.out : Below w.heap.size w w33)); clear HO359; clear HB; have HO359 := n0_; have HB := n1_; clear n0_ n1_; clear hg hw hp_))
                  go_ret
                  exact ⟨_, by first | rfl | (simp [errW_none, errW_some] <;> rfl) | (simp only [← hji16]; first | rfl | (simp [errW_none, errW_some] <;> rfl)) | (simp [*, errW_none, errW_some] <;> rfl), by (with_reducible repeat (first | apply Kd.R_alloc | apply Kd.R_drewN | apply Kd.R_drew)); exact HO359.out, by repeat (first | (with_reducible first | exact HB.out | apply below_alloc | apply pw_below_drewN | apply below_drew1) | exact HB.out)⟩
                · rw [if_neg c18] at H
                  exact absurd H (by simp)
              · rw [if_neg c17] at H
                exact absurd H (by simp)
            · rw [if_neg c14] at H
              exact absurd H (by simp)
          · rw [if_neg c13] at H
            exact absurd H (by simp)
      · rw [if_neg c8] at H
        have c8b0 : ((Int.tmod a1 2) == 0) = false := beq_eq_false_iff_ne.mpr c8
        have c8b1 : ((Int.tmod a1 2) != 0) = true := bne_iff_ne.mpr c8
        obtain rfl := Option.some.inj H
        go_enter Try.func38, Try.ntmps38
        go_wp2_with (first | ((with_reducible refine gate_dst (N := 7) rfl ?_); (try (refine gate_guard (by rfl) ?_; dsimp only)); refine Kd.R_lit (Kd.int .u8) _ 5 ?hg (N := 7) ?hd (xs := ([] : List Int)) (inner := []) (ok := fun _ => True) (okp := fun _ => True) ?hr ?hp (fun _ hk => hk) trivial (Below.refl _ _) (Nat.le_refl _) (by simp) ?_; (case hd => rfl); (case hg => rfl); (case hr => first | (go_simp; done) | (go_simp; rfl)); (case hp => exact (Reps.none _ _)); intro v355 w34 ho35 hb hg_ hnew_; clear hg_ hnew_; (first | rw [← Ny354.out] at ho35 | (simp only [Int.reduceToNat] at ho35; rw [← Ny354.out] at ho35)); have n0_ := Aside0.mk (Kd.R_lower ho35 (below_size (by repeat (first | (with_reducible first | exact HB.out | apply below_alloc | apply pw_below_drewN | apply below_drew1) | exact HB.out)))); have n1_ := Aside0.mk (below_step (by repeat (first | (with_reducible first | exact HB.out | apply below_alloc | apply pw_below_drewN | apply below_drew1) | exact HB.out)) hb); clear HB; have HO356 := n0_; have HB := n1_; clear n0_ n1_; clear hb ho35) | ((with_reducible refine gate_builtin (b := .append) (xs := #[.tmp 7, .tmp 8]) rfl ?_); (try (refine gate_guard (by rfl) ?_; dsimp only)); at_builtin; refine Kd.R_append_rows (Kd.int .u8) (w0 := w) w.heap.size rfl (.tmp 7) (.tmp 8) 23 5 (.int .u8 0) 1 rfl Try.underlying23 info5 rfl (by decide) (by omega) v355 y354 l0 _ _ _ (fun _ => True) (fun _ => False) rfl rfl ?aO ?aR (fun _ _ h => h) (fun _ h => h.elim) ?aF ?aB ?aS ?aL ?_; (case aR => repeat (first | exact (Kd.C_below HR0.out HB.out) | (with_reducible refine Kd.C_alloc ?_ _) | (with_reducible refine Kd.C_drewN ?_ _) | (with_reducible refine Kd.C_drew ?_))); (case aB => exact (by repeat (first | (with_reducible first | exact HB.out | apply below_alloc | apply pw_below_drewN | apply below_drew1) | exact HB.out))); (case aF => exact (fun _ _ => trivial)); (case aO => exact (by (with_reducible repeat (first | apply Kd.R_alloc | apply Kd.R_drewN | apply Kd.R_drew)); exact HO356.out)); (case aS => exact (below_size (by repeat (first | (with_reducible first | exact HB.out | apply below_alloc | apply pw_below_drewN | apply below_drew1) | exact HB.out)))); (case aL => have := LMc3.out; omega); intro v358 w36 ho hb hg hat; rw [← Ny357.out] at ho; have n0_ := Aside0.mk (hb); have n1_ := Aside0.mk (ho); clear HB; clear HO356; have HB := n0_; have HO359 := n1_; clear n0_ n1_; clear ho hb hg hat))
        go_ret
        exact ⟨_, by first | rfl | (simp [errW_none, errW_some] <;> rfl) | (simp [*, errW_none, errW_some] <;> rfl), by (with_reducible repeat (first | apply Kd.R_alloc | apply Kd.R_drewN | apply Kd.R_drew)); exact HO359.out, by repeat (first | (with_reducible first | exact HB.out | apply below_alloc | apply pw_below_drewN | apply below_drew1) | exact HB.out)⟩
  · rw [if_neg c3] at H
    exact absurd H (by simp)

end Go.Proofs.Ytndkaffkdjaaoaa.QSeg
namespace Go.Proofs.Ytndkaffkdjaaoaa.QSeg
open Go.RowKit Go.Proofs.Ytndkaffkdjaaoaa.H Go.Proofs.YtndkaffkdjaaoaaW.PrintWords Go.Proofs.YtndkaffkdjaaoaaW.PrintLast Go.Proofs.YtndkaffkdjaaoaaW.PrintMore
attribute [local go_sem] max2_int min2_int max_two min_two max_three min_three max_four min_four   -- for this text's walks alone
set_option linter.unusedVariables false
set_option linter.unusedSimpArgs false

/-! ### drawbridgelaw19_patched: function 17 -/
def drawbridgelaw19_patched.f (l0 : List Int) : Option (List Int) := (drawbridgeref15_Pseudo.f 1 2 6 (l0.length : Int)).bind fun t365 => (if t365.length + l0.length < 140737488355328 then ((drawbridgeref15_Patch.f (t365 ++ l0) 28).bind fun t371 => (if 12 ≤ (t371.length : Int) then (some (t371.drop (12 : Int).toNat)) else (none))) else (none))
set_option maxHeartbeats 8000000 in
set_option maxRecDepth 100000 in
theorem drawbridgelaw19_patched.calls (A0 : Option Addr) (c0 : Nat) (l0 : List Int) (r : List Int) (w : World) (hr0 : Kd.C (Kd.int .u8) w A0 l0.length l0) (hc0 : l0.length ≤ c0) (h : drawbridgelaw19_patched.f l0 = some r) :
    Calls Try.prog 17 #[.slice A0 l0.length c0] w fun e w' => ∃ v0_ : Value, e = .returned (v0_) ∧ Kd.Q (Kd.int .u8) 5 w' w.heap.size (fun _ => True) v0_ r ∧ Below w.heap.size w w' := by
  have HR0 := Aside0.mk hr0
  have HC0 := Aside0.mk hc0
  clear hr0 hc0
  have HB := Aside0.mk (Below.refl w.heap.size w)
  have H : ((drawbridgeref15_Pseudo.f 1 2 6 (l0.length : Int)).bind fun t365 => (if t365.length + l0.length < 140737488355328 then ((drawbridgeref15_Patch.f (t365 ++ l0) 28).bind fun t371 => (if 12 ≤ (t371.length : Int) then (some (t371.drop (12 : Int).toNat)) else (none))) else (none))) = some r := h
  clear h
  replace H := Option.bind_eq_some_iff.mp H
  obtain ⟨t365, A20, H⟩ := H
  replace H : (if t365.length + l0.length < 140737488355328 then ((drawbridgeref15_Patch.f (t365 ++ l0) 28).bind fun t371 => (if 12 ≤ (t371.length : Int) then (some (t371.drop (12 : Int).toNat)) else (none))) else (none)) = some r := H
  have A2 := Aside0.mk A20
  clear A20
  by_cases c3 : t365.length + l0.length < 140737488355328
  · rw [if_pos c3] at H
    have LMc3 := Aside0.mk c3
    clear c3
    obtain ⟨y368, hy368⟩ : ∃ y_ : List Int, y_ = (t365 ++ l0) := ⟨_, rfl⟩
    replace H : ((drawbridgeref15_Patch.f y368 28).bind fun t371 => (if 12 ≤ (t371.length : Int) then (some (t371.drop (12 : Int).toNat)) else (none))) = some r := by first | (rw [hy368]; with_reducible exact H) | (have H2_ := (Option.bind_some _ _).symm.trans H; rw [hy368]; with_reducible exact H2_) | (have H2_ := (Option.bind_some _ _).symm.trans H; with_reducible exact H2_) | with_reducible exact H | (rw [hy368]; exact H) | exact H
    have Ny368 := Aside0.mk hy368
    clear hy368
    replace H := Option.bind_eq_some_iff.mp H
    obtain ⟨t371, A40, H⟩ := H
    replace H : (if 12 ≤ (t371.length : Int) then (some (t371.drop (12 : Int).toNat)) else (none)) = some r := H
    have A4 := Aside0.mk A40
    clear A40
    by_cases c5 : 12 ≤ (t371.length : Int)
    · rw [if_pos c5] at H
      have c5b0 := eq_true c5
      have c5b1 : decide (12 ≤ (t371.length : Int)) = true := decide_eq_true c5
      clear c5
      obtain ⟨y374, hy374⟩ : ∃ y_ : List Int, y_ = (t371.drop (12 : Int).toNat) := ⟨_, rfl⟩
      replace H : (some y374) = some r := by first | (rw [hy374]; with_reducible exact H) | (have H2_ := (Option.bind_some _ _).symm.trans H; rw [hy374]; with_reducible exact H2_) | (have H2_ := (Option.bind_some _ _).symm.trans H; with_reducible exact H2_) | with_reducible exact H | (rw [hy374]; exact H) | exact H
      have Ny374 := Aside0.mk hy374
      clear hy374
      obtain rfl := Option.some.inj H
      go_enter Try.func17, Try.ntmps17
      go_wp2_with (first | ((with_reducible refine gate_callee (f := 28) rfl ?_); refine goesL_ (some 6) rfl rfl Try.func28 (by kernel_rfl) rfl #[.int .u32 1, .int .u32 2, .int .i64 6, .int .i64 (l0.length : Int)] rfl (by (try simp only [List.map_toArray, List.map_cons, List.map_nil]); first | done | rfl | (simp only [List.length_drop, List.length_take]; rfl)) ?_; (with_reducible refine (drawbridgeref15_Pseudo.calls 1 2 6 (l0.length : Int) t365 _ A2.out).mono ?_); rintro e w6 ⟨v366, rfl, ho0, hb⟩; refine ⟨_, rfl, ?_⟩; have n0_ := Aside0.mk (Kd.R_lower ho0 (below_size (by repeat (first | (with_reducible first | exact HB.out | apply below_alloc | apply pw_below_drewN | apply below_drew1) | exact HB.out)))); have n1_ := Aside0.mk (below_step (by repeat (first | (with_reducible first | exact HB.out | apply below_alloc | apply pw_below_drewN | apply below_drew1) | exact HB.out)) hb); clear HB; have HO367 := n0_; have HB := n1_; clear n0_ n1_; (try clear hb); (try clear hb2); (try clear hk); (try clear hi); (try clear ho0)) | ((with_reducible refine gate_builtin (b := .append) (xs := #[.tmp 6, .tmp 7]) rfl ?_); at_builtin; refine Kd.R_append_rows (Kd.int .u8) (w0 := w) w.heap.size rfl (.tmp 6) (.tmp 7) 23 5 (.int .u8 0) 1 rfl Try.underlying23 info5 rfl (by decide) (by omega) v366 t365 l0 _ _ _ (fun _ => True) (fun _ => False) rfl rfl ?aO ?aR (fun _ _ h => h) (fun _ h => h.elim) ?aF ?aB ?aS ?aL ?_; (case aR => repeat (first | exact (Kd.C_below HR0.out HB.out) | (with_reducible refine Kd.C_alloc ?_ _) | (with_reducible refine Kd.C_drewN ?_ _) | (with_reducible refine Kd.C_drew ?_))); (case aB => exact (by repeat (first | (with_reducible first | exact HB.out | apply below_alloc | apply pw_below_drewN | apply below_drew1) | exact HB.out))); (case aF => exact (fun _ _ => trivial)); (case aO => exact (by (with_reducible repeat (first | apply Kd.R_alloc | apply Kd.R_drewN | apply Kd.R_drew)); exact HO367.out)); (case aS => exact (below_size (by repeat (first | (with_reducible first | exact HB.out | apply below_alloc | apply pw_below_drewN | apply below_drew1) | exact HB.out)))); (case aL => have := LMc3.out; omega); intro v369 w7 ho hb hg hat; rw [← Ny368.out] at ho; have n0_ := Aside0.mk (hb); have n1_ := Aside0.mk (ho); clear HB; clear HO367; have HB := n0_; have HO370 := n1_; clear n0_ n1_; clear ho hb hg hat; obtain ⟨Ao8, co8, eo8⟩ := Kd.R_slice HO370.out; subst eo8) | ((with_reducible refine gate_callee (f := 38) rfl ?_); refine goesL_ (some 10) rfl rfl Try.func38 (by kernel_rfl) rfl #[.slice Ao8 y368.length co8, .int .i64 28] rfl (by (try simp only [List.map_toArray, List.map_cons, List.map_nil]); first | done | rfl | (simp only [List.length_drop, List.length_take]; rfl)) ?_; (with_reducible refine (drawbridgeref15_Patch.calls _ _ y368 28 t371 _ ?side1 ?side2 A4.out).mono ?_); (case side1 => repeat (first | exact (Kd.R_reads' HO370.out).2.2 | (with_reducible refine Kd.C_alloc ?_ _) | (with_reducible refine Kd.C_drewN ?_ _) | (with_reducible refine Kd.C_drew ?_))); (case side2 => exact (Kd.R_reads' HO370.out).2.1); rintro e w9 ⟨v372, rfl, ho0, hb⟩; refine ⟨_, rfl, ?_⟩; have n0_ := Aside0.mk (Kd.R_elder' (by (with_reducible repeat (first | apply Kd.R_alloc | apply Kd.R_drewN | apply Kd.R_drew)); exact HO370.out) (Kd.R_base ho0) hb); have n1_ := Aside0.mk (Kd.R_lower (Kd.R_new' ho0 (Kd.R_lt (by (with_reducible repeat (first | apply Kd.R_alloc | apply Kd.R_drewN | apply Kd.R_drew)); exact HO370.out))) (below_size (by repeat (first | (with_reducible first | exact HB.out | apply below_alloc | apply pw_below_drewN | apply below_drew1) | exact HB.out)))); have n2_ := Aside0.mk (below_step (by repeat (first | (with_reducible first | exact HB.out | apply below_alloc | apply pw_below_drewN | apply below_drew1) | exact HB.out)) hb); clear HO370; clear HB; have HO370 := n0_; have HO373 := n1_; have HB := n2_; clear n0_ n1_ n2_; (try clear hb); (try clear hb2); (try clear hk); (try clear hi); (try clear ho0); obtain ⟨Ao10, co10, eo10⟩ := Kd.R_slice HO373.out; subst eo10; have n_ := Aside0.mk (Kd.R_mono (ok' := (fun k_ => some k_ ≠ (.slice Ao8 y368.length co8 : Value).ownBlock)) HO373.out (fun k_ hk => hk.2)); clear HO373; have HO373 := n_; clear n_; have q11 : (12 : Int) ≤ ((t371.length : Int) : Int) := of_decide_eq_true (by first | (with_reducible assumption) | assumption); obtain ⟨i011, hi011, _, hsz11, _⟩ := info_parts info5; have hcut11 := cut_from (P := Try.prog) 23 5 .i64 Try.underlying23 hi011 1 hsz11 Ao10 t371.length co10 12 (by omega) q11; have hr11 := Kd.Q_drop (k := (12 : Int).toNat) (Kd.Q_of_R HO373.out) (by omega); obtain ⟨A11, hA11⟩ : ∃ A1, A1 = (if co10 = (12 : Int).toNat then Ao10 else (Ao10 : Option Addr).map (·.add ((12 : Int).toNat * 1))) := ⟨_, rfl⟩; obtain ⟨c11, hc11⟩ : ∃ c1, c1 = co10 - (12 : Int).toNat := ⟨_, rfl⟩; have hy11 : y374.length = t371.length - (12 : Int).toNat := (by rw [Ny374.out, List.length_drop]); rw [← Ny374.out] at hr11; rw [← hy11, ← hA11, ← hc11] at hcut11; replace hr11 : Kd.Q (Kd.int .u8) 5 w9 w.heap.size (fun k_ => some k_ ≠ (.slice Ao8 y368.length co8 : Value).ownBlock) (.slice A11 y374.length c11) y374 := (by rw [hA11, hc11, hy11]; exact hr11); have HE11 : Aside0 ((Value.slice A11 y374.length c11).ownBlock = (.slice Ao10 t371.length co10 : Value).ownBlock) := ⟨by rw [hA11]; split <;> (cases (Ao10 : Option Addr) <;> rfl)⟩; clear hy11 hi011 hsz11 HO373 hA11 hc11; have HO376 := Aside0.mk hr11; clear hr11; replace q11 := eq_true q11; have n_ := Aside0.mk (Kd.R_mono (ok' := fun k_ => (True ∧ some k_ ≠ (.slice A11 y374.length c11 : Value).ownBlock)) HO370.out (fun k_ hk => ⟨trivial, (by rw [HE11.out]; exact hk.2)⟩)); clear HO370; have HO370 := n_; clear n_))
      go_ret
      exact ⟨_, by first | rfl | (simp [errW_none, errW_some] <;> rfl) | (simp [*, errW_none, errW_some] <;> rfl), by (with_reducible repeat (first | apply Kd.Q_alloc | apply Kd.Q_drewN | apply Kd.Q_drew)); exact Kd.Q_mono HO376.out (fun _ hk => trivial), by repeat (first | (with_reducible first | exact HB.out | apply below_alloc | apply pw_below_drewN | apply below_drew1) | exact HB.out)⟩
    · rw [if_neg c5] at H
      exact absurd H (by simp)
  · rw [if_neg c3] at H
    exact absurd H (by simp)

end Go.Proofs.Ytndkaffkdjaaoaa.QSeg
/- Bytes that are patched have the checksum nought; a segment with options that nobody knows reads as it was. Plain law. -/
namespace Go.Proofs.Ytndkaffkdjaaoaa.H
open Go.RowKit Go.Proofs.YtndkaffkdjaaoaaW.PrintWords Go.Proofs.YtndkaffkdjaaoaaW.PrintLast Go.Proofs.YtndkaffkdjaaoaaW.PrintMore Go.Proofs.Ytndkaffkdjaaoaa.QSeg
set_option linter.unusedVariables false
set_option linter.unusedSimpArgs false

/-- A row with its checksum at a place. -/
def sealed (X : List Int) (p : Nat) : List Int := (X.set p (csum X / 256)).set (p + 1) (csum X % 256)
theorem sealed_length (X : List Int) (p : Nat) : (sealed X p).length = X.length := by simp [sealed]
theorem set_bytes {l : List Int} (h : Bytes l) (i : Nat) (x : Int) (hx : 0 ≤ x ∧ x < 256) : Bytes (l.set i x) := fun y hy => by
  rcases List.mem_or_eq_of_mem_set hy with h1 | h1
  · exact h y h1
  · rw [h1]; exact hx
theorem sealed_bytes {X : List Int} (hb : Bytes X) (p : Nat) : Bytes (sealed X p) := by
  have := csum_range X hb
  exact set_bytes (set_bytes hb _ _ (by omega)) _ _ (by omega)
theorem parts (X : List Int) (p : Nat) (hp : p + 1 < X.length) : X = X.take p ++ (X.getD p 0 :: X.getD (p + 1) 0 :: X.drop (p + 2)) := by
  have e1 : X.drop p = X[p] :: X.drop (p + 1) := List.drop_eq_getElem_cons (by omega)
  have e2 : X.drop (p + 1) = X[p + 1] :: X.drop (p + 2) := List.drop_eq_getElem_cons hp
  have g1 : X.getD p 0 = X[p] := by rw [List.getD_eq_getElem?_getD, List.getElem?_eq_getElem (by omega)]; rfl
  have g2 : X.getD (p + 1) 0 = X[p + 1] := by rw [List.getD_eq_getElem?_getD, List.getElem?_eq_getElem hp]; rfl
  rw [g1, g2, ← e2, ← e1, List.take_append_drop]
theorem nrm_zero (n : Int) (h0 : 0 ≤ n) : nrm (n + (65535 - nrm n)) = 65535 := by
  unfold nrm
  split <;> split <;> omega
theorem csum_sealed (X : List Int) (p : Nat) (hb : Bytes X) (he : p % 2 = 0) (hp : p + 1 < X.length) (h0 : X.getD p 0 = 0) (h1 : X.getD (p + 1) 0 = 0) : csum (sealed X p) = 0 := by
  have hl : (X.take p).length % 2 = 0 := by rw [List.length_take]; omega
  have e : sealed X p = X.take p ++ (csum X / 256 :: csum X % 256 :: X.drop (p + 2)) := by
    unfold sealed
    rw [← laid_two X p _ _ hp]
    rfl
  have s1 : psum X = psum (X.take p) + psum (X.drop (p + 2)) := by
    conv => lhs; rw [parts X p hp]
    rw [psum_append _ _ hl, h0, h1]
    simp [psum]
  have s2 : psum (sealed X p) = psum X + csum X := by
    rw [e, psum_append _ _ hl, s1, psum]
    omega
  have hr := (psum_le X hb).1
  unfold csum at s2 ⊢
  rw [s2, nrm_zero _ hr]
  rfl

theorem ref15_Sum_f (l : List Int) (hb : Bytes l) (hl : l.length < 140737488355328) : drawbridgeref15_Sum.f l = some (csum l) := by
  unfold drawbridgeref15_Sum.f; rw [if_pos ⟨hb, hl⟩]
theorem ref15_Patch_f (X : List Int) (p : Nat) (hb : Bytes X) (he : p % 2 = 0) (hp : p + 1 < X.length) (hl : X.length < 100000000) :
    drawbridgeref15_Patch.f X p = some (sealed ((X.set p 0).set (p + 1) 0) p) := by
  unfold drawbridgeref15_Patch.f
  have hY : Bytes ((X.set p 0).set (p + 1) 0) := set_bytes (set_bytes hb _ _ (by omega)) _ _ (by omega)
  have w1 : wrap64 ((X.length : Int) - 1) = (X.length : Int) - 1 := wrap64_in _ (by omega) (by omega)
  have w2 : wrap64 ((p : Int) + 1) = ((p + 1 : Nat) : Int) := by rw [wrap64_in _ (by omega) (by omega)]; omega
  have e2 : Int.tmod (p : Int) 2 = 0 := by rw [Int.tmod_eq_emod_of_nonneg (by omega)]; omega
  have hr := csum_range _ hY
  simp only [Option.bind_some, List.nil_append]
  rw [w1, w2, e2]
  rw [if_pos (by simp; omega), if_neg (by omega), if_pos rfl, if_neg (by omega), if_pos (by omega), if_pos (by omega), if_pos (by omega), if_pos (by omega)]
  simp only [Int.toNat_natCast]
  rw [ref15_Sum_f _ hY (by simp; omega)]
  simp only [Option.bind_some]
  rw [Int.tdiv_eq_ediv_of_nonneg hr.1, Int.tmod_eq_emod_of_nonneg hr.1, wrap64_in _ (by omega) (by omega)]
  rw [show csum ((X.set p 0).set (p + 1) 0) / 256 % 256 = csum ((X.set p 0).set (p + 1) 0) / 256 by omega, show csum ((X.set p 0).set (p + 1) 0) % 256 % 256 = csum ((X.set p 0).set (p + 1) 0) % 256 by omega]
  rfl

/-- A segment's bytes, their checksum of the addresses 1 and 2 put. -/
def patched12 (c : List Int) : List Int := (sealed (((pseudo 1 2 6 c.length ++ c).set 28 0).set 29 0) 28).drop 12
theorem patched_f (c : List Int) (hb : Bytes c) (h20 : 20 ≤ c.length) (hl : c.length < 60000) : drawbridgelaw19_patched.f c = some (patched12 c) := by
  unfold drawbridgelaw19_patched.f
  rw [ref15_Pseudo_f 1 2 6 c.length (by decide) (by decide) (by omega)]
  simp only [Option.bind_some]
  rw [if_pos (by rw [pseudo_length]; omega)]
  have hP := ref15_Patch_f (pseudo 1 2 6 c.length ++ c) 28 ((pseudo_bytes _ _ _ _).append hb) rfl (by rw [List.length_append, pseudo_length]; omega) (by rw [List.length_append, pseudo_length]; omega)
  rw [show ((28 : Nat) : Int) = 28 from rfl] at hP
  rw [hP]
  simp only [Option.bind_some]
  rw [if_pos (by rw [sealed_length]; simp [pseudo_length]; omega)]
  rfl
theorem drop_set (l : List Int) (k i : Nat) (x : Int) : (l.set (k + i) x).drop k = (l.drop k).set i x := by
  induction k generalizing l with
  | zero => simp
  | succ k ih =>
    cases l with
    | nil => simp
    | cons a t => rw [show k + 1 + i = (k + i) + 1 by omega]; simp [ih]
theorem take_set_above (l : List Int) (k i : Nat) (x : Int) (h : k ≤ i) : (l.set i x).take k = l.take k := by
  rw [List.take_set, List.set_eq_of_length_le (by rw [List.length_take]; omega)]
/-- It is the bytes, but for places 16 and 17; its checksum is right. -/
theorem patched12_tells (c : List Int) (hb : Bytes c) (h20 : 20 ≤ c.length) : ∃ x y, 0 ≤ x ∧ x < 256 ∧ 0 ≤ y ∧ y < 256 ∧ patched12 c = (c.set 16 x).set 17 y ∧ csum (pseudo 1 2 6 c.length ++ patched12 c) = 0 := by
  have hB : Bytes (pseudo 1 2 6 c.length ++ c) := (pseudo_bytes _ _ _ _).append hb
  have hlen : (pseudo 1 2 6 c.length ++ c).length = 12 + c.length := by rw [List.length_append, pseudo_length]
  have hp := pseudo_length 1 2 6 c.length
  unfold patched12
  obtain ⟨X, hX⟩ : ∃ X, pseudo 1 2 6 c.length ++ c = X := ⟨_, rfl⟩
  have hd : X.drop 12 = c := by rw [← hX, List.drop_append_of_le_length (by omega), List.drop_of_length_le (by omega), List.nil_append]
  have ht : X.take 12 = pseudo 1 2 6 c.length := by rw [← hX, List.take_append_of_le_length (by omega), List.take_of_length_le (by omega)]
  rw [hX] at hB hlen ⊢
  have hY : Bytes ((X.set 28 0).set 29 0) := set_bytes (set_bytes hB _ _ (by omega)) _ _ (by omega)
  have hr := csum_range _ hY
  have hz := csum_sealed ((X.set 28 0).set 29 0) 28 hY rfl (by simp; omega) (by rw [getD_set _ _ _ _ (by simp; omega), if_neg (by omega), getD_set _ _ _ _ (by omega), if_pos rfl]) (by rw [getD_set _ _ _ _ (by simp; omega), if_pos rfl])
  have hT : (sealed ((X.set 28 0).set 29 0) 28).take 12 = pseudo 1 2 6 c.length := by
    unfold sealed
    rw [take_set_above _ _ _ _ (by omega), take_set_above _ _ _ _ (by omega), take_set_above _ _ _ _ (by omega), take_set_above _ _ _ _ (by omega), ht]
  refine ⟨csum ((X.set 28 0).set 29 0) / 256, csum ((X.set 28 0).set 29 0) % 256, by omega, by omega, by omega, by omega, ?_, ?_⟩
  · unfold sealed
    rw [drop_set _ 12 17, drop_set _ 12 16, drop_set _ 12 17, drop_set _ 12 16, hd]
    refine list_ext _ _ (by simp) fun j hj => ?_
    simp only [List.length_set] at hj
    simp only [getD_set _ _ _ _ (show j < (((c.set 16 0).set 17 0).set 16 (csum ((X.set 28 0).set 29 0) / 256)).length by simp; omega), getD_set _ _ _ _ (show j < ((c.set 16 0).set 17 0).length by simp; omega), getD_set _ _ _ _ (show j < (c.set 16 0).length by simp; omega), getD_set _ _ _ _ hj, getD_set _ _ _ _ (show j < (c.set 16 (csum ((X.set 28 0).set 29 0) / 256)).length by simp; omega)]
    by_cases c1 : 17 = j
    · rw [if_pos c1, if_pos c1]
    · rw [if_neg c1, if_neg c1]
      by_cases c2 : 16 = j
      · rw [if_pos c2, if_neg c1, if_pos c2]
      · simp only [if_neg c1, if_neg c2]
  · rw [← hT, List.take_append_drop]
    exact hz

end Go.Proofs.Ytndkaffkdjaaoaa.H
/- A segment with options that nobody knows reads as it was. Plain law. -/
namespace Go.Proofs.Ytndkaffkdjaaoaa.H
open Go.RowKit Go.Proofs.YtndkaffkdjaaoaaW.PrintWords Go.Proofs.YtndkaffkdjaaoaaW.PrintLast Go.Proofs.YtndkaffkdjaaoaaW.PrintMore Go.Proofs.Ytndkaffkdjaaoaa.QSeg
set_option linter.unusedVariables false
set_option linter.unusedSimpArgs false

/-- One, a kind, a length, n noughts, j ones. -/
def optB (kind : Int) (n j : Nat) : List Int := [1, kind, (n : Int) + 2] ++ List.replicate n 0 ++ List.replicate j 1
theorem optB_length (kind : Int) (n j : Nat) : (optB kind n j).length = 3 + n + j := by simp [optB]; omega
theorem optB_snoc (kind : Int) (n j : Nat) : optB kind n j ++ [1] = optB kind n (j + 1) := by
  unfold optB
  rw [List.append_assoc, ← List.replicate_succ']
theorem optB_zero (kind : Int) (n : Nat) : [1, kind, (n : Int) + 2] ++ List.replicate n 0 = optB kind n 0 := by simp [optB]
theorem optB_bytes (kind : Int) (n j : Nat) (hk : 0 ≤ kind ∧ kind < 256) (hn : n ≤ 30) : Bytes (optB kind n j) := by
  intro x hx
  simp only [optB, List.mem_append, List.mem_cons, List.not_mem_nil, or_false, List.mem_replicate] at hx
  omega
theorem mssF_ones : ∀ (k j : Nat) (f : Int) (m : Bool), mssF k (List.replicate j 1) f m = (f, true)
  | 0, _, _, _ => rfl
  | k + 1, 0, _, _ => rfl
  | k + 1, j + 1, f, m => by
    rw [mssF_nop _ _ _ _ (by simp) (by simp [List.replicate_succ])]
    exact mssF_ones k j f m
theorem mss_optB (kind : Int) (n j : Nat) (hk : 3 ≤ kind) : mssO (optB kind n j) = (0, true) := by
  unfold mssO
  rw [optB_length, show 3 + n + j = (1 + n + j) + 1 + 1 by omega]
  have e : optB kind n j = 1 :: kind :: ((n : Int) + 2) :: (List.replicate n 0 ++ List.replicate j 1) := by simp [optB]
  rw [e, mssF_nop _ _ _ _ (by simp) (by simp)]
  have e1 : (1 :: kind :: ((n : Int) + 2) :: (List.replicate n 0 ++ List.replicate j 1)).drop 1 = kind :: ((n : Int) + 2) :: (List.replicate n 0 ++ List.replicate j 1) := rfl
  rw [e1, mssF_skip _ _ _ _ (by simp) (by simp; omega) (by simp; omega) (by simp; omega) (by simp; omega)]
  have e2 : (kind :: ((n : Int) + 2) :: (List.replicate n 0 ++ List.replicate j 1)).drop ((kind :: ((n : Int) + 2) :: (List.replicate n 0 ++ List.replicate j 1)).getD 1 0).toNat = List.replicate j 1 := by
    have : ((kind :: ((n : Int) + 2) :: (List.replicate n 0 ++ List.replicate j 1)).getD 1 0).toNat = n + 2 := by simp; omega
    rw [this, List.drop_succ_cons, List.drop_succ_cons, List.drop_append_of_le_length (by simp), List.drop_of_length_le (by simp), List.nil_append]
  rw [e2, mssF_ones]

/-- A segment's first twenty bytes. -/
def head20 (a0 a1 a2 a3 a4 a5 t x y : Int) : List Int :=
  [a0 / 256 % 256, a0 % 256, a1 / 256 % 256, a1 % 256, a2 / 16777216 % 256, a2 / 65536 % 256, a2 / 256 % 256, a2 % 256, a3 / 16777216 % 256, a3 / 65536 % 256, a3 / 256 % 256, a3 % 256, t, a4 % 256, a5 / 256 % 256, a5 % 256, x, y, 0, 0]
theorem head_raw (a0 a1 a2 a3 a4 a5 : Int) (l : List Int) : segRaw a0 a1 a2 a3 a4 a5 0 l = head20 a0 a1 a2 a3 a4 a5 80 0 0 ++ l := by
  simp [segRaw, segRows, segOpts, beN_cons, beN_zero, head20]
theorem head_seg (a0 a1 a2 a3 a4 a5 : Int) (l : List Int) (s d : Int) : ∃ x y, segBytes a0 a1 a2 a3 a4 a5 0 l s d = head20 a0 a1 a2 a3 a4 a5 80 x y ++ l := by
  unfold segBytes
  rw [head_raw]
  generalize csum (pseudo s d 6 ((head20 a0 a1 a2 a3 a4 a5 80 0 0 ++ l).length : Int) ++ (head20 a0 a1 a2 a3 a4 a5 80 0 0 ++ l)) = ck
  refine ⟨ck / 2 ^ (8 * 1) % 256, ck / 2 ^ (8 * 0) % 256, ?_⟩
  rw [beN_cons, beN_cons, beN_zero]
  rfl
theorem segRaw_bytes (a0 a1 a2 a3 a4 a5 a6 : Int) (l : List Int) (hb : Bytes l) : Bytes (segRaw a0 a1 a2 a3 a4 a5 a6 l) := by
  intro x hx
  obtain ⟨y, hy, hxy⟩ := List.mem_flatten.1 hx
  simp only [segRows, List.mem_cons, List.not_mem_nil, or_false] at hy
  rcases hy with rfl | rfl | rfl | rfl | rfl | rfl | rfl | rfl | rfl | rfl
  all_goals first | exact beN_bytes _ _ x hxy | exact segOpts_bytes _ x hxy | exact hb x hxy
/-- What is put together of a segment's bytes and options. -/
def joined (b O : List Int) : List Int := (((b.take 20 ++ O ++ b.drop 20).set 12 (80 + 4 * (O.length : Int))).set 16 0).set 17 0
theorem joined_is (a0 a1 a2 a3 a4 a5 x y : Int) (l O : List Int) : joined (head20 a0 a1 a2 a3 a4 a5 80 x y ++ l) O = head20 a0 a1 a2 a3 a4 a5 (80 + 4 * (O.length : Int)) 0 0 ++ (O ++ l) := by
  simp [joined, head20]
theorem be2 (a : Int) (h0 : 0 ≤ a) (h : a < 65536) : beV [a / 256 % 256, a % 256] = a := by simp [beV]; omega
theorem be4 (a : Int) (h0 : 0 ≤ a) (h : a < 4294967296) : beV [a / 16777216 % 256, a / 65536 % 256, a / 256 % 256, a % 256] = a := by simp [beV]; omega

theorem options_read (a0 a1 a2 a3 a4 a5 : Int) (l : List Int) (kind : Int) (n j : Nat) (hs : sameB a0 a1 a4 a5 = true) (h2 : 0 ≤ a2 ∧ a2 < 4294967296) (h3 : 0 ≤ a3 ∧ a3 < 4294967296) (hb : Bytes l) (hl : l.length ≤ 3000)
    (hk : 3 ≤ kind ∧ kind < 256) (hn : n ≤ 30) (hj : j ≤ 3) (h4 : (3 + n + j) % 4 = 0) :
    segGet (patched12 (joined (segBytes a0 a1 a2 a3 a4 a5 0 l 1 2) (optB kind n j))) 1 2 = (a0, a1, a2, a3, a4, a5, 0, l, 0) := by
  obtain ⟨k0, k1, k4, k5⟩ : (0 ≤ a0 ∧ a0 < 65536) ∧ (0 ≤ a1 ∧ a1 < 65536) ∧ (0 ≤ a4 ∧ a4 < 64) ∧ (0 ≤ a5 ∧ a5 < 65536) := by
    unfold sameB at hs
    exact of_decide_eq_true hs
  obtain ⟨x, y, hxy⟩ := head_seg a0 a1 a2 a3 a4 a5 l 1 2
  rw [hxy, joined_is]
  have hO := optB_length kind n j
  have hOb := optB_bytes kind n j (by omega) hn
  have hmss := mss_optB kind n j hk.1
  generalize optB kind n j = O at *
  have hlen : (head20 a0 a1 a2 a3 a4 a5 (80 + 4 * (O.length : Int)) 0 0 ++ (O ++ l)).length = 20 + O.length + l.length := by simp [head20]; omega
  have hB : Bytes (head20 a0 a1 a2 a3 a4 a5 (80 + 4 * (O.length : Int)) 0 0 ++ (O ++ l)) := by
    refine Bytes.append (fun z hz => ?_) (hOb.append hb)
    simp only [head20, List.mem_cons, List.not_mem_nil, or_false] at hz
    omega
  obtain ⟨u, v, hu0, hu1, hv0, hv1, he, hc⟩ := patched12_tells _ hB (by omega)
  have hq : patched12 (head20 a0 a1 a2 a3 a4 a5 (80 + 4 * (O.length : Int)) 0 0 ++ (O ++ l)) = head20 a0 a1 a2 a3 a4 a5 (80 + 4 * (O.length : Int)) u v ++ (O ++ l) := by
    rw [he]; simp [head20]
  rw [hlen] at hc
  rw [hq] at hc ⊢
  have hlen2 : (head20 a0 a1 a2 a3 a4 a5 (80 + 4 * (O.length : Int)) u v ++ (O ++ l)).length = 20 + O.length + l.length := by simp [head20]; omega
  have g12 : (head20 a0 a1 a2 a3 a4 a5 (80 + 4 * (O.length : Int)) u v ++ (O ++ l)).getD 12 0 = 80 + 4 * (O.length : Int) := rfl
  have g13 : (head20 a0 a1 a2 a3 a4 a5 (80 + 4 * (O.length : Int)) u v ++ (O ++ l)).getD 13 0 = a4 % 256 := rfl
  have hlong : (80 + 4 * (O.length : Int)) / 16 * 4 = ((20 + O.length : Nat) : Int) := by omega
  have hH : (head20 a0 a1 a2 a3 a4 a5 (80 + 4 * (O.length : Int)) u v).length = 20 := rfl
  have ht : ((head20 a0 a1 a2 a3 a4 a5 (80 + 4 * (O.length : Int)) u v ++ (O ++ l)).take (20 + O.length)).drop 20 = O := by
    rw [List.take_append, hH, List.take_of_length_le (by rw [hH]; omega), show 20 + O.length - 20 = O.length by omega, List.take_append_of_le_length (Nat.le_refl _), List.take_length, List.drop_append_of_le_length (by rw [hH]; omega), List.drop_of_length_le (by rw [hH]; omega), List.nil_append]
  have hd : (head20 a0 a1 a2 a3 a4 a5 (80 + 4 * (O.length : Int)) u v ++ (O ++ l)).drop (20 + O.length) = l := by
    rw [List.drop_append, hH, List.drop_of_length_le (by rw [hH]; omega), List.nil_append, show 20 + O.length - 20 = O.length by omega, List.drop_append_of_le_length (Nat.le_refl _), List.drop_length, List.nil_append]
  have f0 : fld (head20 a0 a1 a2 a3 a4 a5 (80 + 4 * (O.length : Int)) u v ++ (O ++ l)) 0 2 = a0 := be2 a0 k0.1 k0.2
  have f1 : fld (head20 a0 a1 a2 a3 a4 a5 (80 + 4 * (O.length : Int)) u v ++ (O ++ l)) 2 2 = a1 := be2 a1 k1.1 k1.2
  have f2 : fld (head20 a0 a1 a2 a3 a4 a5 (80 + 4 * (O.length : Int)) u v ++ (O ++ l)) 4 4 = a2 := be4 a2 h2.1 h2.2
  have f3 : fld (head20 a0 a1 a2 a3 a4 a5 (80 + 4 * (O.length : Int)) u v ++ (O ++ l)) 8 4 = a3 := be4 a3 h3.1 h3.2
  have f5 : fld (head20 a0 a1 a2 a3 a4 a5 (80 + 4 * (O.length : Int)) u v ++ (O ++ l)) 14 2 = a5 := be2 a5 k5.1 k5.2
  have hc' : csum (pseudo 1 2 6 ((20 + O.length + l.length : Nat) : Int) ++ (head20 a0 a1 a2 a3 a4 a5 (80 + 4 * (O.length : Int)) u v ++ (O ++ l))) = 0 := hc
  have hE : segErr (head20 a0 a1 a2 a3 a4 a5 (80 + 4 * (O.length : Int)) u v ++ (O ++ l)) 1 2 = 0 := by
    unfold segErr
    rw [hlen2, g12, hlong, Int.toNat_natCast, ht, hmss, hc', if_neg (by omega), if_neg (by omega), if_neg (by omega), if_neg (by simp), if_neg (by simp)]
  unfold segGet
  rw [if_pos hE, g12, g13, hlong, Int.toNat_natCast, ht, hd, hmss, f0, f1, f2, f3, f5, show a4 % 256 % 64 = a4 by omega]

end Go.Proofs.Ytndkaffkdjaaoaa.H
/- A step of a walk: noughts appended. -/
namespace Go.Proofs.Ytndkaffkdjaaoaa.H
open Go.RowKit Go.Proofs.YtndkaffkdjaaoaaW.PrintWords Go.Proofs.YtndkaffkdjaaoaaW.PrintLast Go.Proofs.YtndkaffkdjaaoaaW.PrintMore
set_option linter.unusedVariables false
set_option linter.unusedSimpArgs false
section
variable {P : Program} {ops : Array Oper} {rest : List Oper} {o : Oper} {a : Act} {W : World} {Q : Exit → Act → World → Prop}
/-- 'append(l, make([]byte, n)...)'. -/
theorem R_zeros_W {e : Nat} {w0 : World} (hgd : o.guard = none) (s x : Operand) (t ti : TypeId) (ho : o.op = .call { callee := .builtin .append, args := #[s, x], argTypes := #[t, ti] })
    (ht : P.underlying t = some (.slice e)) (hti : P.underlying ti = some (.int .i64)) (hinfo : (P.info? e).map (fun i => (i.zero, i.size, i.bytes)) = some (some (.int .u8 0), 1, 1)) {A : Option Addr} {c : Nat} {l : List Int} (n : Nat) (hs : a.eval s = .slice A l.length c) (hx : a.eval x = .int .i64 n)
    (HO : Kd.R (Kd.int .u8) e W w0.heap.size (fun _ => True) (.slice A l.length c) l) (HB : Below w0.heap.size w0 W) (hl : l.length + n ≤ 140737488355328)
    (h : ∀ A1 c1 (ls : List Int) w1, Aside0 (ls = l ++ List.replicate n 0) → Kd.R (Kd.int .u8) e w1 w0.heap.size (fun _ => True) (.slice A1 ls.length c1) ls → Below w0.heap.size w0 w1 → W.grownBy w1 (Value.slice A l.length c).ownBlock → ((Value.slice A1 ls.length c1).ownBlock = (Value.slice A l.length c).ownBlock ∨ ∃ b, (Value.slice A1 ls.length c1).ownBlock = some b ∧ W.heap.size ≤ b) → wpList P ops Q rest (a.put o.dst (.slice A1 ls.length c1)) w1) :
    wpList P ops Q (o :: rest) a W :=
  Kd.R_append_zeros (Kd.int .u8) (w0 := w0) w0.heap.size hgd s x t ti e (.int .u8 0) 1 ho ht hti hinfo rfl (by decide) (by omega) (.slice A l.length c) l 0 n (fun _ => True) hs hx rfl (fun _ _ => trivial) HO (by omega) HB HB.size (by rw [Int.toNat_natCast]; omega) (fun v1 w1 ho hb hg hat => by
    obtain ⟨A1, c1, rfl⟩ := Kd.R_slice ho
    exact h A1 c1 _ w1 ⟨by rw [Int.toNat_natCast]⟩ ho hb hg hat)
end

end Go.Proofs.Ytndkaffkdjaaoaa.H
