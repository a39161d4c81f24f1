/- Parts of a proof: contracts of functions that the law reaches. -/
import Derived.Test.YtndkaffkdjaaoaaTg
namespace Go.Proofs.Ytndkaffkdjaaoaa.QSeg
open Go.RowKit Go.Proofs.Ytndkaffkdjaaoaa.H Go.Proofs.YtndkaffkdjaaoaaW.PrintWords Go.Proofs.YtndkaffkdjaaoaaW.PrintLast Go.Proofs.YtndkaffkdjaaoaaW.PrintMore
attribute [local go_sem] max2_int min2_int max_two min_two max_three min_three max_four min_four   -- for this text's walks alone
set_option linter.unusedVariables false
set_option linter.unusedSimpArgs false

/-! ### drawbridgeref19_mss: function 36 -/
mutual
def drawbridgeref19_mss.l0 : Nat → List Int → Int → Bool → Int → Option (Int × Bool)
  | 0, _, _, _, _ => none
  | k + 1, x0, x4, x5, x6 => if x6 < (x0.length : Int) then (if 0 ≤ x6 then (if (rd x0 x6) = 0 then (some (x4, true)) else (if (rd x0 x6) = 1 then (drawbridgeref19_mss.l0 k x0 x4 x5 (wrap64 (x6 + 1))) else (if (wrap64 (x6 + 1)) ≥ (x0.length : Int) then (drawbridgeref19_mss.j1 k x0 x4 x5 x6 true) else (if 0 ≤ (wrap64 (x6 + 1)) then (if (wrap64 (x6 + 1)) < (x0.length : Int) then (if (rd x0 (wrap64 (x6 + 1))) < 2 then (drawbridgeref19_mss.j1 k x0 x4 x5 x6 true) else (drawbridgeref19_mss.j1 k x0 x4 x5 x6 (decide ((wrap64 (rd x0 (wrap64 (x6 + 1)))) > (wrap64 ((x0.length : Int) - x6)))))) else (none)) else (none))))) else (none)) else (some (x4, true))
def drawbridgeref19_mss.j1 : Nat → List Int → Int → Bool → Int → Bool → Option (Int × Bool)
  | 0, _, _, _, _, _ => none
  | k + 1, x0, x4, x5, x6, x49 => if x49 = true then (some (0, false)) else (if 0 ≤ x6 then (if x6 < (x0.length : Int) then (if (rd x0 x6) = 2 then (if 0 ≤ (wrap64 (x6 + 1)) then (if (wrap64 (x6 + 1)) < (x0.length : Int) then (if (rd x0 (wrap64 (x6 + 1))) = 4 then (if x5 = true then (drawbridgeref19_mss.l0 k x0 x4 x5 (wrap64 (x6 + (wrap64 (rd x0 (wrap64 (x6 + 1))))))) else (if 0 ≤ (wrap64 (x6 + 2)) then (if (wrap64 (x6 + 2)) ≤ (wrap64 (x6 + 4)) then (if (wrap64 (x6 + 4)) ≤ (x0.length : Int) then ((drawbridgeref19_get.f ((x0.take ((wrap64 (x6 + 4)) : Int).toNat).drop ((wrap64 (x6 + 2)) : Int).toNat)).bind fun t267 => (drawbridgeref19_mss.l0 k x0 (wrap64 (t267)) true (wrap64 (x6 + (wrap64 (rd x0 (wrap64 (x6 + 1)))))))) else (none)) else (none)) else (none))) else (drawbridgeref19_mss.l0 k x0 x4 x5 (wrap64 (x6 + (wrap64 (rd x0 (wrap64 (x6 + 1)))))))) else (none)) else (none)) else (if 0 ≤ (wrap64 (x6 + 1)) then (if (wrap64 (x6 + 1)) < (x0.length : Int) then (drawbridgeref19_mss.l0 k x0 x4 x5 (wrap64 (x6 + (wrap64 (rd x0 (wrap64 (x6 + 1))))))) else (none)) else (none))) else (none)) else (none))
end
def drawbridgeref19_mss.f (k : Nat) (l0 : List Int) : Option (Int × Bool) := drawbridgeref19_mss.l0 k l0 0 false 0
theorem drawbridgeref19_mss.mono_l : ∀ k, (∀ y0 y1 y2 y3, LeO (drawbridgeref19_mss.l0 k y0 y1 y2 y3) (drawbridgeref19_mss.l0 (k + 1) y0 y1 y2 y3)) ∧ (∀ y0 y1 y2 y3 y4, LeO (drawbridgeref19_mss.j1 k y0 y1 y2 y3 y4) (drawbridgeref19_mss.j1 (k + 1) y0 y1 y2 y3 y4))
  | 0 => ⟨fun _ _ _ _ r h => by simp [drawbridgeref19_mss.l0] at h, fun _ _ _ _ _ r h => by simp [drawbridgeref19_mss.j1] at h⟩
  | k + 1 => by
    obtain ⟨ih0, ih1⟩ := drawbridgeref19_mss.mono_l k
    refine ⟨?_, ?_⟩
    · intro y0 y1 y2 y3
      unfold drawbridgeref19_mss.l0
      repeat' first
      | (with_reducible exact ih0 _ _ _ _)
      | (with_reducible exact ih1 _ _ _ _ _)
      | (with_reducible exact LeO.refl _)
      | (with_reducible exact LeO.none _)
      | (with_reducible refine LeO.ite ?_ ?_)
      | (with_reducible refine LeO.bind ?_ (fun _ => ?_))
      | exact ih0 _ _ _ _
      | exact ih1 _ _ _ _ _
      | exact LeO.none _
      | refine LeO.ite ?_ ?_
      | refine LeO.bind ?_ (fun _ => ?_)
    · intro y0 y1 y2 y3 y4
      unfold drawbridgeref19_mss.j1
      repeat' first
      | (with_reducible exact ih0 _ _ _ _)
      | (with_reducible exact ih1 _ _ _ _ _)
      | (with_reducible exact LeO.refl _)
      | (with_reducible exact LeO.none _)
      | (with_reducible refine LeO.ite ?_ ?_)
      | (with_reducible refine LeO.bind ?_ (fun _ => ?_))
      | exact ih0 _ _ _ _
      | exact ih1 _ _ _ _ _
      | exact LeO.none _
      | refine LeO.ite ?_ ?_
      | refine LeO.bind ?_ (fun _ => ?_)
theorem drawbridgeref19_mss.mono : ∀ a0 k, LeO (drawbridgeref19_mss.f k a0) (drawbridgeref19_mss.f (k + 1) a0) := by
  intro a0 k
  obtain ⟨ih0, ih1⟩ := drawbridgeref19_mss.mono_l k
  unfold drawbridgeref19_mss.f
  repeat' first
      | (with_reducible exact ih0 _ _ _ _)
      | (with_reducible exact ih1 _ _ _ _ _)
      | (with_reducible exact LeO.refl _)
      | (with_reducible exact LeO.none _)
      | (with_reducible refine LeO.ite ?_ ?_)
      | (with_reducible refine LeO.bind ?_ (fun _ => ?_))
      | exact ih0 _ _ _ _
      | exact ih1 _ _ _ _ _
      | exact LeO.none _
      | refine LeO.ite ?_ ?_
      | refine LeO.bind ?_ (fun _ => ?_)
set_option maxHeartbeats 8000000 in
set_option maxRecDepth 100000 in
theorem drawbridgeref19_mss.calls (k : Nat) (A0 : Option Addr) (c0 : Nat) (l0 : List Int) (r1 : Int) (r2 : Bool) (w : World) (hr0 : Kd.C (Kd.int .u8) w A0 l0.length l0) (hc0 : l0.length ≤ c0) (h : drawbridgeref19_mss.f k l0 = some (r1, r2)) :
    Calls Try.prog 36 #[.slice A0 l0.length c0] w fun e w' => e = .returned (.tuple #[.int .i64 r1, .bool r2]) ∧ Drawn0 w w' := by
  have HR0 := Aside0.mk hr0
  have HC0 := Aside0.mk hc0
  clear hr0 hc0
  have H : (drawbridgeref19_mss.l0 k l0 0 false 0) = some (r1, r2) := h
  clear h
  have H' := Aside0.mk H
  clear H
  go_enter Try.func36, Try.ntmps36
  go_wp2
  go_loopg [4, 5, 6] k (fun kq v4 v5 v6 w' => ∃ (x4_1 : Int) (x5_1 : Bool) (x6_1 : Int), v4 = .int .i64 x4_1 ∧ v5 = .bool x5_1 ∧ v6 = .int .i64 x6_1 ∧ Aside0 (drawbridgeref19_mss.l0 kq l0 x4_1 x5_1 x6_1 = some (r1, r2)) ∧ Aside0 (kq ≤ k) ∧ Drawn0 w w')
  case atStart => exact ⟨(0), (false), (0), (by first | rfl | (simp; done) | (simp [*]; done)), (by first | rfl | (simp; done) | (simp [*]; done)), (by first | rfl | (simp; done) | (simp [*]; done)), H', ⟨Nat.le_refl _⟩, by repeat (first | exact Drawn0.refl _ | apply Drawn0.step)⟩
  case round =>
    clear H'
    obtain ⟨x4_1, x5_1, x6_1, rfl, rfl, rfl, HA, HK1, ⟨m1, rfl⟩⟩ := hrel
    cases gk with
    | zero => exact absurd HA.out (by simp [drawbridgeref19_mss.l0])
    | succ k1 =>
      have H := HA.out
      clear HA
      simp only [drawbridgeref19_mss.l0] at H
      by_cases c2 : x6_1 < (l0.length : Int)
      · rw [if_pos c2] at H
        have c2b0 : decide (x6_1 < (l0.length : Int)) = true := decide_eq_true c2
        clear c2
        by_cases c3 : 0 ≤ x6_1
        · rw [if_pos c3] at H
          have c3b0 : decide (0 ≤ x6_1) = true := decide_eq_true c3
          clear c3
          by_cases c4 : (rd l0 x6_1) = 0
          · rw [if_pos c4] at H
            have c4b0 : ((rd l0 x6_1) == 0) = true := beq_iff_eq.mpr c4
            have c4b1 : ((rd l0 x6_1) != 0) = false := bne_eq_false_iff_eq.mpr c4
            clear c4
            simp only [Option.some.injEq, Prod.mk.injEq] at H
            obtain ⟨rfl, rfl⟩ := H
            have p259 : 0 ≤ (x6_1 : Int) := of_decide_eq_true (by first | (with_reducible assumption) | assumption)
            have q259 : x6_1 < (l0.length : Int) := of_decide_eq_true (by first | (with_reducible assumption) | assumption)
            obtain ⟨ad259, e259, hx259_0⟩ := Kd.at_int HR0.out x6_1 p259 q259
            cases e259
            replace p259 := eq_true p259
            replace q259 := eq_true q259
            go_wp2
            go_ret2
            exact ⟨by first | rfl | (simp; done) | (simp [*]; done), by repeat (first | exact Drawn0.refl _ | apply Drawn0.step)⟩
          · rw [if_neg c4] at H
            have c4b0 : ((rd l0 x6_1) == 0) = false := beq_eq_false_iff_ne.mpr c4
            have c4b1 : ((rd l0 x6_1) != 0) = true := bne_iff_ne.mpr c4
            by_cases c5 : (rd l0 x6_1) = 1
            · rw [if_pos c5] at H
              have c5b0 : ((rd l0 x6_1) == 1) = true := beq_iff_eq.mpr c5
              have c5b1 : ((rd l0 x6_1) != 1) = false := bne_eq_false_iff_eq.mpr c5
              clear c5
              have H' := Aside0.mk H
              clear H
              have p259 : 0 ≤ (x6_1 : Int) := of_decide_eq_true (by first | (with_reducible assumption) | assumption)
              have q259 : x6_1 < (l0.length : Int) := of_decide_eq_true (by first | (with_reducible assumption) | assumption)
              obtain ⟨ad259, e259, hx259_0⟩ := Kd.at_int HR0.out x6_1 p259 q259
              cases e259
              replace p259 := eq_true p259
              replace q259 := eq_true q259
              have p260 : 0 ≤ (x6_1 : Int) := of_decide_eq_true (by first | (with_reducible assumption) | assumption)
              have q260 : x6_1 < (l0.length : Int) := of_decide_eq_true (by first | (with_reducible assumption) | assumption)
              obtain ⟨ad260, e260, hx260_0⟩ := Kd.at_int HR0.out x6_1 p260 q260
              obtain rfl : ad259 = ad260 := (by injection e260)
              replace p260 := eq_true p260
              replace q260 := eq_true q260
              go_wp2
              go_roundg k1
              case measure => have := HK1.out; omega
              case rel => exact ⟨(x4_1), (x5_1), (wrap64 (x6_1 + 1)), (by first | rfl | (simp; done) | (simp [*]; done)), (by first | rfl | (simp; done) | (simp [*]; done)), (by first | rfl | (simp; done) | (simp [*]; done)), H', ⟨by have := HK1.out; omega⟩, by repeat (first | exact Drawn0.refl _ | apply Drawn0.step)⟩
            · rw [if_neg c5] at H
              have c5b0 : ((rd l0 x6_1) == 1) = false := beq_eq_false_iff_ne.mpr c5
              have c5b1 : ((rd l0 x6_1) != 1) = true := bne_iff_ne.mpr c5
              have HC6 := Aside0.mk H
              clear H
              have p259 : 0 ≤ (x6_1 : Int) := of_decide_eq_true (by first | (with_reducible assumption) | assumption)
              have q259 : x6_1 < (l0.length : Int) := of_decide_eq_true (by first | (with_reducible assumption) | assumption)
              obtain ⟨ad259, e259, hx259_0⟩ := Kd.at_int HR0.out x6_1 p259 q259
              cases e259
              replace p259 := eq_true p259
              replace q259 := eq_true q259
              have p260 : 0 ≤ (x6_1 : Int) := of_decide_eq_true (by first | (with_reducible assumption) | assumption)
              have q260 : x6_1 < (l0.length : Int) := of_decide_eq_true (by first | (with_reducible assumption) | assumption)
              obtain ⟨ad260, e260, hx260_0⟩ := Kd.at_int HR0.out x6_1 p260 q260
              obtain rfl : ad259 = ad260 := (by injection e260)
              replace p260 := eq_true p260
              replace q260 := eq_true q260
              go_upto_region 8 with (fail)
              go_cut [49] (fun v49 wc => ∃ (kq : Nat) (x49_5 : Bool), v49 = .bool x49_5 ∧ Aside0 (drawbridgeref19_mss.j1 kq l0 x4_1 x5_1 x6_1 x49_5 = some (r1, r2)) ∧ Aside0 (kq ≤ k1) ∧ Drawn0 w wc)
              case first =>
                have H := HC6.out
                clear HC6
                by_cases c7 : (wrap64 (x6_1 + 1)) ≥ (l0.length : Int)
                · rw [if_pos c7] at H
                  have c7b0 : decide ((l0.length : Int) ≤ (wrap64 (x6_1 + 1))) = true := decide_eq_true c7
                  clear c7
                  (first | rw [c7b0] | (simp only [i64_w, i32_w]; rw [c7b0]) | skip)
                  have H' := Aside0.mk H
                  clear H
                  go_wp2
                  go_meet
                  case rel => exact ⟨_, (true), (by first | rfl | (simp; done) | (simp [*]; done)), H', ⟨by have := HK1.out; first | omega | exact Nat.le_refl _⟩, by repeat (first | exact Drawn0.refl _ | apply Drawn0.step)⟩
                · rw [if_neg c7] at H
                  have c7b0 : decide ((l0.length : Int) ≤ (wrap64 (x6_1 + 1))) = false := decide_eq_false c7
                  clear c7
                  (first | rw [c7b0] | (simp only [i64_w, i32_w]; rw [c7b0]) | skip)
                  obtain ⟨ji8, hji8⟩ : ∃ j_ : Int, (wrap64 (x6_1 + 1)) = j_ := ⟨_, rfl⟩
                  replace H : (if 0 ≤ (ji8) then (if (ji8) < (l0.length : Int) then (if (rd l0 (ji8)) < 2 then (drawbridgeref19_mss.j1 k1 l0 x4_1 x5_1 x6_1 true) else (drawbridgeref19_mss.j1 k1 l0 x4_1 x5_1 x6_1 (decide ((wrap64 (rd l0 (ji8))) > (wrap64 ((l0.length : Int) - x6_1)))))) else (none)) else (none)) = some (r1, r2) := by first | (rw [hji8] at H; exact H) | (simp only [hji8] at H ⊢; exact H)
                  (try rw [hji8] at c7b0)
                  have hji8w : (IntKind.i64.wrap (x6_1 + 1)) = ji8 := (i64_w _).trans hji8
                  by_cases c9 : 0 ≤ (ji8)
                  · rw [if_pos c9] at H
                    have c9b0 : decide (0 ≤ (ji8)) = true := decide_eq_true c9
                    clear c9
                    by_cases c10 : (ji8) < (l0.length : Int)
                    · rw [if_pos c10] at H
                      have c10b0 : decide ((ji8) < (l0.length : Int)) = true := decide_eq_true c10
                      clear c10
                      by_cases c11 : (rd l0 (ji8)) < 2
                      · rw [if_pos c11] at H
                        have c11b0 : decide ((rd l0 (ji8)) < 2) = true := decide_eq_true c11
                        clear c11
                        have H' := Aside0.mk H
                        clear H
                        have p261 : 0 ≤ ((ji8) : Int) := of_decide_eq_true (by first | (with_reducible assumption) | assumption)
                        have q261 : (ji8) < (l0.length : Int) := of_decide_eq_true (by first | (with_reducible assumption) | assumption)
                        obtain ⟨ad261, e261, hx261_0⟩ := Kd.at_int HR0.out (ji8) p261 q261
                        obtain rfl : ad259 = ad261 := (by injection e261)
                        replace p261 := eq_true p261
                        replace q261 := eq_true q261
                        go_wp2
                        go_meet
                        case rel => exact ⟨_, (true), (by first | rfl | (simp; done) | (simp [*]; done)), H', ⟨by have := HK1.out; first | omega | exact Nat.le_refl _⟩, by repeat (first | exact Drawn0.refl _ | apply Drawn0.step)⟩
                      · rw [if_neg c11] at H
                        have c11b0 : decide ((rd l0 (ji8)) < 2) = false := decide_eq_false c11
                        clear c11
                        have H' := Aside0.mk H
                        clear H
                        have p261 : 0 ≤ ((ji8) : Int) := of_decide_eq_true (by first | (with_reducible assumption) | assumption)
                        have q261 : (ji8) < (l0.length : Int) := of_decide_eq_true (by first | (with_reducible assumption) | assumption)
                        obtain ⟨ad261, e261, hx261_0⟩ := Kd.at_int HR0.out (ji8) p261 q261
                        obtain rfl : ad259 = ad261 := (by injection e261)
                        replace p261 := eq_true p261
                        replace q261 := eq_true q261
                        have p262 : 0 ≤ ((ji8) : Int) := of_decide_eq_true (by first | (with_reducible assumption) | assumption)
                        have q262 : (ji8) < (l0.length : Int) := of_decide_eq_true (by first | (with_reducible assumption) | assumption)
                        obtain ⟨ad262, e262, hx262_0⟩ := Kd.at_int HR0.out (ji8) p262 q262
                        obtain rfl : ad259 = ad262 := (by injection e262)
                        replace p262 := eq_true p262
                        replace q262 := eq_true q262
                        go_wp2
                        go_meet
                        case rel => exact ⟨_, (decide ((wrap64 (rd l0 (ji8))) > (wrap64 ((l0.length : Int) - x6_1)))), (by first | rfl | (simp; done) | (simp only [← hji8] <;> (first | rfl | simp)) | (simp [*]; done)), H', ⟨by have := HK1.out; first | omega | exact Nat.le_refl _⟩, by repeat (first | exact Drawn0.refl _ | apply Drawn0.step)⟩
                    · rw [if_neg c10] at H
                      exact absurd H (by simp)
                  · rw [if_neg c9] at H
                    exact absurd H (by simp)
              case rest =>
                clear HC6
                try clear c1
                try clear c2
                try clear c2b0
                try clear p2
                try clear q2
                try clear hx2
                try clear c3
                try clear c3b0
                try clear c4
                try clear c4b0
                try clear c4b1
                try clear c5
                try clear c5b0
                try clear c5b1
                try clear p6
                try clear c7
                try clear c7b0
                try clear c9
                try clear c9b0
                try clear c10
                try clear c10b0
                try clear c11
                try clear c11b0
                try clear hx259_0
                try clear hx260_0
                try clear hx261_0
                try clear hx262_0
                try clear p259
                try clear p260
                try clear p261
                try clear p262
                try clear q259
                try clear q260
                try clear q261
                try clear q262
                obtain ⟨kq, x49_5, rfl, HA, HJ5, ⟨mc5, rfl⟩⟩ := hcut
                cases kq with
                | zero => exact absurd HA.out (by simp [drawbridgeref19_mss.j1])
                | succ kj5 =>
                  have H := HA.out
                  clear HA
                  simp only [drawbridgeref19_mss.j1] at H
                  by_cases c12 : x49_5 = true
                  · subst c12
                    have H1 : (some (0, false)) = some (r1, r2) := by rw [if_pos rfl] at H; exact H
                    clear H
                    have H := H1
                    clear H1
                    simp only [Option.some.injEq, Prod.mk.injEq] at H
                    obtain ⟨rfl, rfl⟩ := H
                    go_wp2
                    go_ret2
                    exact ⟨by first | rfl | (simp; done) | (simp [*]; done), by repeat (first | exact Drawn0.refl _ | apply Drawn0.step)⟩
                  · replace c12 := Bool.eq_false_iff.mpr c12
                    subst c12
                    have H1 : (if 0 ≤ x6_1 then (if x6_1 < (l0.length : Int) then (if (rd l0 x6_1) = 2 then (if 0 ≤ (wrap64 (x6_1 + 1)) then (if (wrap64 (x6_1 + 1)) < (l0.length : Int) then (if (rd l0 (wrap64 (x6_1 + 1))) = 4 then (if x5_1 = true then (drawbridgeref19_mss.l0 kj5 l0 x4_1 x5_1 (wrap64 (x6_1 + (wrap64 (rd l0 (wrap64 (x6_1 + 1))))))) else (if 0 ≤ (wrap64 (x6_1 + 2)) then (if (wrap64 (x6_1 + 2)) ≤ (wrap64 (x6_1 + 4)) then (if (wrap64 (x6_1 + 4)) ≤ (l0.length : Int) then ((drawbridgeref19_get.f ((l0.take ((wrap64 (x6_1 + 4)) : Int).toNat).drop ((wrap64 (x6_1 + 2)) : Int).toNat)).bind fun t267 => (drawbridgeref19_mss.l0 kj5 l0 (wrap64 (t267)) true (wrap64 (x6_1 + (wrap64 (rd l0 (wrap64 (x6_1 + 1)))))))) else (none)) else (none)) else (none))) else (drawbridgeref19_mss.l0 kj5 l0 x4_1 x5_1 (wrap64 (x6_1 + (wrap64 (rd l0 (wrap64 (x6_1 + 1)))))))) else (none)) else (none)) else (if 0 ≤ (wrap64 (x6_1 + 1)) then (if (wrap64 (x6_1 + 1)) < (l0.length : Int) then (drawbridgeref19_mss.l0 kj5 l0 x4_1 x5_1 (wrap64 (x6_1 + (wrap64 (rd l0 (wrap64 (x6_1 + 1))))))) else (none)) else (none))) else (none)) else (none)) = some (r1, r2) := by rw [if_neg (show ¬ (false = true) by decide)] at H; exact H
                    clear H
                    have H := H1
                    clear H1
                    by_cases c13 : 0 ≤ x6_1
                    · rw [if_pos c13] at H
                      have c13b0 : decide (0 ≤ x6_1) = true := decide_eq_true c13
                      clear c13
                      by_cases c14 : x6_1 < (l0.length : Int)
                      · rw [if_pos c14] at H
                        have c14b0 : decide (x6_1 < (l0.length : Int)) = true := decide_eq_true c14
                        clear c14
                        by_cases c15 : (rd l0 x6_1) = 2
                        · rw [if_pos c15] at H
                          have c15b0 : ((rd l0 x6_1) == 2) = true := beq_iff_eq.mpr c15
                          have c15b1 : ((rd l0 x6_1) != 2) = false := bne_eq_false_iff_eq.mpr c15
                          clear c15
                          obtain ⟨ji16, hji16⟩ : ∃ j_ : Int, (wrap64 (x6_1 + 1)) = j_ := ⟨_, rfl⟩
                          replace H : (if 0 ≤ (ji16) then (if (ji16) < (l0.length : Int) then (if (rd l0 (ji16)) = 4 then (if x5_1 = true then (drawbridgeref19_mss.l0 kj5 l0 x4_1 x5_1 (wrap64 (x6_1 + (wrap64 (rd l0 (ji16)))))) else (if 0 ≤ (wrap64 (x6_1 + 2)) then (if (wrap64 (x6_1 + 2)) ≤ (wrap64 (x6_1 + 4)) then (if (wrap64 (x6_1 + 4)) ≤ (l0.length : Int) then ((drawbridgeref19_get.f ((l0.take ((wrap64 (x6_1 + 4)) : Int).toNat).drop ((wrap64 (x6_1 + 2)) : Int).toNat)).bind fun t267 => (drawbridgeref19_mss.l0 kj5 l0 (wrap64 (t267)) true (wrap64 (x6_1 + (wrap64 (rd l0 (ji16))))))) else (none)) else (none)) else (none))) else (drawbridgeref19_mss.l0 kj5 l0 x4_1 x5_1 (wrap64 (x6_1 + (wrap64 (rd l0 (ji16))))))) else (none)) else (none)) = some (r1, r2) := by first | (rw [hji16] at H; exact H) | (simp only [hji16] at H ⊢; exact H)
                          have hji16w : (IntKind.i64.wrap (x6_1 + 1)) = ji16 := (i64_w _).trans hji16
                          by_cases c17 : 0 ≤ (ji16)
                          · rw [if_pos c17] at H
                            have c17b0 : decide (0 ≤ (ji16)) = true := decide_eq_true c17
                            clear c17
                            by_cases c18 : (ji16) < (l0.length : Int)
                            · rw [if_pos c18] at H
                              have c18b0 : decide ((ji16) < (l0.length : Int)) = true := decide_eq_true c18
                              clear c18
                              by_cases c19 : (rd l0 (ji16)) = 4
                              · rw [if_pos c19] at H
                                have c19b0 : ((rd l0 (ji16)) == 4) = true := beq_iff_eq.mpr c19
                                have c19b1 : ((rd l0 (ji16)) != 4) = false := bne_eq_false_iff_eq.mpr c19
                                clear c19
                                by_cases c20 : x5_1 = true
                                · subst c20
                                  have H1 : (drawbridgeref19_mss.l0 kj5 l0 x4_1 true (wrap64 (x6_1 + (wrap64 (rd l0 (ji16)))))) = some (r1, r2) := by rw [if_pos rfl] at H; exact H
                                  clear H
                                  have H := H1
                                  clear H1
                                  have H' := Aside0.mk H
                                  clear H
                                  have p263 : 0 ≤ (x6_1 : Int) := of_decide_eq_true (by first | (with_reducible assumption) | assumption)
                                  have q263 : x6_1 < (l0.length : Int) := of_decide_eq_true (by first | (with_reducible assumption) | assumption)
                                  obtain ⟨ad263, e263, hx263_0⟩ := Kd.at_int HR0.out x6_1 p263 q263
                                  obtain rfl : ad259 = ad263 := (by injection e263)
                                  replace p263 := eq_true p263
                                  replace q263 := eq_true q263
                                  have p264 : 0 ≤ ((ji16) : Int) := of_decide_eq_true (by first | (with_reducible assumption) | assumption)
                                  have q264 : (ji16) < (l0.length : Int) := of_decide_eq_true (by first | (with_reducible assumption) | assumption)
                                  obtain ⟨ad264, e264, hx264_0⟩ := Kd.at_int HR0.out (ji16) p264 q264
                                  obtain rfl : ad259 = ad264 := (by injection e264)
                                  replace p264 := eq_true p264
                                  replace q264 := eq_true q264
                                  have p265 : 0 ≤ ((ji16) : Int) := of_decide_eq_true (by first | (with_reducible assumption) | assumption)
                                  have q265 : (ji16) < (l0.length : Int) := of_decide_eq_true (by first | (with_reducible assumption) | assumption)
                                  obtain ⟨ad265, e265, hx265_0⟩ := Kd.at_int HR0.out (ji16) p265 q265
                                  obtain rfl : ad259 = ad265 := (by injection e265)
                                  replace p265 := eq_true p265
                                  replace q265 := eq_true q265
                                  go_wp2
                                  go_roundg kj5
                                  case measure => have := HK1.out; have := HJ5.out; omega
                                  case rel => exact ⟨(x4_1), (true), (wrap64 (x6_1 + (wrap64 (rd l0 (ji16))))), (by first | rfl | (simp; done) | (simp [*]; done)), (by first | rfl | (simp; done) | (simp [*]; done)), (by first | rfl | (simp; done) | (simp only [← hji16] <;> (first | rfl | simp)) | (simp [*]; done)), H', ⟨by have := HK1.out; have := HJ5.out; omega⟩, by repeat (first | exact Drawn0.refl _ | apply Drawn0.step)⟩
                                · replace c20 := Bool.eq_false_iff.mpr c20
                                  subst c20
                                  have H1 : (if 0 ≤ (wrap64 (x6_1 + 2)) then (if (wrap64 (x6_1 + 2)) ≤ (wrap64 (x6_1 + 4)) then (if (wrap64 (x6_1 + 4)) ≤ (l0.length : Int) then ((drawbridgeref19_get.f ((l0.take ((wrap64 (x6_1 + 4)) : Int).toNat).drop ((wrap64 (x6_1 + 2)) : Int).toNat)).bind fun t267 => (drawbridgeref19_mss.l0 kj5 l0 (wrap64 (t267)) true (wrap64 (x6_1 + (wrap64 (rd l0 (ji16))))))) else (none)) else (none)) else (none)) = some (r1, r2) := by rw [if_neg (show ¬ (false = true) by decide)] at H; exact H
                                  clear H
                                  have H := H1
                                  clear H1
                                  obtain ⟨ji21, hji21⟩ : ∃ j_ : Int, (wrap64 (x6_1 + 2)) = j_ := ⟨_, rfl⟩
                                  replace H : (if 0 ≤ (ji21) then (if (ji21) ≤ (wrap64 (x6_1 + 4)) then (if (wrap64 (x6_1 + 4)) ≤ (l0.length : Int) then ((drawbridgeref19_get.f ((l0.take ((wrap64 (x6_1 + 4)) : Int).toNat).drop ((ji21) : Int).toNat)).bind fun t267 => (drawbridgeref19_mss.l0 kj5 l0 (wrap64 (t267)) true (wrap64 (x6_1 + (wrap64 (rd l0 (ji16))))))) else (none)) else (none)) else (none)) = some (r1, r2) := by first | (rw [hji21] at H; exact H) | (simp only [hji21] at H ⊢; exact H)
                                  have hji21w : (IntKind.i64.wrap (x6_1 + 2)) = ji21 := (i64_w _).trans hji21
                                  by_cases c22 : 0 ≤ (ji21)
                                  · rw [if_pos c22] at H
                                    have c22b0 := eq_true c22
                                    have c22b1 : decide (0 ≤ (ji21)) = true := decide_eq_true c22
                                    clear c22
                                    by_cases c23 : (ji21) ≤ (wrap64 (x6_1 + 4))
                                    · rw [if_pos c23] at H
                                      have c23b0 := eq_true c23
                                      have c23b1 : decide ((ji21) ≤ (wrap64 (x6_1 + 4))) = true := decide_eq_true c23
                                      by_cases c24 : (wrap64 (x6_1 + 4)) ≤ (l0.length : Int)
                                      · rw [if_pos c24] at H
                                        have c24b0 := eq_true c24
                                        have c24b1 : decide ((wrap64 (x6_1 + 4)) ≤ (l0.length : Int)) = true := decide_eq_true c24
                                        replace H := Option.bind_eq_some_iff.mp H
                                        obtain ⟨t267, A250, H⟩ := H
                                        replace H : (drawbridgeref19_mss.l0 kj5 l0 (wrap64 (t267)) true (wrap64 (x6_1 + (wrap64 (rd l0 (ji16)))))) = some (r1, r2) := H
                                        have A25 := Aside0.mk A250
                                        clear A250
                                        have H' := Aside0.mk H
                                        clear H
                                        have p263 : 0 ≤ (x6_1 : Int) := of_decide_eq_true (by first | (with_reducible assumption) | assumption)
                                        have q263 : x6_1 < (l0.length : Int) := of_decide_eq_true (by first | (with_reducible assumption) | assumption)
                                        obtain ⟨ad263, e263, hx263_0⟩ := Kd.at_int HR0.out x6_1 p263 q263
                                        obtain rfl : ad259 = ad263 := (by injection e263)
                                        replace p263 := eq_true p263
                                        replace q263 := eq_true q263
                                        have p264 : 0 ≤ ((ji16) : Int) := of_decide_eq_true (by first | (with_reducible assumption) | assumption)
                                        have q264 : (ji16) < (l0.length : Int) := of_decide_eq_true (by first | (with_reducible assumption) | assumption)
                                        obtain ⟨ad264, e264, hx264_0⟩ := Kd.at_int HR0.out (ji16) p264 q264
                                        obtain rfl : ad259 = ad264 := (by injection e264)
                                        replace p264 := eq_true p264
                                        replace q264 := eq_true q264
                                        obtain ⟨i026, hi026, _, hsz26, _⟩ := info_parts info5
                                        obtain ⟨A26, hcut26, hA26, hC26⟩ := print_mid_of (P := Try.prog) (Value.int .u8) 0 23 5 .i64 .i64 Try.underlying23 hi026 hsz26 (some ad259) c0 l0 (ji21) (wrap64 (x6_1 + 4)) (of_decide_eq_true (by first | (with_reducible assumption) | assumption)) (by first | omega | exact of_decide_eq_true (by first | (with_reducible assumption) | assumption)) (of_decide_eq_true (by first | (with_reducible assumption) | assumption)) HC0.out
                                        have HR266 := Aside0.mk (Kd.C_of_reads (h1 := fun _ => rfl) (hA26 _ (Kd.reads_of_C HR0.out)))
                                        have HC266 := Aside0.mk hC26
                                        clear hA26 hC26 hi026 hsz26
                                        go_wp2_with (first | ((with_reducible refine gate_callee (f := 37) rfl ?_); refine goesL_ (some 73) rfl rfl Try.func37 (by kernel_rfl) rfl #[.slice A26 ((l0.take ((wrap64 (x6_1 + 4)) : Int).toNat).drop ((ji21) : Int).toNat).length (c0 - (ji21).toNat)] rfl (by (try simp only [List.map_toArray, List.map_cons, List.map_nil]); first | done | (rw [show ((l0.take ((wrap64 (x6_1 + 4)) : Int).toNat).drop ((ji21) : Int).toNat).length = ((wrap64 (x6_1 + 4)).toNat - (ji21).toNat) from (by rw [List.length_drop, List.length_take]; have h_ : ((wrap64 (x6_1 + 4)) : Int) ≤ (l0.length : Int) := of_decide_eq_true (by first | (with_reducible assumption) | assumption); omega)] <;> rfl) | (simp only [hji21]; rfl) | rfl | (simp only [List.length_drop, List.length_take]; rfl)) ?_; (with_reducible refine (drawbridgeref19_get.calls _ _ ((l0.take ((wrap64 (x6_1 + 4)) : Int).toNat).drop ((ji21) : Int).toNat) t267 _ ?side1 ?side2 A25.out).mono ?_); (case side1 => repeat (first | exact HR266.out | (with_reducible refine Kd.C_alloc ?_ _) | (with_reducible refine Kd.C_drewN ?_ _) | (with_reducible refine Kd.C_drew ?_))); (case side2 => exact HC266.out); rintro e w' ⟨rfl, ⟨nd, rfl⟩⟩; refine ⟨_, rfl, ?_⟩; have p268 : 0 ≤ ((ji16) : Int) := of_decide_eq_true (by first | (with_reducible assumption) | assumption); have q268 : (ji16) < (l0.length : Int) := of_decide_eq_true (by first | (with_reducible assumption) | assumption); obtain ⟨ad268, e268, hx268_0⟩ := Kd.at_int HR0.out (ji16) p268 q268; obtain rfl : ad259 = ad268 := (by injection e268); replace p268 := eq_true p268; replace q268 := eq_true q268))
                                        go_roundg kj5
                                        case measure => have := HK1.out; have := HJ5.out; omega
                                        case rel => exact ⟨(wrap64 (t267)), (true), (wrap64 (x6_1 + (wrap64 (rd l0 (ji16))))), (by first | rfl | (simp; done) | (simp [*]; done)), (by first | rfl | (simp; done) | (simp [*]; done)), (by first | rfl | (simp; done) | (simp only [← hji16] <;> (first | rfl | simp)) | (simp [*]; done)), H', ⟨by have := HK1.out; have := HJ5.out; omega⟩, by repeat (first | exact Drawn0.refl _ | apply Drawn0.step)⟩
                                      · rw [if_neg c24] at H
                                        exact absurd H (by simp)
                                    · rw [if_neg c23] at H
                                      exact absurd H (by simp)
                                  · rw [if_neg c22] at H
                                    exact absurd H (by simp)
                              · rw [if_neg c19] at H
                                have c19b0 : ((rd l0 (ji16)) == 4) = false := beq_eq_false_iff_ne.mpr c19
                                have c19b1 : ((rd l0 (ji16)) != 4) = true := bne_iff_ne.mpr c19
                                have H' := Aside0.mk H
                                clear H
                                have p263 : 0 ≤ (x6_1 : Int) := of_decide_eq_true (by first | (with_reducible assumption) | assumption)
                                have q263 : x6_1 < (l0.length : Int) := of_decide_eq_true (by first | (with_reducible assumption) | assumption)
                                obtain ⟨ad263, e263, hx263_0⟩ := Kd.at_int HR0.out x6_1 p263 q263
                                obtain rfl : ad259 = ad263 := (by injection e263)
                                replace p263 := eq_true p263
                                replace q263 := eq_true q263
                                have p264 : 0 ≤ ((ji16) : Int) := of_decide_eq_true (by first | (with_reducible assumption) | assumption)
                                have q264 : (ji16) < (l0.length : Int) := of_decide_eq_true (by first | (with_reducible assumption) | assumption)
                                obtain ⟨ad264, e264, hx264_0⟩ := Kd.at_int HR0.out (ji16) p264 q264
                                obtain rfl : ad259 = ad264 := (by injection e264)
                                replace p264 := eq_true p264
                                replace q264 := eq_true q264
                                have p269 : 0 ≤ ((ji16) : Int) := of_decide_eq_true (by first | (with_reducible assumption) | assumption)
                                have q269 : (ji16) < (l0.length : Int) := of_decide_eq_true (by first | (with_reducible assumption) | assumption)
                                obtain ⟨ad269, e269, hx269_0⟩ := Kd.at_int HR0.out (ji16) p269 q269
                                obtain rfl : ad259 = ad269 := (by injection e269)
                                replace p269 := eq_true p269
                                replace q269 := eq_true q269
                                go_wp2
                                go_roundg kj5
                                case measure => have := HK1.out; have := HJ5.out; omega
                                case rel => exact ⟨(x4_1), (x5_1), (wrap64 (x6_1 + (wrap64 (rd l0 (ji16))))), (by first | rfl | (simp; done) | (simp [*]; done)), (by first | rfl | (simp; done) | (simp [*]; done)), (by first | rfl | (simp; done) | (simp only [← hji16] <;> (first | rfl | simp)) | (simp [*]; done)), H', ⟨by have := HK1.out; have := HJ5.out; omega⟩, by repeat (first | exact Drawn0.refl _ | apply Drawn0.step)⟩
                            · rw [if_neg c18] at H
                              exact absurd H (by simp)
                          · rw [if_neg c17] at H
                            exact absurd H (by simp)
                        · rw [if_neg c15] at H
                          have c15b0 : ((rd l0 x6_1) == 2) = false := beq_eq_false_iff_ne.mpr c15
                          have c15b1 : ((rd l0 x6_1) != 2) = true := bne_iff_ne.mpr c15
                          obtain ⟨ji27, hji27⟩ : ∃ j_ : Int, (wrap64 (x6_1 + 1)) = j_ := ⟨_, rfl⟩
                          replace H : (if 0 ≤ (ji27) then (if (ji27) < (l0.length : Int) then (drawbridgeref19_mss.l0 kj5 l0 x4_1 x5_1 (wrap64 (x6_1 + (wrap64 (rd l0 (ji27)))))) else (none)) else (none)) = some (r1, r2) := by first | (rw [hji27] at H; exact H) | (simp only [hji27] at H ⊢; exact H)
                          have hji27w : (IntKind.i64.wrap (x6_1 + 1)) = ji27 := (i64_w _).trans hji27
                          by_cases c28 : 0 ≤ (ji27)
                          · rw [if_pos c28] at H
                            have c28b0 : decide (0 ≤ (ji27)) = true := decide_eq_true c28
                            clear c28
                            by_cases c29 : (ji27) < (l0.length : Int)
                            · rw [if_pos c29] at H
                              have c29b0 : decide ((ji27) < (l0.length : Int)) = true := decide_eq_true c29
                              clear c29
                              have H' := Aside0.mk H
                              clear H
                              have p263 : 0 ≤ (x6_1 : Int) := of_decide_eq_true (by first | (with_reducible assumption) | assumption)
                              have q263 : x6_1 < (l0.length : Int) := of_decide_eq_true (by first | (with_reducible assumption) | assumption)
                              obtain ⟨ad263, e263, hx263_0⟩ := Kd.at_int HR0.out x6_1 p263 q263
                              obtain rfl : ad259 = ad263 := (by injection e263)
                              replace p263 := eq_true p263
                              replace q263 := eq_true q263
                              have p270 : 0 ≤ ((ji27) : Int) := of_decide_eq_true (by first | (with_reducible assumption) | assumption)
                              have q270 : (ji27) < (l0.length : Int) := of_decide_eq_true (by first | (with_reducible assumption) | assumption)
                              obtain ⟨ad270, e270, hx270_0⟩ := Kd.at_int HR0.out (ji27) p270 q270
                              obtain rfl : ad259 = ad270 := (by injection e270)
                              replace p270 := eq_true p270
                              replace q270 := eq_true q270
                              go_wp2
                              go_roundg kj5
                              case measure => have := HK1.out; have := HJ5.out; omega
                              case rel => exact ⟨(x4_1), (x5_1), (wrap64 (x6_1 + (wrap64 (rd l0 (ji27))))), (by first | rfl | (simp; done) | (simp [*]; done)), (by first | rfl | (simp; done) | (simp [*]; done)), (by first | rfl | (simp; done) | (simp only [← hji27] <;> (first | rfl | simp)) | (simp [*]; done)), H', ⟨by have := HK1.out; have := HJ5.out; omega⟩, by repeat (first | exact Drawn0.refl _ | apply Drawn0.step)⟩
                            · rw [if_neg c29] at H
                              exact absurd H (by simp)
                          · rw [if_neg c28] at H
                            exact absurd H (by simp)
                      · rw [if_neg c14] at H
                        exact absurd H (by simp)
                    · rw [if_neg c13] at H
                      exact absurd H (by simp)
        · rw [if_neg c3] at H
          exact absurd H (by simp)
      · rw [if_neg c2] at H
        have c2b0 : decide (x6_1 < (l0.length : Int)) = false := decide_eq_false c2
        clear c2
        simp only [Option.some.injEq, Prod.mk.injEq] at H
        obtain ⟨rfl, rfl⟩ := H
        go_wp2
        go_ret2
        exact ⟨by first | rfl | (simp; done) | (simp [*]; done), by repeat (first | exact Drawn0.refl _ | apply Drawn0.step)⟩

end Go.Proofs.Ytndkaffkdjaaoaa.QSeg
