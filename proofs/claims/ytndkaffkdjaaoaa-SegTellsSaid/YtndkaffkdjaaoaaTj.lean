/- The reference's readings of options and of a segment answer as segGet does. Plain law. -/
import Derived.Test.YtndkaffkdjaaoaaTi
namespace Go.Proofs.Ytndkaffkdjaaoaa.H
open Go.RowKit Go.Proofs.YtndkaffkdjaaoaaW.PrintWords Go.Proofs.YtndkaffkdjaaoaaW.PrintLast Go.Proofs.YtndkaffkdjaaoaaW.PrintMore Go.Proofs.Ytndkaffkdjaaoaa.QSeg
set_option linter.unusedVariables false
set_option linter.unusedSimpArgs false

theorem getD_drop0 (l : List Int) (p i : Nat) : (l.drop p).getD i 0 = l.getD (p + i) 0 := by
  simp [List.getD_eq_getElem?_getD, List.getElem?_drop]
theorem wrap_n1 (p : Nat) (h : p < 4611686018427387904) : wrap64 ((p : Int) + 1) = ((p + 1 : Nat) : Int) := by rw [wrap64_in ((p : Int) + 1) (by omega) (by omega)]; omega
theorem wrap_n2 (p : Nat) (h : p < 4611686018427387904) : wrap64 ((p : Int) + 2) = ((p + 2 : Nat) : Int) := by rw [wrap64_in ((p : Int) + 2) (by omega) (by omega)]; omega
theorem wrap_n4 (p : Nat) (h : p < 4611686018427387904) : wrap64 ((p : Int) + 4) = ((p + 4 : Nat) : Int) := by rw [wrap64_in ((p : Int) + 4) (by omega) (by omega)]; omega
theorem wrap_nq (p q : Nat) (x : Int) (hq : x = q) (h : p < 4611686018427387904) (h2 : q < 4611686018427387904) : wrap64 ((p : Int) + wrap64 x) = ((p + q : Nat) : Int) := by
  rw [hq, wrap64_in (q : Int) (by omega) (by omega), wrap64_in ((p : Int) + q) (by omega) (by omega)]; omega
theorem ref19_get_f (l : List Int) (hb : Bytes l) (hl : l.length ≤ 8) : drawbridgeref19_get.f l = some (beV l) := by
  unfold drawbridgeref19_get.f drawbridgeref01_Get.f
  rw [if_pos ⟨hb, hl, rfl⟩]; rfl

set_option maxHeartbeats 1600000 in
theorem ref_mss (l : List Int) (hb : Bytes l) (hl : l.length < 4611686018427387904) : ∀ (m k p : Nat) (found : Int) (met : Bool), p ≤ l.length → l.length - p ≤ m → 2 * m + 1 ≤ k →
    drawbridgeref19_mss.l0 k l found met (p : Int) = some (mssF m (l.drop p) found met) := by
  intro m
  induction m with
  | zero =>
    intro k p found met hp hm hk
    obtain ⟨k, rfl⟩ : ∃ k', k = k' + 1 := ⟨k - 1, by omega⟩
    rw [drawbridgeref19_mss.l0, if_neg (by omega)]; rfl
  | succ m ih =>
    intro k p found met hp hm hk
    obtain ⟨k, rfl⟩ : ∃ k', k = k' + 1 + 1 := ⟨k - 2, by omega⟩
    by_cases hlt : p < l.length
    · have h0 : ¬ (l.drop p).length = 0 := by rw [List.length_drop]; omega
      have e0 : (l.drop p).getD 0 0 = l.getD p 0 := getD_drop0 l p 0
      have e1 : (l.drop p).getD 1 0 = l.getD (p + 1) 0 := getD_drop0 l p 1
      have b0 := hb.getD p
      have b1 := hb.getD (p + 1)
      have hP : p < 4611686018427387904 := by omega
      rw [drawbridgeref19_mss.l0, if_pos (by omega), if_pos (by omega)]
      simp only [wrap_n1 p hP, rd_nat]
      by_cases c0 : l.getD p 0 = 0
      · rw [if_pos c0, mssF_end _ _ _ _ h0 (by rw [e0]; exact c0)]
      · rw [if_neg c0]
        by_cases c1 : l.getD p 0 = 1
        · rw [if_pos c1, mssF_nop _ _ _ _ h0 (by rw [e0]; exact c1), ih (k + 1) (p + 1) found met (by omega) (by omega) (by omega), List.drop_drop]
        · rw [if_neg c1]
          have hbad : (l.length - p < 2 ∨ l.getD (p + 1) 0 < 2 ∨ ((l.length - p : Nat) : Int) < l.getD (p + 1) 0) → drawbridgeref19_mss.j1 (k + 1) l found met (p : Int) true = some (mssF (m + 1) (l.drop p) found met) := by
            intro h
            rw [drawbridgeref19_mss.j1, if_pos rfl, mssF_bad _ _ _ _ h0 (by rw [e0]; exact c0) (by rw [e0]; exact c1) (by rw [e1, List.length_drop]; exact h)]
          by_cases c2 : l.length - p < 2
          · rw [if_pos (by omega)]; exact hbad (Or.inl c2)
          · rw [if_neg (by omega), if_pos (by omega), if_pos (by omega)]
            by_cases c3 : l.getD (p + 1) 0 < 2
            · rw [if_pos c3]; exact hbad (Or.inr (Or.inl c3))
            · rw [if_neg c3]
              rw [wrap64_in (l.getD (p + 1) 0) (by omega) (by omega), wrap64_in ((l.length : Int) - p) (by omega) (by omega)]
              by_cases c4 : l.getD (p + 1) 0 > (l.length : Int) - p
              · rw [show decide (l.getD (p + 1) 0 > (l.length : Int) - p) = true from decide_eq_true c4]
                exact hbad (Or.inr (Or.inr (by omega)))
              · rw [show decide (l.getD (p + 1) 0 > (l.length : Int) - p) = false from decide_eq_false c4]
                have hnb : ¬ ((l.drop p).length < 2 ∨ (l.drop p).getD 1 0 < 2 ∨ ((l.drop p).length : Int) < (l.drop p).getD 1 0) := by rw [e1, List.length_drop]; omega
                obtain ⟨q, hq⟩ : ∃ q : Nat, l.getD (p + 1) 0 = q := ⟨(l.getD (p + 1) 0).toNat, by omega⟩
                have HW := Aside0.mk (wrap_nq p q _ hq hP (by omega))
                have hskip : ¬ (l.getD p 0 = 2 ∧ l.getD (p + 1) 0 = 4 ∧ met = false) → drawbridgeref19_mss.l0 k l found met ((p + q : Nat) : Int) = some (mssF (m + 1) (l.drop p) found met) := by
                  intro h
                  rw [mssF_skip _ _ _ _ h0 (by rw [e0]; exact c0) (by rw [e0]; exact c1) hnb (by rw [e0, e1]; exact h), ih k (p + q) found met (by omega) (by omega) (by omega), List.drop_drop, e1, hq, Int.toNat_natCast]
                rw [drawbridgeref19_mss.j1, if_neg (by decide), if_pos (by omega), if_pos (by omega)]
                simp only [wrap_n1 p hP, wrap_n2 p hP, wrap_n4 p hP, rd_nat]
                simp only [HW.out]
                by_cases d0 : l.getD p 0 = 2
                · rw [if_pos d0, if_pos (by omega), if_pos (by omega)]
                  by_cases d1 : l.getD (p + 1) 0 = 4
                  · rw [if_pos d1]
                    have hq4 : q = 4 := by omega
                    subst hq4
                    cases met with
                    | true => rw [if_pos rfl]; exact hskip (fun h => by simp at h)
                    | false =>
                      rw [if_neg (by decide), if_pos (by omega), if_pos (by omega), if_pos (by omega), Int.toNat_natCast, Int.toNat_natCast]
                      have hT : (l.take (p + 4)).drop (p + 2) = ((l.drop p).take 4).drop 2 := by
                        rw [List.drop_take, List.drop_take, List.drop_drop]; congr 1 <;> omega
                      have hbT : Bytes (((l.drop p).take 4).drop 2) := ((hb.drop _).take _).drop _
                      have hlT : (((l.drop p).take 4).drop 2).length = 2 := by rw [List.length_drop, List.length_take, List.length_drop]; omega
                      have hR := beV_range _ hbT
                      rw [hlT] at hR
                      rw [hT, ref19_get_f _ hbT (by omega), Option.bind_some, wrap64_in _ (by omega) (by omega), ih k (p + 4) _ true (by omega) (by omega) (by omega),
                        mssF_mss _ _ _ _ h0 (by rw [e0]; exact c0) (by rw [e0]; exact c1) hnb (by rw [e0, e1]; exact ⟨d0, d1, rfl⟩), List.drop_drop, e1, d1]
                      rfl
                  · rw [if_neg d1]; exact hskip (fun h => d1 h.2.1)
                · rw [if_neg d0, if_pos (by omega), if_pos (by omega)]; exact hskip (fun h => d0 h.1)
    · rw [drawbridgeref19_mss.l0, if_neg (by omega), mssF_nil _ _ _ _ (by rw [List.length_drop]; omega)]

theorem ref_mss_f (l : List Int) (hb : Bytes l) (hl : l.length < 4611686018427387904) (k : Nat) (hk : 2 * l.length + 1 ≤ k) : drawbridgeref19_mss.f k l = some (mssO l) := by
  unfold drawbridgeref19_mss.f mssO
  have := ref_mss l hb hl l.length k 0 0 false (by omega) (by omega) hk
  simpa using this

theorem ref01_Put_f (x : Int) (n : Int) (h0 : 0 ≤ x) (h : x < 18446744073709551616) (h1 : 0 ≤ n) (h8 : n ≤ 8) : drawbridgeref01_Put.f x n true = some (beN n.toNat x) := by
  unfold drawbridgeref01_Put.f; rw [if_pos ⟨⟨h0, h⟩, ⟨h1, h8⟩, rfl⟩]
theorem ref15_Pseudo_f (a0 a1 a2 a3 : Int) (h0 : 0 ≤ a0 ∧ a0 < 4294967296) (h1 : 0 ≤ a1 ∧ a1 < 4294967296) (h3 : 0 ≤ a3 ∧ a3 < 18446744073709551616) : drawbridgeref15_Pseudo.f a0 a1 a2 a3 = some (pseudo a0 a1 a2 a3) := by
  unfold drawbridgeref15_Pseudo.f
  rw [u64_in a0 h0.1 (by omega), u64_in a1 h1.1 (by omega), u64_in a3 h3.1 h3.2, ref01_Put_f a0 4 h0.1 (by omega) (by omega) (by omega), ref01_Put_f a1 4 h1.1 (by omega) (by omega) (by omega), ref01_Put_f a3 2 h3.1 h3.2 (by omega) (by omega)]
  simp only [Option.bind_some]
  rw [if_pos (by simp [beN_length]), if_pos (by simp [beN_length]), if_pos (by simp [beN_length])]
  simp [pseudo]
theorem ref15_Right_f (l : List Int) (hb : Bytes l) (hl : l.length < 140737488355328) : drawbridgeref15_Right.f l = some (csum l == 0) := by
  unfold drawbridgeref15_Right.f drawbridgeref15_Sum.f
  rw [if_pos ⟨hb, hl⟩]; rfl
theorem ref19_get_fld (l : List Int) (hb : Bytes l) (p n : Nat) (hn : n ≤ 8) (h : p + n ≤ l.length) : drawbridgeref19_get.f ((l.take (p + n)).drop p) = some (fld l p n) := by
  unfold fld
  rw [ref19_get_f _ ((hb.take _).drop _) (by rw [List.length_drop, List.length_take]; omega)]
theorem ref19_get_fld0 (l : List Int) (hb : Bytes l) (h : 2 ≤ l.length) : drawbridgeref19_get.f (l.take 2) = some (fld l 0 2) := ref19_get_fld l hb 0 2 (by omega) (by omega)

set_option maxHeartbeats 3200000 in
theorem ref19_Get_f (l : List Int) (s d : Int) (hb : Bytes l) (hS : 0 ≤ s ∧ s < 4294967296) (hD : 0 ≤ d ∧ d < 4294967296) (hl : l.length < 4611686018427387) (k : Nat) (hk : 2 * l.length + 2 ≤ k) :
    drawbridgeref19_Get.f k l s d = some (segGet l s d) := by
  unfold drawbridgeref19_Get.f segGet segErr
  by_cases h1 : l.length < 20
  · simp only [if_pos h1, if_pos (show (l.length : Int) < 20 by omega)]; rfl
  · simp only [if_neg h1, if_neg (show ¬ (l.length : Int) < 20 by omega), if_pos (show 12 < (l.length : Int) by omega)]
    obtain ⟨k, rfl⟩ : ∃ k', k = k' + 1 := ⟨k - 1, by omega⟩
    have b12 := hb.getD 12
    have b13 := hb.getD 13
    have e12 : rd l 12 = l.getD 12 0 := rd_nat l 12
    have e13 : rd l 13 = l.getD 13 0 := rd_nat l 13
    have ex : Int.tdiv (rd l 12) 16 % 256 * 4 = l.getD 12 0 / 16 * 4 := by rw [e12, Int.tdiv_eq_ediv_of_nonneg b12.1]; omega
    have e6 : Int.tmod (rd l 13) 64 = l.getD 13 0 % 64 := by rw [e13, Int.tmod_eq_emod_of_nonneg b13.1]
    simp only [ex]
    by_cases h2 : 65535 < l.length ∨ l.getD 12 0 / 16 * 4 < 20
    · simp only [if_pos h2]
      by_cases h2a : (l.length : Int) > 65535
      · rw [if_pos h2a, drawbridgeref19_Get.j0, if_pos rfl]; rfl
      · rw [if_neg h2a, show decide (l.getD 12 0 / 16 * 4 < 20) = true from decide_eq_true (by omega), drawbridgeref19_Get.j0, if_pos rfl]; rfl
    · simp only [if_neg h2]
      rw [if_neg (show ¬ (l.length : Int) > 65535 by omega), show decide (l.getD 12 0 / 16 * 4 < 20) = false from decide_eq_false (by omega), drawbridgeref19_Get.j0, if_neg (by decide)]
      by_cases h3 : (l.length : Int) < l.getD 12 0 / 16 * 4
      · simp only [if_pos h3]; rfl
      · simp only [if_neg h3]
        obtain ⟨n, hn⟩ : ∃ n : Nat, l.getD 12 0 / 16 * 4 = n := ⟨(l.getD 12 0 / 16 * 4).toNat, by omega⟩
        rw [ref15_Pseudo_f s d 6 l.length hS hD (by omega), Option.bind_some, if_pos (by rw [pseudo_length]; omega), ref15_Right_f _ ((pseudo_bytes _ _ _ _).append hb) (by rw [List.length_append, pseudo_length]; omega), Option.bind_some]
        by_cases h4 : csum (pseudo s d 6 l.length ++ l) = 0
        · simp only [h4, not_true_eq_false, if_false, beq_self_eq_true, if_true]
          rw [if_pos (by omega), if_pos (by omega)]
          have hO := ref_mss_f ((l.take n).drop 20) ((hb.take _).drop _) (by rw [List.length_drop, List.length_take]; omega) k (by rw [List.length_drop, List.length_take]; omega)
          simp only [hn, Int.toNat_natCast]
          rw [hO, Option.bind_some]
          by_cases h5 : (mssO ((l.take n).drop 20)).2 = false
          · simp only [h5, if_true, Bool.false_eq_true, if_false]; rfl
          · have h5' : (mssO ((l.take n).drop 20)).2 = true := by simpa using h5
            simp only [h5', if_true, Bool.true_eq_false, if_false]
            have r0 := fld_range l 0 2 hb (by omega)
            have r1 := fld_range l 2 2 hb (by omega)
            have r2 := fld_range l 4 4 hb (by omega)
            have r3 := fld_range l 8 4 hb (by omega)
            have r4 := fld_range l 14 2 hb (by omega)
            simp only [show (256 : Int) ^ 2 = 65536 from rfl, show (256 : Int) ^ 4 = 4294967296 from rfl] at r0 r1 r2 r3 r4
            rw [if_pos (by omega), ref19_get_fld0 l hb (by omega), Option.bind_some, if_pos (by omega), if_pos (by omega), ref19_get_fld l hb 2 2 (by omega) (by omega), Option.bind_some,
              if_pos (by omega), if_pos (by omega), ref19_get_fld l hb 4 4 (by omega) (by omega), Option.bind_some, if_pos (by omega), if_pos (by omega), ref19_get_fld l hb 8 4 (by omega) (by omega), Option.bind_some,
              if_pos (by omega), if_pos (by omega), if_pos (by omega), ref19_get_fld l hb 14 2 (by omega) (by omega), Option.bind_some, Option.bind_some, if_pos (by omega), if_pos (by rw [List.length_drop]; simp; omega),
              wrap64_in _ (by omega) (by omega), wrap64_in _ (by omega) (by omega), wrap64_in (Int.tmod (rd l 13) 64) (by rw [e6]; omega) (by rw [e6]; omega), wrap64_in _ (by omega) (by omega), e6,
              Int.emod_eq_of_lt r2.1 r2.2, Int.emod_eq_of_lt r3.1 r3.2]
            rfl
        · simp only [h4, not_false_eq_true, if_true, beq_eq_false_iff_ne.2 h4, Bool.false_eq_true, if_false]; rfl

end Go.Proofs.Ytndkaffkdjaaoaa.H
namespace Go.Proofs.Ytndkaffkdjaaoaa.QSeg
open Go.RowKit Go.Proofs.Ytndkaffkdjaaoaa.H Go.Proofs.YtndkaffkdjaaoaaW.PrintWords Go.Proofs.YtndkaffkdjaaoaaW.PrintLast Go.Proofs.YtndkaffkdjaaoaaW.PrintMore
attribute [local go_sem] max2_int min2_int max_two min_two max_three min_three max_four min_four   -- for this text's walks alone
set_option linter.unusedVariables false
set_option linter.unusedSimpArgs false

/-! ### drawbridgeref19_put: function 26 -/
def drawbridgeref19_put.f (a0 : Int) (a1 : Int) : Option (List Int) := (drawbridgeref01_Put.f a0 a1 true).bind fun t165 => (some t165)
set_option maxHeartbeats 8000000 in
set_option maxRecDepth 100000 in
theorem drawbridgeref19_put.calls (a0 : Int) (a1 : Int) (r : List Int) (w : World) (h : drawbridgeref19_put.f a0 a1 = some r) :
    Calls Try.prog 26 #[.int .u64 a0, .int .i64 a1] w fun e w' => ∃ v0_ : Value, e = .returned (v0_) ∧ Kd.R (Kd.int .u8) 5 w' w.heap.size (fun _ => True) v0_ r ∧ Below w.heap.size w w' := by
  have HB := Aside0.mk (Below.refl w.heap.size w)
  have H : ((drawbridgeref01_Put.f a0 a1 true).bind fun t165 => (some t165)) = some r := h
  clear h
  replace H := Option.bind_eq_some_iff.mp H
  obtain ⟨t165, A30, H⟩ := H
  replace H : (some t165) = some r := H
  have A3 := Aside0.mk A30
  clear A30
  obtain rfl := Option.some.inj H
  go_enter Try.func26, Try.ntmps26
  go_wp2_with (first | ((with_reducible refine gate_callee (f := 42) rfl ?_); refine goesL_ (some 7) rfl rfl Try.func42 (by kernel_rfl) rfl #[.int .u64 a0, .int .i64 a1, .bool true] rfl (by (try simp only [List.map_toArray, List.map_cons, List.map_nil]); first | done | rfl | (simp only [List.length_drop, List.length_take]; rfl)) ?_; (with_reducible refine (drawbridgeref01_Put.calls a0 a1 true t165 _ A3.out).mono ?_); rintro e w4 ⟨v166, rfl, ho0, hb⟩; refine ⟨_, rfl, ?_⟩; have n0_ := Aside0.mk (Kd.R_lower ho0 (below_size (by repeat (first | (with_reducible first | exact HB.out | apply below_alloc | apply pw_below_drewN | apply below_drew1) | exact HB.out)))); have n1_ := Aside0.mk (below_step (by repeat (first | (with_reducible first | exact HB.out | apply below_alloc | apply pw_below_drewN | apply below_drew1) | exact HB.out)) hb); clear HB; have HO167 := n0_; have HB := n1_; clear n0_ n1_; (try clear hb); (try clear hb2); (try clear hk); (try clear hi); (try clear ho0)))
  go_ret
  exact ⟨_, by first | rfl | (simp [errW_none, errW_some] <;> rfl) | (simp [*, errW_none, errW_some] <;> rfl), by (with_reducible repeat (first | apply Kd.R_alloc | apply Kd.R_drewN | apply Kd.R_drew)); exact HO167.out, by repeat (first | (with_reducible first | exact HB.out | apply below_alloc | apply pw_below_drewN | apply below_drew1) | exact HB.out)⟩

end Go.Proofs.Ytndkaffkdjaaoaa.QSeg
