/- Parts of a proof: contracts of functions that the law reaches. -/
import Derived.Deep.RegionHeld3
import Derived.Deep.DeepCutAuto
import Derived.Test.YtndkaffkdjaaoaaTd
namespace Go.Proofs.Ytndkaffkdjaaoaa.QSeg
open Go.RowKit Go.Proofs.Ytndkaffkdjaaoaa.H Go.Proofs.YtndkaffkdjaaoaaW.PrintWords Go.Proofs.YtndkaffkdjaaoaaW.PrintLast Go.Proofs.YtndkaffkdjaaoaaW.PrintMore
attribute [local go_sem] max2_int min2_int max_two min_two max_three min_three max_four min_four   -- for this text's walks alone
set_option linter.unusedVariables false
set_option linter.unusedSimpArgs false

/-! ### sum_Pseudo: function 41 -/
def sum_Pseudo.f (a0 : Int) (a1 : Int) (a2 : Int) (a3 : Int) : Option (List Int) := (bits_Put.f (IntKind.u64.wrap (a0)) 4 true).bind fun t139 => ((bits_Put.f (IntKind.u64.wrap (a1)) 4 true).bind fun t142 => ((bits_Put.f (IntKind.u64.wrap (a3)) 2 true).bind fun t148 => ((slices_Concat_byte_byte.f (([t139, t142, (([0, (a2) % 256] : List Int)), t148] : List (List Int)))).bind fun t154 => (some t154))))
set_option maxHeartbeats 8000000 in
set_option maxRecDepth 100000 in
theorem sum_Pseudo.calls (a0 : Int) (a1 : Int) (a2 : Int) (a3 : Int) (r : List Int) (w : World) (h : sum_Pseudo.f a0 a1 a2 a3 = some r) :
    Calls Try.prog 41 #[.int .u32 a0, .int .u32 a1, .int .i64 a2, .int .i64 a3] w fun e w' => ∃ v0_ : Value, e = .returned (v0_) ∧ Kd.R (Kd.int .u8) 5 w' w.heap.size (fun _ => True) v0_ r ∧ Below w.heap.size w w' := by
  have HB := Aside0.mk (Below.refl w.heap.size w)
  have H : ((bits_Put.f (IntKind.u64.wrap (a0)) 4 true).bind fun t139 => ((bits_Put.f (IntKind.u64.wrap (a1)) 4 true).bind fun t142 => ((bits_Put.f (IntKind.u64.wrap (a3)) 2 true).bind fun t148 => ((slices_Concat_byte_byte.f (([t139, t142, (([0, (a2) % 256] : List Int)), t148] : List (List Int)))).bind fun t154 => (some t154))))) = some r := h
  clear h
  replace H := Option.bind_eq_some_iff.mp H
  obtain ⟨t139, A50, H⟩ := H
  replace H : ((bits_Put.f (IntKind.u64.wrap (a1)) 4 true).bind fun t142 => ((bits_Put.f (IntKind.u64.wrap (a3)) 2 true).bind fun t148 => ((slices_Concat_byte_byte.f (([t139, t142, (([0, (a2) % 256] : List Int)), t148] : List (List Int)))).bind fun t154 => (some t154)))) = some r := H
  have A5 := Aside0.mk A50
  clear A50
  replace H := Option.bind_eq_some_iff.mp H
  obtain ⟨t142, A60, H⟩ := H
  replace H : ((bits_Put.f (IntKind.u64.wrap (a3)) 2 true).bind fun t148 => ((slices_Concat_byte_byte.f (([t139, t142, (([0, (a2) % 256] : List Int)), t148] : List (List Int)))).bind fun t154 => (some t154))) = some r := H
  have A6 := Aside0.mk A60
  clear A60
  obtain ⟨y145, hy145⟩ : ∃ y_ : List Int, y_ = (([0, (a2) % 256] : List Int)) := ⟨_, rfl⟩
  replace H : ((bits_Put.f (IntKind.u64.wrap (a3)) 2 true).bind fun t148 => ((slices_Concat_byte_byte.f (([t139, t142, y145, t148] : List (List Int)))).bind fun t154 => (some t154))) = some r := by first | (rw [hy145]; with_reducible exact H) | (have H2_ := (Option.bind_some _ _).symm.trans H; rw [hy145]; with_reducible exact H2_) | (have H2_ := (Option.bind_some _ _).symm.trans H; with_reducible exact H2_) | with_reducible exact H | (rw [hy145]; exact H) | exact H
  have Ny145 := Aside0.mk hy145
  clear hy145
  replace H := Option.bind_eq_some_iff.mp H
  obtain ⟨t148, A70, H⟩ := H
  replace H : ((slices_Concat_byte_byte.f (([t139, t142, y145, t148] : List (List Int)))).bind fun t154 => (some t154)) = some r := H
  have A7 := Aside0.mk A70
  clear A70
  obtain ⟨y151, hy151⟩ : ∃ y_ : List (List Int), y_ = (([t139, t142, y145, t148] : List (List Int))) := ⟨_, rfl⟩
  replace H : ((slices_Concat_byte_byte.f y151).bind fun t154 => (some t154)) = some r := by first | (rw [hy151]; with_reducible exact H) | (have H2_ := (Option.bind_some _ _).symm.trans H; rw [hy151]; with_reducible exact H2_) | (have H2_ := (Option.bind_some _ _).symm.trans H; with_reducible exact H2_) | with_reducible exact H | (rw [hy151]; exact H) | exact H
  have Ny151 := Aside0.mk hy151
  clear hy151
  replace H := Option.bind_eq_some_iff.mp H
  obtain ⟨t154, A80, H⟩ := H
  replace H : (some t154) = some r := H
  have A8 := Aside0.mk A80
  clear A80
  obtain rfl := Option.some.inj H
  go_enter Try.func41, Try.ntmps41
  go_wp2_with (first | ((with_reducible refine gate_callee (f := 20) rfl ?_); refine goesL_ (some 11) rfl rfl Try.func20 (by kernel_rfl) rfl #[.int .u64 (IntKind.u64.wrap (a0)), .int .i64 4, .bool true] rfl (by (try simp only [List.map_toArray, List.map_cons, List.map_nil]); first | done | rfl | (simp only [List.length_drop, List.length_take]; rfl)) ?_; (with_reducible refine (bits_Put.calls (IntKind.u64.wrap (a0)) 4 true t139 _ A5.out).mono ?_); rintro e w9 ⟨v140, rfl, ho0, hb⟩; refine ⟨_, rfl, ?_⟩; have n0_ := Aside0.mk (Kd.R_lower ho0 (below_size (by repeat (first | (with_reducible first | exact HB.out | apply below_alloc | apply pw_below_drewN | apply below_drew1) | exact HB.out)))); have n1_ := Aside0.mk (below_step (by repeat (first | (with_reducible first | exact HB.out | apply below_alloc | apply pw_below_drewN | apply below_drew1) | exact HB.out)) hb); clear HB; have HO141 := n0_; have HB := n1_; clear n0_ n1_; (try clear hb); (try clear hb2); (try clear hk); (try clear hi); (try clear ho0)) | ((with_reducible refine gate_callee (f := 20) rfl ?_); refine goesL_ (some 14) rfl rfl Try.func20 (by kernel_rfl) rfl #[.int .u64 (IntKind.u64.wrap (a1)), .int .i64 4, .bool true] rfl (by (try simp only [List.map_toArray, List.map_cons, List.map_nil]); first | done | rfl | (simp only [List.length_drop, List.length_take]; rfl)) ?_; (with_reducible refine (bits_Put.calls (IntKind.u64.wrap (a1)) 4 true t142 _ A6.out).mono ?_); rintro e w10 ⟨v143, rfl, ho0, hb⟩; refine ⟨_, rfl, ?_⟩; have n0_ := Aside0.mk (Kd.R_elder' (by (with_reducible repeat (first | apply Kd.R_alloc | apply Kd.R_drewN | apply Kd.R_drew)); exact HO141.out) (Kd.R_base ho0) hb); have n1_ := Aside0.mk (Kd.R_lower (Kd.R_new' ho0 (Kd.R_lt (by (with_reducible repeat (first | apply Kd.R_alloc | apply Kd.R_drewN | apply Kd.R_drew)); exact HO141.out))) (below_size (by repeat (first | (with_reducible first | exact HB.out | apply below_alloc | apply pw_below_drewN | apply below_drew1) | exact HB.out)))); have n2_ := Aside0.mk (below_step (by repeat (first | (with_reducible first | exact HB.out | apply below_alloc | apply pw_below_drewN | apply below_drew1) | exact HB.out)) hb); clear HO141; clear HB; have HO141 := n0_; have HO144 := n1_; have HB := n2_; clear n0_ n1_ n2_; (try clear hb); (try clear hb2); (try clear hk); (try clear hi); (try clear ho0)) | ((with_reducible refine gate_dst (N := 17) rfl ?_); refine Kd.R_lit (Kd.int .u8) _ 5 ?hg (N := 17) ?hd (xs := ([0, (a2) % 256] : List Int)) (inner := [.int .u8 0, .int .u8 ((a2) % 256)]) (ok := fun _ => True) (okp := fun _ => True) ?hr ?hp (fun _ hk => hk) trivial (Below.refl _ _) (Nat.le_refl _) (by simp) ?_; (case hd => rfl); (case hg => rfl); (case hr => first | (go_simp; done) | (go_simp; rfl)); (case hp => exact (Reps.one (show Kd.M (Kd.int .u8) _ _ _ 0 [.int .u8 0] from rfl) (Reps.one (show Kd.M (Kd.int .u8) _ _ _ ((a2) % 256) [.int .u8 ((a2) % 256)] from rfl) (Reps.none _ _)))); intro v146 w11 ho12 hb hg_ hnew_; clear hg_ hnew_; (first | rw [← Ny145.out] at ho12 | (simp only [Int.reduceToNat] at ho12; rw [← Ny145.out] at ho12)); have n0_ := Aside0.mk (Kd.R_elder' (by (with_reducible repeat (first | apply Kd.R_alloc | apply Kd.R_drewN | apply Kd.R_drew)); exact HO141.out) (Kd.R_base ho12) hb); have n1_ := Aside0.mk (Kd.R_elder' (by (with_reducible repeat (first | apply Kd.R_alloc | apply Kd.R_drewN | apply Kd.R_drew)); exact HO144.out) (Kd.R_base ho12) hb); have n2_ := Aside0.mk (Kd.R_lower (Kd.R_new' (Kd.R_new' ho12 (Kd.R_lt (by (with_reducible repeat (first | apply Kd.R_alloc | apply Kd.R_drewN | apply Kd.R_drew)); exact HO141.out))) (Kd.R_lt (by (with_reducible repeat (first | apply Kd.R_alloc | apply Kd.R_drewN | apply Kd.R_drew)); exact HO144.out))) (below_size (by repeat (first | (with_reducible first | exact HB.out | apply below_alloc | apply pw_below_drewN | apply below_drew1) | exact HB.out)))); have n3_ := Aside0.mk (below_step (by repeat (first | (with_reducible first | exact HB.out | apply below_alloc | apply pw_below_drewN | apply below_drew1) | exact HB.out)) hb); clear HO141; clear HO144; clear HB; have HO141 := n0_; have HO144 := n1_; have HO147 := n2_; have HB := n3_; clear n0_ n1_ n2_ n3_; clear hb ho12) | ((with_reducible refine gate_callee (f := 20) rfl ?_); refine goesL_ (some 20) rfl rfl Try.func20 (by kernel_rfl) rfl #[.int .u64 (IntKind.u64.wrap (a3)), .int .i64 2, .bool true] rfl (by (try simp only [List.map_toArray, List.map_cons, List.map_nil]); first | done | rfl | (simp only [List.length_drop, List.length_take]; rfl)) ?_; (with_reducible refine (bits_Put.calls (IntKind.u64.wrap (a3)) 2 true t148 _ A7.out).mono ?_); rintro e w13 ⟨v149, rfl, ho0, hb⟩; refine ⟨_, rfl, ?_⟩; have n0_ := Aside0.mk (Kd.R_elder' (by (with_reducible repeat (first | apply Kd.R_alloc | apply Kd.R_drewN | apply Kd.R_drew)); exact HO141.out) (Kd.R_base ho0) hb); have n1_ := Aside0.mk (Kd.R_elder' (by (with_reducible repeat (first | apply Kd.R_alloc | apply Kd.R_drewN | apply Kd.R_drew)); exact HO144.out) (Kd.R_base ho0) hb); have n2_ := Aside0.mk (Kd.R_elder' (by (with_reducible repeat (first | apply Kd.R_alloc | apply Kd.R_drewN | apply Kd.R_drew)); exact HO147.out) (Kd.R_base ho0) hb); have n3_ := Aside0.mk (Kd.R_lower (Kd.R_new' (Kd.R_new' (Kd.R_new' ho0 (Kd.R_lt (by (with_reducible repeat (first | apply Kd.R_alloc | apply Kd.R_drewN | apply Kd.R_drew)); exact HO141.out))) (Kd.R_lt (by (with_reducible repeat (first | apply Kd.R_alloc | apply Kd.R_drewN | apply Kd.R_drew)); exact HO144.out))) (Kd.R_lt (by (with_reducible repeat (first | apply Kd.R_alloc | apply Kd.R_drewN | apply Kd.R_drew)); exact HO147.out))) (below_size (by repeat (first | (with_reducible first | exact HB.out | apply below_alloc | apply pw_below_drewN | apply below_drew1) | exact HB.out)))); have n4_ := Aside0.mk (below_step (by repeat (first | (with_reducible first | exact HB.out | apply below_alloc | apply pw_below_drewN | apply below_drew1) | exact HB.out)) hb); clear HO141; clear HO144; clear HO147; clear HB; have HO141 := n0_; have HO144 := n1_; have HO147 := n2_; have HO150 := n3_; have HB := n4_; clear n0_ n1_ n2_ n3_ n4_; (try clear hb); (try clear hb2); (try clear hk); (try clear hi); (try clear ho0); obtain ⟨Ao14, co14, eo14⟩ := Kd.R_slice HO141.out; subst eo14; obtain ⟨Ao15, co15, eo15⟩ := Kd.R_slice HO144.out; subst eo15; obtain ⟨Ao16, co16, eo16⟩ := Kd.R_slice HO147.out; subst eo16; obtain ⟨Ao17, co17, eo17⟩ := Kd.R_slice HO150.out; subst eo17) | ((with_reducible refine gate_dst (N := 21) rfl ?_); refine Kd.N_lit (Kd.slice 5 (Kd.int .u8)) _ 23 ?hg (N' := 21) ?hd (xs := ([t139, t142, y145, t148] : List (List Int))) (inner := [.slice Ao14 t139.length co14, .slice Ao15 t142.length co15, .slice Ao16 y145.length co16, .slice Ao17 t148.length co17]) (ok := (fun _ => True)) (okp := (fun _ => True)) ?hr ?hp (fun _ hk => hk) ((show ∀ k_, w13.heap.size ≤ k_ → (fun _ => True) k_ from fun k_ hk => trivial) _ (Nat.le_refl _)) (Below.refl _ _) (Nat.le_refl _) (by simp) ?_; (case hd => rfl); (case hg => rfl); (case hr => first | (go_simp; done) | (go_simp; rfl)); (case hp => exact (Reps.one (show Kd.FK (Kd.slice 5 (Kd.int .u8)) _ _ t139 [.slice Ao14 t139.length co14] from (Kd.FK_slice_mk (Kd.R_reads' (Kd.R_mono (ok' := (fun _ => True)) (HO141.out) (fun k_ hk => trivial))).2.1 (Kd.R_F (Kd.R_mono (ok' := (fun _ => True)) (HO141.out) (fun k_ hk => trivial))))) (Reps.one (show Kd.FK (Kd.slice 5 (Kd.int .u8)) _ _ t142 [.slice Ao15 t142.length co15] from (Kd.FK_slice_mk (Kd.R_reads' (Kd.R_mono (ok' := (fun _ => True)) (HO144.out) (fun k_ hk => trivial))).2.1 (Kd.R_F (Kd.R_mono (ok' := (fun _ => True)) (HO144.out) (fun k_ hk => trivial))))) (Reps.one (show Kd.FK (Kd.slice 5 (Kd.int .u8)) _ _ y145 [.slice Ao16 y145.length co16] from (Kd.FK_slice_mk (Kd.R_reads' (Kd.R_mono (ok' := (fun _ => True)) (HO147.out) (fun k_ hk => trivial))).2.1 (Kd.R_F (Kd.R_mono (ok' := (fun _ => True)) (HO147.out) (fun k_ hk => trivial))))) (Reps.one (show Kd.FK (Kd.slice 5 (Kd.int .u8)) _ _ t148 [.slice Ao17 t148.length co17] from (Kd.FK_slice_mk (Kd.R_reads' (Kd.R_mono (ok' := (fun _ => True)) (HO150.out) (fun k_ hk => trivial))).2.1 (Kd.R_F (Kd.R_mono (ok' := (fun _ => True)) (HO150.out) (fun k_ hk => trivial))))) (Reps.none _ _)))))); intro v152 w18 ho19 hb hg_ hnew_; clear hg_ hnew_; (first | rw [← Ny151.out] at ho19 | (simp only [Int.reduceToNat] at ho19; rw [← Ny151.out] at ho19)); have n0_ := Aside0.mk (Kd.N_lower ho19 (below_size (by repeat (first | (with_reducible first | exact HB.out | apply below_alloc | apply pw_below_drewN | apply below_drew1) | exact HB.out)))); have n1_ := Aside0.mk (below_step (by repeat (first | (with_reducible first | exact HB.out | apply below_alloc | apply pw_below_drewN | apply below_drew1) | exact HB.out)) hb); clear HB; clear HO141; clear HO144; clear HO147; clear HO150; have HO153 := n0_; have HB := n1_; clear n0_ n1_; clear hb ho19; obtain ⟨Ao20, co20, eo20⟩ := Kd.N_slice HO153.out; subst eo20) | ((with_reducible refine gate_callee (f := 22) rfl ?_); refine goesL_ (some 22) rfl rfl Try.func22 (by kernel_rfl) rfl #[.slice Ao20 y151.length co20] rfl (by (try simp only [List.map_toArray, List.map_cons, List.map_nil]); first | done | rfl | (simp only [List.length_drop, List.length_take]; rfl)) ?_; (with_reducible refine (slices_Concat_byte_byte.calls _ _ y151 t154 _ ?side1 ?side2 A8.out).mono ?_); (case side1 => repeat (first | exact (Kd.N_reads' HO153.out).2.2 | (with_reducible refine Kd.C_alloc ?_ _) | (with_reducible refine Kd.C_drewN ?_ _) | (with_reducible refine Kd.C_drew ?_))); (case side2 => exact (Kd.N_reads' HO153.out).2.1); rintro e w21 ⟨v155, rfl, ho0, hb⟩; refine ⟨_, rfl, ?_⟩; have n0_ := Aside0.mk (Kd.N_elder' (by (with_reducible repeat (first | apply Kd.N_alloc | apply Kd.N_drewN | apply Kd.N_drew)); exact HO153.out) (Kd.R_base ho0) hb); have n1_ := Aside0.mk (Kd.R_lower ho0 (below_size (by repeat (first | (with_reducible first | exact HB.out | apply below_alloc | apply pw_below_drewN | apply below_drew1) | exact HB.out)))); have n2_ := Aside0.mk (below_step (by repeat (first | (with_reducible first | exact HB.out | apply below_alloc | apply pw_below_drewN | apply below_drew1) | exact HB.out)) hb); clear HO153; clear HB; have HO153 := n0_; have HO156 := n1_; have HB := n2_; clear n0_ n1_ n2_; (try clear hb); (try clear hb2); (try clear hk); (try clear hi); (try clear ho0)))
  go_ret
  exact ⟨_, by first | rfl | (simp [errW_none, errW_some] <;> rfl) | (simp [*, errW_none, errW_some] <;> rfl), by (with_reducible repeat (first | apply Kd.R_alloc | apply Kd.R_drewN | apply Kd.R_drew)); exact HO156.out, by repeat (first | (with_reducible first | exact HB.out | apply below_alloc | apply pw_below_drewN | apply below_drew1) | exact HB.out)⟩

end Go.Proofs.Ytndkaffkdjaaoaa.QSeg
namespace Go.Proofs.Ytndkaffkdjaaoaa.QSeg
open Go.RowKit Go.Proofs.Ytndkaffkdjaaoaa.H Go.Proofs.YtndkaffkdjaaoaaW.PrintWords Go.Proofs.YtndkaffkdjaaoaaW.PrintLast Go.Proofs.YtndkaffkdjaaoaaW.PrintMore
attribute [local go_sem] max2_int min2_int max_two min_two max_three min_three max_four min_four   -- for this text's walks alone
set_option linter.unusedVariables false
set_option linter.unusedSimpArgs false

/-! ### seg_covered: function 24 -/
def seg_covered.f (l0 : List Int) (a1 : Int) (a2 : Int) : Option (List Int) := (sum_Pseudo.f a1 a2 6 (l0.length : Int)).bind fun t157 => (if t157.length + l0.length < 140737488355328 then (some (t157 ++ l0)) else (none))
set_option maxHeartbeats 8000000 in
set_option maxRecDepth 100000 in
theorem seg_covered.calls (A0 : Option Addr) (c0 : Nat) (l0 : List Int) (a1 : Int) (a2 : Int) (r : List Int) (w : World) (hr0 : Kd.C (Kd.int .u8) w A0 l0.length l0) (hc0 : l0.length ≤ c0) (h : seg_covered.f l0 a1 a2 = some r) :
    Calls Try.prog 24 #[.slice A0 l0.length c0, .int .u32 a1, .int .u32 a2] w fun e w' => ∃ v0_ : Value, e = .returned (v0_) ∧ Kd.R (Kd.int .u8) 5 w' w.heap.size (fun _ => True) v0_ r ∧ Below w.heap.size w w' := by
  have HR0 := Aside0.mk hr0
  have HC0 := Aside0.mk hc0
  clear hr0 hc0
  have HB := Aside0.mk (Below.refl w.heap.size w)
  have H : ((sum_Pseudo.f a1 a2 6 (l0.length : Int)).bind fun t157 => (if t157.length + l0.length < 140737488355328 then (some (t157 ++ l0)) else (none))) = some r := h
  clear h
  replace H := Option.bind_eq_some_iff.mp H
  obtain ⟨t157, A40, H⟩ := H
  replace H : (if t157.length + l0.length < 140737488355328 then (some (t157 ++ l0)) else (none)) = some r := H
  have A4 := Aside0.mk A40
  clear A40
  by_cases c5 : t157.length + l0.length < 140737488355328
  · rw [if_pos c5] at H
    have LMc5 := Aside0.mk c5
    clear c5
    obtain ⟨y160, hy160⟩ : ∃ y_ : List Int, y_ = (t157 ++ l0) := ⟨_, rfl⟩
    replace H : (some y160) = some r := by first | (rw [hy160]; with_reducible exact H) | (have H2_ := (Option.bind_some _ _).symm.trans H; rw [hy160]; with_reducible exact H2_) | (have H2_ := (Option.bind_some _ _).symm.trans H; with_reducible exact H2_) | with_reducible exact H | (rw [hy160]; exact H) | exact H
    have Ny160 := Aside0.mk hy160
    clear hy160
    obtain rfl := Option.some.inj H
    go_enter Try.func24, Try.ntmps24
    go_wp2_with (first | ((with_reducible refine gate_callee (f := 41) rfl ?_); refine goesL_ (some 11) rfl rfl Try.func41 (by kernel_rfl) rfl #[.int .u32 a1, .int .u32 a2, .int .i64 6, .int .i64 (l0.length : Int)] rfl (by (try simp only [List.map_toArray, List.map_cons, List.map_nil]); first | done | rfl | (simp only [List.length_drop, List.length_take]; rfl)) ?_; (with_reducible refine (sum_Pseudo.calls a1 a2 6 (l0.length : Int) t157 _ A4.out).mono ?_); rintro e w6 ⟨v158, rfl, ho0, hb⟩; refine ⟨_, rfl, ?_⟩; have n0_ := Aside0.mk (Kd.R_lower ho0 (below_size (by repeat (first | (with_reducible first | exact HB.out | apply below_alloc | apply pw_below_drewN | apply below_drew1) | exact HB.out)))); have n1_ := Aside0.mk (below_step (by repeat (first | (with_reducible first | exact HB.out | apply below_alloc | apply pw_below_drewN | apply below_drew1) | exact HB.out)) hb); clear HB; have HO159 := n0_; have HB := n1_; clear n0_ n1_; (try clear hb); (try clear hb2); (try clear hk); (try clear hi); (try clear ho0)) | ((with_reducible refine gate_builtin (b := .append) (xs := #[.tmp 11, .tmp 12]) rfl ?_); at_builtin; refine Kd.R_append_rows (Kd.int .u8) (w0 := w) w.heap.size rfl (.tmp 11) (.tmp 12) 23 5 (.int .u8 0) 1 rfl Try.underlying23 info5 rfl (by decide) (by omega) v158 t157 l0 _ _ _ (fun _ => True) (fun _ => False) rfl rfl ?aO ?aR (fun _ _ h => h) (fun _ h => h.elim) ?aF ?aB ?aS ?aL ?_; (case aR => repeat (first | exact (Kd.C_below HR0.out HB.out) | (with_reducible refine Kd.C_alloc ?_ _) | (with_reducible refine Kd.C_drewN ?_ _) | (with_reducible refine Kd.C_drew ?_))); (case aB => exact (by repeat (first | (with_reducible first | exact HB.out | apply below_alloc | apply pw_below_drewN | apply below_drew1) | exact HB.out))); (case aF => exact (fun _ _ => trivial)); (case aO => exact (by (with_reducible repeat (first | apply Kd.R_alloc | apply Kd.R_drewN | apply Kd.R_drew)); exact HO159.out)); (case aS => exact (below_size (by repeat (first | (with_reducible first | exact HB.out | apply below_alloc | apply pw_below_drewN | apply below_drew1) | exact HB.out)))); (case aL => have := LMc5.out; omega); intro v161 w7 ho hb hg hat; rw [← Ny160.out] at ho; have n0_ := Aside0.mk (hb); have n1_ := Aside0.mk (ho); clear HB; clear HO159; have HB := n0_; have HO162 := n1_; clear n0_ n1_; clear ho hb hg hat))
    go_ret
    exact ⟨_, by first | rfl | (simp [errW_none, errW_some] <;> rfl) | (simp [*, errW_none, errW_some] <;> rfl), by (with_reducible repeat (first | apply Kd.R_alloc | apply Kd.R_drewN | apply Kd.R_drew)); exact HO162.out, by repeat (first | (with_reducible first | exact HB.out | apply below_alloc | apply pw_below_drewN | apply below_drew1) | exact HB.out)⟩
  · rw [if_neg c5] at H
    exact absurd H (by simp)

end Go.Proofs.Ytndkaffkdjaaoaa.QSeg
/- Contract of seg.Put, in the print's form. -/
namespace Go.Proofs.Ytndkaffkdjaaoaa.H
open Go.RowKit Go.Proofs.YtndkaffkdjaaoaaW.PrintWords Go.Proofs.YtndkaffkdjaaoaaW.PrintLast Go.Proofs.YtndkaffkdjaaoaaW.PrintMore Go.Proofs.Ytndkaffkdjaaoaa.QSeg
set_option linter.unusedVariables false
set_option linter.unusedSimpArgs false

theorem u64_in (x : Int) (h0 : 0 ≤ x) (h : x < 18446744073709551616) : IntKind.u64.wrap x = x := by
  rw [show IntKind.u64.wrap x = x % 18446744073709551616 from by simp [IntKind.wrap, IntKind.bits, IntKind.signed]]; omega

def pseudo (src dst proto n : Int) : List Int := beN 4 src ++ (beN 4 dst ++ ([0, proto % 256] ++ beN 2 n))
theorem pseudo_length (src dst proto n : Int) : (pseudo src dst proto n).length = 12 := by simp [pseudo, beN_length]
theorem pseudo_bytes (src dst proto n : Int) : Bytes (pseudo src dst proto n) :=
  (beN_bytes _ _).append ((beN_bytes _ _).append (Bytes.append (fun x hx => by simp at hx; omega) (beN_bytes _ _)))

theorem bits_Put_f (x : Int) (n : Int) (h0 : 0 ≤ x) (h : x < 18446744073709551616) (h1 : 1 ≤ n) (h8 : n ≤ 8) : bits_Put.f x n true = some (beN n.toNat x) := by
  unfold bits_Put.f
  rw [if_pos ⟨⟨h0, h⟩, ⟨h1, h8⟩, rfl⟩]

theorem sum_Pseudo_f (a0 a1 a2 a3 : Int) (h0 : 0 ≤ a0 ∧ a0 < 4294967296) (h1 : 0 ≤ a1 ∧ a1 < 4294967296) (h3 : 0 ≤ a3 ∧ a3 < 18446744073709551616) : sum_Pseudo.f a0 a1 a2 a3 = some (pseudo a0 a1 a2 a3) := by
  unfold sum_Pseudo.f
  rw [u64_in a0 h0.1 (by omega), u64_in a1 h1.1 (by omega), u64_in a3 h3.1 h3.2, bits_Put_f a0 4 h0.1 (by omega) (by omega) (by omega), bits_Put_f a1 4 h1.1 (by omega) (by omega) (by omega), bits_Put_f a3 2 h3.1 h3.2 (by omega) (by omega)]
  simp only [Option.bind_some, slices_Concat_byte_byte.f]
  rw [if_pos (by simp [beN_length])]
  simp [pseudo]

theorem seg_covered_f (l : List Int) (a1 a2 : Int) (h0 : 0 ≤ a1 ∧ a1 < 4294967296) (h1 : 0 ≤ a2 ∧ a2 < 4294967296) (hl : l.length ≤ 1000000) : seg_covered.f l a1 a2 = some (pseudo a1 a2 6 l.length ++ l) := by
  unfold seg_covered.f
  rw [sum_Pseudo_f a1 a2 6 l.length h0 h1 (by omega)]
  simp only [Option.bind_some]
  rw [if_pos (by rw [pseudo_length]; omega)]

set_option maxHeartbeats 1600000 in
set_option maxRecDepth 100000 in
theorem seg_Put_num (x : Int) (n : Nat) (w : World) (h0 : 0 ≤ x) (h1 : x < 18446744073709551616) (hn0 : 1 ≤ n) (hn : n ≤ 8) :
    Calls Try.prog 19 #[.int .u64 x, .int .i64 n] w fun e w' => ∃ v0_ : Value, e = .returned (v0_) ∧ Kd.R (Kd.int .u8) 5 w' w.heap.size (fun _ => True) v0_ (beN n x) ∧ Below w.heap.size w w' := by
  go_enter Try.func19, Try.ntmps19
  go_wp2_with (go_at_call 20; (with_reducible refine (bits_Put_walk x n _ h0 h1 hn0 hn).mono ?_); rintro e w1 ⟨v1, rfl, ho1, hb1⟩)
  go_ret
  exact ⟨_, rfl, ho1, hb1⟩

set_option maxHeartbeats 3200000 in
set_option maxRecDepth 100000 in
theorem seg_Put_bad (a0 a1 a2 a3 a4 a5 a6 : Int) (A : Option Addr) (c : Nat) (l : List Int) (s d : Int) (w : World) (hr : Kd.C (Kd.int .u8) w A l.length l) (hc : l.length ≤ c) (hbad : sameB a0 a1 a4 a5 = false ∨ ¬ (0 ≤ a6 ∧ a6 < 65536) ∨ 60000 < l.length) :
    Calls Try.prog 6 #[.agg #[.int .i64 a0, .int .i64 a1, .int .u32 a2, .int .u32 a3, .int .i64 a4, .int .i64 a5, .int .i64 a6, .slice A l.length c], .int .u32 s, .int .u32 d] w fun e w' => e = .returned (.tuple #[.slice none 0 0, .int .i64 2]) ∧ Below w.heap.size w w' := by
  have hB1 := Aside0.mk (show Below w.heap.size w (w.alloc (.cells #[.int .i64 a0, .int .i64 a1, .int .u32 a2, .int .u32 a3, .int .i64 a4, .int .i64 a5, .int .i64 a6, .slice A l.length c] 25)) from (Below.refl _ _).alloc (Nat.le_refl _) _)
  have HS := Aside0.mk (seg_same_c a0 a1 a2 a3 a4 a5 a6 A c l (w.alloc (.cells #[.int .i64 a0, .int .i64 a1, .int .u32 a2, .int .u32 a3, .int .i64 a4, .int .i64 a5, .int .i64 a6, .slice A l.length c] 25)) (Kd.C_alloc hr _) hc)
  have hg0 := Aside0.mk (show (w.alloc (.cells #[.int .i64 a0, .int .i64 a1, .int .u32 a2, .int .u32 a3, .int .i64 a4, .int .i64 a5, .int .i64 a6, .slice A l.length c] 25)).heap[w.heap.size]? = some (.cells #[.int .i64 a0, .int .i64 a1, .int .u32 a2, .int .u32 a3, .int .i64 a4, .int .i64 a5, .int .i64 a6, .slice A l.length c] 25 (0, 0)) from heap_alloc_new w _)
  by_cases hs : sameB a0 a1 a4 a5 = true
  · by_cases hm : 0 ≤ a6 ∧ a6 < 65536
    · have hl : 60000 < l.length := by
        rcases hbad with h | h | h
        · rw [hs] at h; cases h
        · exact absurd hm h
        · exact h
      have d1 : (a6 / 65536 != 0) = false := by rw [bne_eq_false_iff_eq]; omega
      have d2 : decide ((60000 : Int) < (l.length : Int)) = true := decide_eq_true (by omega)
      rw [hs] at HS
      clear hs hm hbad hl
      go_enter Try.func6, Try.ntmps6
      go_wp2_with (go_at_call 18; (with_reducible refine HS.out.mono ?_); rintro e w1 ⟨rfl, hb1⟩; have hg1 := (hb1.block w.heap.size (by simp)).trans hg0.out; have hc6 := (blk_cell hg1 6).trans rfl; have hc7 := (blk_cell hg1 7).trans rfl; have HB1 := Aside0.mk (below_then hB1.out hB1.out.size hb1); clear hg1 hb1)
      go_ret2
      exact ⟨rfl, HB1.out⟩
    · have d1 : (a6 / 65536 != 0) = true := by rw [bne_iff_ne]; omega
      rw [hs] at HS
      clear hs hm hbad
      go_enter Try.func6, Try.ntmps6
      go_wp2_with (go_at_call 18; (with_reducible refine HS.out.mono ?_); rintro e w1 ⟨rfl, hb1⟩; have hg1 := (hb1.block w.heap.size (by simp)).trans hg0.out; have hc6 := (blk_cell hg1 6).trans rfl; have hc7 := (blk_cell hg1 7).trans rfl; have HB1 := Aside0.mk (below_then hB1.out hB1.out.size hb1); clear hg1 hb1)
      go_ret2
      exact ⟨rfl, HB1.out⟩
  · rw [Bool.not_eq_true] at hs
    rw [hs] at HS
    clear hs hbad
    go_enter Try.func6, Try.ntmps6
    go_wp2_with (go_at_call 18; (with_reducible refine HS.out.mono ?_); rintro e w1 ⟨rfl, hb1⟩; have hg1 := (hb1.block w.heap.size (by simp)).trans hg0.out; have hc6 := (blk_cell hg1 6).trans rfl; have hc7 := (blk_cell hg1 7).trans rfl; have HB1 := Aside0.mk (below_then hB1.out hB1.out.size hb1); clear hg1 hb1)
    go_ret2
    exact ⟨rfl, HB1.out⟩

def segOpts (a6 : Int) : List Int := if 0 < a6 then [2, 4] ++ beN 2 a6 else []
theorem segOpts_length (a6 : Int) : (segOpts a6).length = if 0 < a6 then 4 else 0 := by unfold segOpts; split <;> simp [beN_length]
theorem segOpts_bytes (a6 : Int) : Bytes (segOpts a6) := by
  unfold segOpts
  split
  · exact Bytes.append (fun x hx => by simp at hx; omega) (beN_bytes _ _)
  · exact Bytes.nil
def segRows (a0 a1 a2 a3 a4 a5 a6 : Int) (l : List Int) : List (List Int) :=
  [beN 2 a0, beN 2 a1, beN 4 a2, beN 4 a3, beN 1 ((20 + ((segOpts a6).length : Int)) / 4 * 16), beN 1 a4, beN 2 a5, beN 4 0, segOpts a6, l]
/-- A segment whose checksum is nought. -/
def segRaw (a0 a1 a2 a3 a4 a5 a6 : Int) (l : List Int) : List Int := (segRows a0 a1 a2 a3 a4 a5 a6 l).flatten
theorem segRaw_length (a0 a1 a2 a3 a4 a5 a6 : Int) (l : List Int) : (segRaw a0 a1 a2 a3 a4 a5 a6 l).length = 20 + (segOpts a6).length + l.length := by
  simp [segRaw, segRows, beN_length]; omega
/-- What is written. -/
def segBytes (a0 a1 a2 a3 a4 a5 a6 : Int) (l : List Int) (s d : Int) : List Int :=
  laid (segRaw a0 a1 a2 a3 a4 a5 a6 l) 16 (beN 2 (csum (pseudo s d 6 (segRaw a0 a1 a2 a3 a4 a5 a6 l).length ++ segRaw a0 a1 a2 a3 a4 a5 a6 l)))

theorem seg_Put_num1 (x : Int) (w : World) (h0 : 0 ≤ x) (h1 : x < 18446744073709551616) :
    Calls Try.prog 19 #[.int .u64 x, .int .i64 1] w fun e w' => ∃ v0_ : Value, e = .returned (v0_) ∧ Kd.R (Kd.int .u8) 5 w' w.heap.size (fun _ => True) v0_ (beN 1 x) ∧ Below w.heap.size w w' := seg_Put_num x 1 w h0 h1 (by decide) (by decide)
theorem seg_Put_num2 (x : Int) (w : World) (h0 : 0 ≤ x) (h1 : x < 18446744073709551616) :
    Calls Try.prog 19 #[.int .u64 x, .int .i64 2] w fun e w' => ∃ v0_ : Value, e = .returned (v0_) ∧ Kd.R (Kd.int .u8) 5 w' w.heap.size (fun _ => True) v0_ (beN 2 x) ∧ Below w.heap.size w w' := seg_Put_num x 2 w h0 h1 (by decide) (by decide)
theorem seg_Put_num4 (x : Int) (w : World) (h0 : 0 ≤ x) (h1 : x < 18446744073709551616) :
    Calls Try.prog 19 #[.int .u64 x, .int .i64 4] w fun e w' => ∃ v0_ : Value, e = .returned (v0_) ∧ Kd.R (Kd.int .u8) 5 w' w.heap.size (fun _ => True) v0_ (beN 4 x) ∧ Below w.heap.size w w' := seg_Put_num x 4 w h0 h1 (by decide) (by decide)

theorem seg_kept {g b n c : Nat} {a0 a1 a2 a3 a4 a5 : Int} {A : Option Addr} {W W' : World} (h : W.cell? ⟨g, 0, none⟩ = some (.int .u16 a0) ∧ W.cell? ⟨g, 1, none⟩ = some (.int .u16 a1) ∧ W.cell? ⟨g, 2, none⟩ = some (.int .u32 a2) ∧ W.cell? ⟨g, 3, none⟩ = some (.int .u32 a3) ∧ W.cell? ⟨g, 4, none⟩ = some (.int .u8 a4) ∧ W.cell? ⟨g, 5, none⟩ = some (.int .u16 a5) ∧ W.cell? ⟨b, 7, none⟩ = some (.slice A n c)) (hb : Below W.heap.size W W') : W'.cell? ⟨g, 0, none⟩ = some (.int .u16 a0) ∧ W'.cell? ⟨g, 1, none⟩ = some (.int .u16 a1) ∧ W'.cell? ⟨g, 2, none⟩ = some (.int .u32 a2) ∧ W'.cell? ⟨g, 3, none⟩ = some (.int .u32 a3) ∧ W'.cell? ⟨g, 4, none⟩ = some (.int .u8 a4) ∧ W'.cell? ⟨g, 5, none⟩ = some (.int .u16 a5) ∧ W'.cell? ⟨b, 7, none⟩ = some (.slice A n c) := by
  have k := fun (a : Addr) (v : Value) (h : W.cell? a = some v) => (hb.cell (World.block_lt_of_cell? W _ h)).trans h
  exact ⟨k _ _ h.1, k _ _ h.2.1, k _ _ h.2.2.1, k _ _ h.2.2.2.1, k _ _ h.2.2.2.2.1, k _ _ h.2.2.2.2.2.1, k _ _ h.2.2.2.2.2.2⟩

set_option maxHeartbeats 6400000 in
set_option maxRecDepth 100000 in
theorem seg_Put_good (a0 a1 a2 a3 a4 a5 a6 : Int) (A : Option Addr) (c : Nat) (l : List Int) (s d : Int) (w : World) (hr : Kd.C (Kd.int .u8) w A l.length l) (hc : l.length ≤ c) (hs : sameB a0 a1 a4 a5 = true) (hm : 0 ≤ a6 ∧ a6 < 65536) (hl : l.length ≤ 60000)
    (hb : Bytes l) (h2 : 0 ≤ a2 ∧ a2 < 4294967296) (h3 : 0 ≤ a3 ∧ a3 < 4294967296) (hS : 0 ≤ s ∧ s < 4294967296) (hD : 0 ≤ d ∧ d < 4294967296) :
    Calls Try.prog 6 #[.agg #[.int .i64 a0, .int .i64 a1, .int .u32 a2, .int .u32 a3, .int .i64 a4, .int .i64 a5, .int .i64 a6, .slice A l.length c], .int .u32 s, .int .u32 d] w fun e w' => ∃ v0_ : Value, e = .returned (.tuple #[v0_, .int .i64 0]) ∧ Kd.R (Kd.int .u8) 5 w' w.heap.size (fun _ => True) v0_ (segBytes a0 a1 a2 a3 a4 a5 a6 l s d) ∧ Below w.heap.size w w' := by
  have hB1 := Aside0.mk (show Below w.heap.size w (w.alloc (.cells #[.int .i64 a0, .int .i64 a1, .int .u32 a2, .int .u32 a3, .int .i64 a4, .int .i64 a5, .int .i64 a6, .slice A l.length c] 25)) from (Below.refl _ _).alloc (Nat.le_refl _) _)
  have HS := Aside0.mk (seg_same_c a0 a1 a2 a3 a4 a5 a6 A c l (w.alloc (.cells #[.int .i64 a0, .int .i64 a1, .int .u32 a2, .int .u32 a3, .int .i64 a4, .int .i64 a5, .int .i64 a6, .slice A l.length c] 25)) (Kd.C_alloc hr _) hc)
  have hg0 := Aside0.mk (show (w.alloc (.cells #[.int .i64 a0, .int .i64 a1, .int .u32 a2, .int .u32 a3, .int .i64 a4, .int .i64 a5, .int .i64 a6, .slice A l.length c] 25)).heap[w.heap.size]? = some (.cells #[.int .i64 a0, .int .i64 a1, .int .u32 a2, .int .u32 a3, .int .i64 a4, .int .i64 a5, .int .i64 a6, .slice A l.length c] 25 (0, 0)) from heap_alloc_new w _)
  rw [hs] at HS
  obtain ⟨k0, k1, k4, k5⟩ : (0 ≤ a0 ∧ a0 < 65536) ∧ (0 ≤ a1 ∧ a1 < 65536) ∧ (0 ≤ a4 ∧ a4 < 64) ∧ (0 ≤ a5 ∧ a5 < 65536) := by
    unfold sameB at hs
    exact of_decide_eq_true hs
  have d1 : (a6 / 65536 != 0) = false := by rw [bne_eq_false_iff_eq]; omega
  have d2 : decide ((60000 : Int) < (l.length : Int)) = false := decide_eq_false (by omega)
  have HBy := Aside0.mk hb
  have HR := Aside0.mk hr
  have HC := Aside0.mk hc
  have HL := Aside0.mk hl
  clear hs hb hr hc hl
  obtain ⟨m0, m1⟩ := hm
  go_enter Try.func6, Try.ntmps6
  go_upto_if 30 with (go_at_call 18; (with_reducible refine HS.out.mono ?_); rintro e w1 ⟨rfl, hb1⟩; have hg1 := (hb1.block w.heap.size (by simp)).trans hg0.out; have hc6 := (blk_cell hg1 6).trans rfl; have hc7 := (blk_cell hg1 7).trans rfl; have HG1 := Aside0.mk hg1; have HB1 := Aside0.mk (below_then hB1.out hB1.out.size hb1); clear hg1 hb1)
  go_cut [9] (fun v9 wc => Aside0 (Kd.R (Kd.int .u8) 5 wc w.heap.size (fun _ => True) v9 (segOpts a6)) ∧ Aside0 (wc.heap[w.heap.size]? = some (.cells #[.int .i64 a0, .int .i64 a1, .int .u32 a2, .int .u32 a3, .int .i64 a4, .int .i64 a5, .int .i64 a6, .slice A l.length c] 25 (0, 0))) ∧ Aside0 (Below w.heap.size w wc))
  case first =>
    by_cases hp : 0 < a6
    · have d3 : decide (0 < a6) = true := decide_eq_true hp
      have hw6 := u64_in a6 m0 (by omega)
      clear hc6 hc7
      have HGa := HG1
      go_wp2_with (first | ((with_reducible refine gate_dst (N := 31) rfl ?_); refine Kd.R_lit (Kd.int .u8) (w0 := w) w.heap.size 5 ?hg (N := 31) ?hd (xs := ([2, 4] : List Int)) (inner := [.int .u8 2, .int .u8 4]) (ok := fun _ => True) (okp := fun _ => True) ?hr ?hp (fun _ hk => hk) trivial HB1.out HB1.out.size (by simp) ?_; (case hd => rfl); (case hg => rfl); (case hr => first | (go_simp; done) | (go_simp; rfl)); (case hp => exact Reps.one rfl (Reps.one rfl (Reps.none _ _))); intro v2 w2 ho2 hb2 hg2 hnew2; have HO2 := Aside0.mk ho2; have HG2 := Aside0.mk ((hg2.block w.heap.size (blk_lt HG1.out) (by simp)).trans HG1.out); have HB2 := Aside0.mk hb2; have hc6 := (blk_cell HG2.out 6).trans rfl; clear ho2 hb2 hg2 hnew2) | (go_at_call 19; (with_reducible refine (seg_Put_num2 _ _ m0 (by omega)).mono ?_); rintro e w3 ⟨v3, rfl, ho3, hb3⟩; have HO2' := Aside0.mk (Kd.R_below HO2.out hb3); have HG3 := Aside0.mk ((hb3.block w.heap.size (blk_lt HG2.out)).trans HG2.out); have HB3 := Aside0.mk (below_then HB2.out HB2.out.size hb3); have HO3 := Aside0.mk ho3; clear ho3 hb3; obtain ⟨A3, c3, e3⟩ := Kd.R_slice HO3.out; subst e3) | ((with_reducible refine gate_builtin (b := .append) (xs := #[.tmp 31, .tmp 36]) rfl ?_); at_builtin; refine Kd.R_append_rows (Kd.int .u8) (w0 := w) w.heap.size rfl (.tmp 31) (.tmp 36) 23 5 (.int .u8 0) 1 rfl Try.underlying23 info8 rfl (by decide) (by omega) _ [2, 4] (beN 2 a6) _ _ _ (fun _ => True) (fun _ => False) rfl rfl HO2'.out (Kd.R_reads' HO3.out).2.2 (fun _ _ h => h) (fun _ h => h.elim) (fun _ _ => trivial) HB3.out HB3.out.size (by rw [beN_length]; simp) ?_; intro v4 w4 ho4 hb4 hg4 hat4; have HO4 := Aside0.mk ho4; have HB4 := Aside0.mk hb4; have HG4 := Aside0.mk ((hg4.block w.heap.size (blk_lt HG3.out) (Kd.R_ne HO2'.out HG3.out (by decide))).trans HG3.out); clear ho4 hb4 hg4 hat4))
      go_meet
      exact ⟨⟨by unfold segOpts; rw [if_pos hp]; exact HO4.out⟩, HG4, HB4⟩
    · have d3 : decide (0 < a6) = false := decide_eq_false hp
      go_wp2
      go_meet
      exact ⟨⟨by unfold segOpts; rw [if_neg (by omega)]; exact Kd.R_nil _ _ _ _ _⟩, HG1, HB1⟩
  case rest =>
    obtain ⟨HO, HG, HB⟩ := hcut
    obtain ⟨A9, c9, e9⟩ := Kd.R_slice HO.out
    subst e9
    have HF := Aside0.mk (seg_of.calls a0 a1 a2 a3 a4 a5 a6 A c l a0 a1 a2 a3 a4 a5 wc (Kd.C_below HR.out HB.out) HC.out (by unfold seg_of.f; rw [u16_w, u16_w, u16_w]; rw [show a0 % 65536 = a0 by omega, show a1 % 65536 = a1 by omega, show a4 % 256 = a4 by omega, show a5 % 65536 = a5 by omega]))
    have hol := segOpts_length a6
    have hob : (segOpts a6).length ≤ 4 := by rw [hol]; split <;> omega
    clear hol d1 d2 hc6 hc7 HS hB1 hg0 HB1 HG1
    have e0 := (blk_cell HG.out 0).trans rfl
    have e1 := (blk_cell HG.out 1).trans rfl
    have e2 := (blk_cell HG.out 2).trans rfl
    have e3 := (blk_cell HG.out 3).trans rfl
    have e4 := (blk_cell HG.out 4).trans rfl
    have e5 := (blk_cell HG.out 5).trans rfl
    have e6 := (blk_cell HG.out 6).trans rfl
    have e7 := (blk_cell HG.out 7).trans rfl
    go_upto_region 9 with (go_at_call 21; (with_reducible refine HF.out.mono ?_); rintro e w5 ⟨rfl, hb5⟩; have HG5 := Aside0.mk ((hb5.block w.heap.size (blk_lt HG.out)).trans HG.out); have HO5 := Aside0.mk (Kd.R_below HO.out hb5); have HB5 := Aside0.mk (below_then HB.out HB.out.size hb5); clear hb5)
    have hw0 := u64_in a0 (by omega) (by omega)
    have hw1 := u64_in a1 (by omega) (by omega)
    have hw2 := u64_in a2 (by omega) (by omega)
    have hw3 := u64_in a3 (by omega) (by omega)
    have hw4 := u64_in a4 (by omega) (by omega)
    have hw5 := u64_in a5 (by omega) (by omega)
    have hg : (w5.alloc (.cells #[.int .u16 a0, .int .u16 a1, .int .u32 a2, .int .u32 a3, .int .u8 a4, .int .u16 a5] 52)).drew.heap[w5.heap.size]? = some (.cells #[.int .u16 a0, .int .u16 a1, .int .u32 a2, .int .u32 a3, .int .u8 a4, .int .u16 a5] 52 (0, 0)) := heap_alloc_new w5 _
    have hgB : (w5.alloc (.cells #[.int .u16 a0, .int .u16 a1, .int .u32 a2, .int .u32 a3, .int .u8 a4, .int .u16 a5] 52)).drew.heap[w.heap.size]? = some (.cells #[.int .i64 a0, .int .i64 a1, .int .u32 a2, .int .u32 a3, .int .i64 a4, .int .i64 a5, .int .i64 a6, .slice A l.length c] 25 (0, 0)) := (Below.heap_alloc w5 _ _ (blk_lt HG5.out)).trans HG5.out
    have hs0 : (w5.alloc (.cells #[.int .u16 a0, .int .u16 a1, .int .u32 a2, .int .u32 a3, .int .u8 a4, .int .u16 a5] 52)).drew.cell? ⟨w5.heap.size, 0, none⟩ = some (.int .u16 a0) ∧ (w5.alloc (.cells #[.int .u16 a0, .int .u16 a1, .int .u32 a2, .int .u32 a3, .int .u8 a4, .int .u16 a5] 52)).drew.cell? ⟨w5.heap.size, 1, none⟩ = some (.int .u16 a1) ∧ (w5.alloc (.cells #[.int .u16 a0, .int .u16 a1, .int .u32 a2, .int .u32 a3, .int .u8 a4, .int .u16 a5] 52)).drew.cell? ⟨w5.heap.size, 2, none⟩ = some (.int .u32 a2) ∧ (w5.alloc (.cells #[.int .u16 a0, .int .u16 a1, .int .u32 a2, .int .u32 a3, .int .u8 a4, .int .u16 a5] 52)).drew.cell? ⟨w5.heap.size, 3, none⟩ = some (.int .u32 a3) ∧ (w5.alloc (.cells #[.int .u16 a0, .int .u16 a1, .int .u32 a2, .int .u32 a3, .int .u8 a4, .int .u16 a5] 52)).drew.cell? ⟨w5.heap.size, 4, none⟩ = some (.int .u8 a4) ∧ (w5.alloc (.cells #[.int .u16 a0, .int .u16 a1, .int .u32 a2, .int .u32 a3, .int .u8 a4, .int .u16 a5] 52)).drew.cell? ⟨w5.heap.size, 5, none⟩ = some (.int .u16 a5) ∧ (w5.alloc (.cells #[.int .u16 a0, .int .u16 a1, .int .u32 a2, .int .u32 a3, .int .u8 a4, .int .u16 a5] 52)).drew.cell? ⟨w.heap.size, 7, none⟩ = some (.slice A l.length c) := ⟨(blk_cell hg 0).trans rfl, (blk_cell hg 1).trans rfl, (blk_cell hg 2).trans rfl, (blk_cell hg 3).trans rfl, (blk_cell hg 4).trans rfl, (blk_cell hg 5).trans rfl, (blk_cell hgB 7).trans rfl⟩
    have HZ0 := Aside0.mk (show Below w.heap.size w (w5.alloc (.cells #[.int .u16 a0, .int .u16 a1, .int .u32 a2, .int .u32 a3, .int .u8 a4, .int .u16 a5] 52)).drew from (HB5.out.alloc HB5.out.size _).drew)
    have NO := Aside0.mk (show Kd.R (Kd.int .u8) 5 (w5.alloc (.cells #[.int .u16 a0, .int .u16 a1, .int .u32 a2, .int .u32 a3, .int .u8 a4, .int .u16 a5] 52)).drew w.heap.size (fun _ => True) (.slice A9 (segOpts a6).length c9) (segOpts a6) from Kd.R_drew (Kd.R_alloc HO5.out _))
    clear hg hgB e0 e1 e2 e3 e4 e5 e6 e7 HF HO HG HB
    go_cut [12] (fun v12 wc => Aside0 (Kd.R (Kd.int .u8) 5 wc w.heap.size (fun _ => True) v12 (segRaw a0 a1 a2 a3 a4 a5 a6 l)) ∧ Aside0 (Below w.heap.size w wc))
    case first =>
      go_region_held3 (fun W => W.cell? ⟨w5.heap.size, 0, none⟩ = some (.int .u16 a0) ∧ W.cell? ⟨w5.heap.size, 1, none⟩ = some (.int .u16 a1) ∧ W.cell? ⟨w5.heap.size, 2, none⟩ = some (.int .u32 a2) ∧ W.cell? ⟨w5.heap.size, 3, none⟩ = some (.int .u32 a3) ∧ W.cell? ⟨w5.heap.size, 4, none⟩ = some (.int .u8 a4) ∧ W.cell? ⟨w5.heap.size, 5, none⟩ = some (.int .u16 a5) ∧ W.cell? ⟨w.heap.size, 7, none⟩ = some (.slice A l.length c)) (first | exact hs9 | exact seg_kept hs8 ((Below.refl _ _).alloc (Nat.le_refl _) _) | exact hs8 | exact hs7 | exact hs6 | exact hs5 | exact hs4 | exact hs3 | exact hs2 | exact hs1 | exact hs0)
        (first | (go_at_call 19; (with_reducible refine (seg_Put_num2 a0 _ (by omega) (by omega)).mono ?_); rintro e w21 ⟨v21, rfl, ho, hb⟩; obtain ⟨A21, c21, e21⟩ := Kd.R_slice ho; subst e21; have hs1 := seg_kept hs0 hb; have N1 := Aside0.mk (Kd.R_lower ho HZ0.out.size); have HZ1 := Aside0.mk (below_then HZ0.out HZ0.out.size hb); have NO := Aside0.mk (Kd.R_below NO.out hb); clear ho hb) | (go_at_call 19; (with_reducible refine (seg_Put_num2 a1 _ (by omega) (by omega)).mono ?_); rintro e w22 ⟨v22, rfl, ho, hb⟩; obtain ⟨A22, c22, e22⟩ := Kd.R_slice ho; subst e22; have hs2 := seg_kept hs1 hb; have N1 := Aside0.mk (Kd.R_below N1.out hb); have N2 := Aside0.mk (Kd.R_lower ho HZ1.out.size); have HZ2 := Aside0.mk (below_then HZ1.out HZ1.out.size hb); have NO := Aside0.mk (Kd.R_below NO.out hb); clear ho hb) | (go_at_call 19; (with_reducible refine (seg_Put_num4 a2 _ (by omega) (by omega)).mono ?_); rintro e w23 ⟨v23, rfl, ho, hb⟩; obtain ⟨A23, c23, e23⟩ := Kd.R_slice ho; subst e23; have hs3 := seg_kept hs2 hb; have N1 := Aside0.mk (Kd.R_below N1.out hb); have N2 := Aside0.mk (Kd.R_below N2.out hb); have N3 := Aside0.mk (Kd.R_lower ho HZ2.out.size); have HZ3 := Aside0.mk (below_then HZ2.out HZ2.out.size hb); have NO := Aside0.mk (Kd.R_below NO.out hb); clear ho hb) | (go_at_call 19; (with_reducible refine (seg_Put_num4 a3 _ (by omega) (by omega)).mono ?_); rintro e w24 ⟨v24, rfl, ho, hb⟩; obtain ⟨A24, c24, e24⟩ := Kd.R_slice ho; subst e24; have hs4 := seg_kept hs3 hb; have N1 := Aside0.mk (Kd.R_below N1.out hb); have N2 := Aside0.mk (Kd.R_below N2.out hb); have N3 := Aside0.mk (Kd.R_below N3.out hb); have N4 := Aside0.mk (Kd.R_lower ho HZ3.out.size); have HZ4 := Aside0.mk (below_then HZ3.out HZ3.out.size hb); have NO := Aside0.mk (Kd.R_below NO.out hb); clear ho hb) | (go_at_call 19; (with_reducible refine (seg_Put_num1 ((20 + ((segOpts a6).length : Int)) / 4 * 16) _ (by omega) (by omega)).mono ?_); rintro e w25 ⟨v25, rfl, ho, hb⟩; obtain ⟨A25, c25, e25⟩ := Kd.R_slice ho; subst e25; have hs5 := seg_kept hs4 hb; have N1 := Aside0.mk (Kd.R_below N1.out hb); have N2 := Aside0.mk (Kd.R_below N2.out hb); have N3 := Aside0.mk (Kd.R_below N3.out hb); have N4 := Aside0.mk (Kd.R_below N4.out hb); have N5 := Aside0.mk (Kd.R_lower ho HZ4.out.size); have HZ5 := Aside0.mk (below_then HZ4.out HZ4.out.size hb); have NO := Aside0.mk (Kd.R_below NO.out hb); clear ho hb) | (go_at_call 19; (with_reducible refine (seg_Put_num1 a4 _ (by omega) (by omega)).mono ?_); rintro e w26 ⟨v26, rfl, ho, hb⟩; obtain ⟨A26, c26, e26⟩ := Kd.R_slice ho; subst e26; have hs6 := seg_kept hs5 hb; have N1 := Aside0.mk (Kd.R_below N1.out hb); have N2 := Aside0.mk (Kd.R_below N2.out hb); have N3 := Aside0.mk (Kd.R_below N3.out hb); have N4 := Aside0.mk (Kd.R_below N4.out hb); have N5 := Aside0.mk (Kd.R_below N5.out hb); have N6 := Aside0.mk (Kd.R_lower ho HZ5.out.size); have HZ6 := Aside0.mk (below_then HZ5.out HZ5.out.size hb); have NO := Aside0.mk (Kd.R_below NO.out hb); clear ho hb) | (go_at_call 19; (with_reducible refine (seg_Put_num2 a5 _ (by omega) (by omega)).mono ?_); rintro e w27 ⟨v27, rfl, ho, hb⟩; obtain ⟨A27, c27, e27⟩ := Kd.R_slice ho; subst e27; have hs7 := seg_kept hs6 hb; have N1 := Aside0.mk (Kd.R_below N1.out hb); have N2 := Aside0.mk (Kd.R_below N2.out hb); have N3 := Aside0.mk (Kd.R_below N3.out hb); have N4 := Aside0.mk (Kd.R_below N4.out hb); have N5 := Aside0.mk (Kd.R_below N5.out hb); have N6 := Aside0.mk (Kd.R_below N6.out hb); have N7 := Aside0.mk (Kd.R_lower ho HZ6.out.size); have HZ7 := Aside0.mk (below_then HZ6.out HZ6.out.size hb); have NO := Aside0.mk (Kd.R_below NO.out hb); clear ho hb) | (go_at_call 19; (with_reducible refine (seg_Put_num4 0 _ (by omega) (by omega)).mono ?_); rintro e w28 ⟨v28, rfl, ho, hb⟩; obtain ⟨A28, c28, e28⟩ := Kd.R_slice ho; subst e28; have hs8 := seg_kept hs7 hb; have N1 := Aside0.mk (Kd.R_below N1.out hb); have N2 := Aside0.mk (Kd.R_below N2.out hb); have N3 := Aside0.mk (Kd.R_below N3.out hb); have N4 := Aside0.mk (Kd.R_below N4.out hb); have N5 := Aside0.mk (Kd.R_below N5.out hb); have N6 := Aside0.mk (Kd.R_below N6.out hb); have N7 := Aside0.mk (Kd.R_below N7.out hb); have N8 := Aside0.mk (Kd.R_lower ho HZ7.out.size); have HZ8 := Aside0.mk (below_then HZ7.out HZ7.out.size hb); have NO := Aside0.mk (Kd.R_below NO.out hb); clear ho hb) | (have hrows := RowsOf.read (RowsOf.own N1.out (RowsOf.own N2.out (RowsOf.own N3.out (RowsOf.own N4.out (RowsOf.own N5.out (RowsOf.own N6.out (RowsOf.own N7.out (RowsOf.own N8.out (RowsOf.own NO.out (RowsOf.cons A c rfl HC.out (Kd.C_below HR.out HZ8.out) .nil)))))))))) 5 23 (by simp); have HCC : Calls Try.prog 22 #[.slice (some ⟨w28.heap.size, 0, none⟩) 10 10] (w28.alloc (.cells #[Value.slice A21 (beN 2 a0).length c21, Value.slice A22 (beN 2 a1).length c22, Value.slice A23 (beN 4 a2).length c23, Value.slice A24 (beN 4 a3).length c24, Value.slice A25 (beN 1 ((20 + ((segOpts a6).length : Int)) / 4 * 16)).length c25, Value.slice A26 (beN 1 a4).length c26, Value.slice A27 (beN 2 a5).length c27, Value.slice A28 (beN 4 0).length c28, Value.slice A9 (segOpts a6).length c9, Value.slice A l.length c] 23)) (fun e w' => ∃ v0_ : Value, e = .returned (v0_) ∧ Kd.R (Kd.int .u8) 5 w' (w28.alloc (.cells #[Value.slice A21 (beN 2 a0).length c21, Value.slice A22 (beN 2 a1).length c22, Value.slice A23 (beN 4 a2).length c23, Value.slice A24 (beN 4 a3).length c24, Value.slice A25 (beN 1 ((20 + ((segOpts a6).length : Int)) / 4 * 16)).length c25, Value.slice A26 (beN 1 a4).length c26, Value.slice A27 (beN 2 a5).length c27, Value.slice A28 (beN 4 0).length c28, Value.slice A9 (segOpts a6).length c9, Value.slice A l.length c] 23)).heap.size (fun _ => True) v0_ (segRaw a0 a1 a2 a3 a4 a5 a6 l) ∧ Below (w28.alloc (.cells #[Value.slice A21 (beN 2 a0).length c21, Value.slice A22 (beN 2 a1).length c22, Value.slice A23 (beN 4 a2).length c23, Value.slice A24 (beN 4 a3).length c24, Value.slice A25 (beN 1 ((20 + ((segOpts a6).length : Int)) / 4 * 16)).length c25, Value.slice A26 (beN 1 a4).length c26, Value.slice A27 (beN 2 a5).length c27, Value.slice A28 (beN 4 0).length c28, Value.slice A9 (segOpts a6).length c9, Value.slice A l.length c] 23)).heap.size (w28.alloc (.cells #[Value.slice A21 (beN 2 a0).length c21, Value.slice A22 (beN 2 a1).length c22, Value.slice A23 (beN 4 a2).length c23, Value.slice A24 (beN 4 a3).length c24, Value.slice A25 (beN 1 ((20 + ((segOpts a6).length : Int)) / 4 * 16)).length c25, Value.slice A26 (beN 1 a4).length c26, Value.slice A27 (beN 2 a5).length c27, Value.slice A28 (beN 4 0).length c28, Value.slice A9 (segOpts a6).length c9, Value.slice A l.length c] 23)) w') := slices_Concat_byte_byte.calls (some ⟨w28.heap.size, 0, none⟩) 10 (segRows a0 a1 a2 a3 a4 a5 a6 l) (segRaw a0 a1 a2 a3 a4 a5 a6 l) _ hrows (Nat.le_refl 10) (by unfold slices_Concat_byte_byte.f; rw [if_pos]; rfl; show (segRaw a0 a1 a2 a3 a4 a5 a6 l).length < _; rw [segRaw_length]; have := HL.out; omega); go_at_call 22; (with_reducible refine HCC.mono ?_); rintro e w29 ⟨v29, rfl, ho, hb⟩; have hs9 := seg_kept (seg_kept hs8 ((Below.refl _ _).alloc (Nat.le_refl _) _)) hb; have HZ8a := HZ8.out.alloc (o := .cells #[Value.slice A21 (beN 2 a0).length c21, Value.slice A22 (beN 2 a1).length c22, Value.slice A23 (beN 4 a2).length c23, Value.slice A24 (beN 4 a3).length c24, Value.slice A25 (beN 1 ((20 + ((segOpts a6).length : Int)) / 4 * 16)).length c25, Value.slice A26 (beN 1 a4).length c26, Value.slice A27 (beN 2 a5).length c27, Value.slice A28 (beN 4 0).length c28, Value.slice A9 (segOpts a6).length c9, Value.slice A l.length c] 23) HZ8.out.size; have HO9 := Aside0.mk (Kd.R_lower ho HZ8a.size); have HZ9 := Aside0.mk (below_then HZ8a HZ8a.size hb); obtain ⟨A29, c29, e29⟩ := Kd.R_slice ho; subst e29; clear ho hb hrows HCC HZ8a))
      go_wp2
      go_meet
      exact ⟨HO9, HZ9⟩
    case rest =>
      obtain ⟨HO, HB⟩ := hcut
      have hb0 : Bytes (segRaw a0 a1 a2 a3 a4 a5 a6 l) := by
        intro x hx
        obtain ⟨y, hy, hxy⟩ := List.mem_flatten.1 hx
        simp only [segRows, List.mem_cons, List.not_mem_nil, or_false] at hy
        rcases hy with rfl | rfl | rfl | rfl | rfl | rfl | rfl | rfl | rfl | rfl
        all_goals first | exact beN_bytes _ _ x hxy | exact segOpts_bytes _ x hxy | exact HBy.out x hxy
      have hlo : 20 ≤ (segRaw a0 a1 a2 a3 a4 a5 a6 l).length := by rw [segRaw_length]; omega
      have hhi : (segRaw a0 a1 a2 a3 a4 a5 a6 l).length ≤ 60024 := by rw [segRaw_length]; have := HL.out; omega
      have HSB := Aside0.mk (show segBytes a0 a1 a2 a3 a4 a5 a6 l s d = laid (segRaw a0 a1 a2 a3 a4 a5 a6 l) 16 (beN 2 (csum (pseudo s d 6 (segRaw a0 a1 a2 a3 a4 a5 a6 l).length ++ segRaw a0 a1 a2 a3 a4 a5 a6 l))) from rfl)
      have HBr := Aside0.mk hb0
      clear hb0
      generalize segRaw a0 a1 a2 a3 a4 a5 a6 l = raw at *
      obtain ⟨g, cap, ev, hgb, hgl⟩ := Kd.R_form HO.out (by omega)
      subst ev
      have hcap := (Kd.R_reads' HO.out).2.1
      have hcap16 : ¬ (cap = 16) := by omega
      have h16 : (16 : Int) ≤ (raw.length : Int) := by omega
      have hck := csum_range (pseudo s d 6 raw.length ++ raw) ((pseudo_bytes _ _ _ _).append HBr.out)
      have HFC := Aside0.mk (seg_covered_f raw s d hS hD (by omega))
      have HFS := Aside0.mk (show sum_Sum.f (pseudo s d 6 raw.length ++ raw) = some (csum (pseudo s d 6 raw.length ++ raw)) from by unfold sum_Sum.f; rw [if_pos ⟨(pseudo_bytes _ _ _ _).append HBr.out, by rw [List.length_append, pseudo_length]; omega⟩])
      generalize pseudo s d 6 raw.length ++ raw = cov at *
      obtain ⟨ck, hckE⟩ : ∃ ck, csum cov = ck := ⟨_, rfl⟩
      rw [hckE] at hck HFS HSB
      obtain ⟨ck0, ck1⟩ := hck
      have hwk := u64_in ck ck0 (by omega)
      have HO1 := Aside0.mk (Kd.R_drew HO.out)
      have HB1 := Aside0.mk HB.out.drew
      clear hckE HO HB
      go_upto_region 10 with fail
      go_region_held3 (fun W => True) (exact trivial)
        (first | (go_at_call 24; (with_reducible refine (seg_covered.calls (some ⟨g, 0, none⟩) cap raw s d _ _ (Kd.R_reads' HO1.out).2.2 hcap HFC.out).mono ?_); rintro e w2 ⟨v2, rfl, ho, hb⟩; obtain ⟨A2, c2, e2⟩ := Kd.R_slice ho; subst e2; have HC2 := Aside0.mk ho; have HO2 := Aside0.mk (Kd.R_below HO1.out hb); have HB2 := Aside0.mk (below_then HB1.out HB1.out.size hb); clear ho hb) | (go_at_call 23; (with_reducible refine (sum_Sum.calls A2 c2 _ ck _ (Kd.R_reads' HC2.out).2.2 (Kd.R_reads' HC2.out).2.1 HFS.out).mono ?_); rintro e w3 ⟨rfl, hb⟩; have HO3 := Aside0.mk (Kd.R_below HO2.out hb); have HB3 := Aside0.mk (below_then HB2.out HB2.out.size hb); clear hb) | (go_at_call 19; (with_reducible refine (seg_Put_num2 ck _ ck0 (by omega)).mono ?_); rintro e w4 ⟨v4, rfl, ho, hb⟩; obtain ⟨A4, c4, e4⟩ := Kd.R_slice ho; subst e4; have HN := Aside0.mk ho; have HO4 := Aside0.mk (Kd.R_below HO3.out hb); have HB4 := Aside0.mk (below_then HB3.out HB3.out.size hb); clear ho hb) | (refine R_copy_step rfl (.tmp 87) (.tmp 95) 23 23 rfl 5 Try.underlying23 size8 _ _ _ _ _ _ rfl rfl (off := 16) HO4.out (Kd.R_reads' HN.out).2.2 (by rw [beN_length]; omega) (by rw [beN_length]; omega) (fun _ => rfl) w HB4.out ?_; intro w6 ho6 hb6; have HO6 := Aside0.mk ho6; have HB6 := Aside0.mk hb6; clear ho6 hb6))
      go_wp2
      go_ret2
      exact ⟨_, rfl, by rw [HSB.out]; exact HO6.out, HB6.out⟩

end Go.Proofs.Ytndkaffkdjaaoaa.H
namespace Go.Proofs.Ytndkaffkdjaaoaa.QSeg
open Go.RowKit Go.Proofs.Ytndkaffkdjaaoaa.H Go.Proofs.YtndkaffkdjaaoaaW.PrintWords Go.Proofs.YtndkaffkdjaaoaaW.PrintLast Go.Proofs.YtndkaffkdjaaoaaW.PrintMore
attribute [local go_sem] max2_int min2_int max_two min_two max_three min_three max_four min_four   -- for this text's walks alone
set_option linter.unusedVariables false
set_option linter.unusedSimpArgs false

/-! ### sum_Right: function 29 -/
def sum_Right.f (l0 : List Int) : Option (Bool) := (sum_Sum.f l0).bind fun t163 => (some (t163 == 0))
set_option maxHeartbeats 8000000 in
set_option maxRecDepth 100000 in
theorem sum_Right.calls (A0 : Option Addr) (c0 : Nat) (l0 : List Int) (r : Bool) (w : World) (hr0 : Kd.C (Kd.int .u8) w A0 l0.length l0) (hc0 : l0.length ≤ c0) (h : sum_Right.f l0 = some r) :
    Calls Try.prog 29 #[.slice A0 l0.length c0] w fun e w' => e = .returned (.bool r) ∧ Below w.heap.size w w' := by
  have HR0 := Aside0.mk hr0
  have HC0 := Aside0.mk hc0
  clear hr0 hc0
  have HB := Aside0.mk (Below.refl w.heap.size w)
  have H : ((sum_Sum.f l0).bind fun t163 => (some (t163 == 0))) = some r := h
  clear h
  replace H := Option.bind_eq_some_iff.mp H
  obtain ⟨t163, A20, H⟩ := H
  replace H : (some (t163 == 0)) = some r := H
  have A2 := Aside0.mk A20
  clear A20
  obtain rfl := Option.some.inj H
  go_enter Try.func29, Try.ntmps29
  go_wp2_with (first | ((with_reducible refine gate_callee (f := 23) rfl ?_); refine goesL_ (some 4) rfl rfl Try.func23 (by kernel_rfl) rfl #[.slice A0 l0.length c0] rfl (by (try simp only [List.map_toArray, List.map_cons, List.map_nil]); first | done | rfl | (simp only [List.length_drop, List.length_take]; rfl)) ?_; (with_reducible refine (sum_Sum.calls _ _ l0 t163 _ ?side1 ?side2 A2.out).mono ?_); (case side1 => repeat (first | exact HR0.out | (with_reducible refine Kd.C_alloc ?_ _) | (with_reducible refine Kd.C_drewN ?_ _) | (with_reducible refine Kd.C_drew ?_))); (case side2 => exact HC0.out); rintro e w3 ⟨rfl, hb⟩; refine ⟨_, rfl, ?_⟩; have n0_ := Aside0.mk (below_step (by repeat (first | (with_reducible first | exact HB.out | apply below_alloc | apply pw_below_drewN | apply below_drew1) | exact HB.out)) hb); clear HB; have HB := n0_; clear n0_; (try clear hb); (try clear hb2); (try clear hk); (try clear hi)))
  go_ret
  exact ⟨by first | rfl | (simp [errW_none, errW_some] <;> rfl) | (simp [*, errW_none, errW_some] <;> rfl), by repeat (first | (with_reducible first | exact HB.out | apply below_alloc | apply pw_below_drewN | apply below_drew1) | exact HB.out)⟩

end Go.Proofs.Ytndkaffkdjaaoaa.QSeg
