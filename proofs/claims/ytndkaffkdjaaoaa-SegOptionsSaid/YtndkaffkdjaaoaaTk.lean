/- The reference's seg Put: what it writes. -/
import Derived.Test.YtndkaffkdjaaoaaTj
namespace Go.Proofs.Ytndkaffkdjaaoaa.H
open Go.RowKit Go.Proofs.YtndkaffkdjaaoaaW.PrintWords Go.Proofs.YtndkaffkdjaaoaaW.PrintLast Go.Proofs.YtndkaffkdjaaoaaW.PrintMore Go.Proofs.Ytndkaffkdjaaoaa.QSeg
set_option linter.unusedVariables false
set_option linter.unusedSimpArgs false

def wordB (n : Int) : Bool := decide (0 ≤ n ∧ n ≤ 65535)
theorem wordB_yes {n : Int} (h0 : 0 ≤ n) (h1 : n < 65536) : wordB n = true := decide_eq_true ⟨h0, by omega⟩
theorem u8_w (x : Int) : IntKind.u8.wrap x = x % 256 := by simp [IntKind.wrap, IntKind.bits, IntKind.signed]
theorem ref_word (n : Int) (w : World) : Calls Try.prog 25 #[.int .i64 n] w fun e w' => e = .returned (.bool (wordB n)) ∧ w = w' := by
  by_cases h0 : 0 ≤ n
  · have hd := Aside0.mk (show wordB n = decide (n ≤ 65535) from by unfold wordB; simp [h0])
    go_enter Try.func25, Try.ntmps25
    go_wp2
    go_ret
    exact ⟨by rw [hd.out]; rfl, rfl⟩
  · have hd := Aside0.mk (show wordB n = false from decide_eq_false (fun h => h0 h.1))
    go_enter Try.func25, Try.ntmps25
    go_wp2
    go_ret
    exact ⟨by rw [hd.out]; rfl, rfl⟩
theorem ref_put_n (x : Int) (n : Nat) (w : World) (h0 : 0 ≤ x) (h1 : x < 18446744073709551616) (hn : n ≤ 8) : Calls Try.prog 26 #[.int .u64 x, .int .i64 n] w fun e w' => ∃ v0_ : Value, e = .returned (v0_) ∧ Kd.R (Kd.int .u8) 5 w' w.heap.size (fun _ => True) v0_ (beN n x) ∧ Below w.heap.size w w' :=
  drawbridgeref19_put.calls x n (beN n x) w (by unfold drawbridgeref19_put.f; rw [ref01_Put_f x n h0 h1 (by omega) (by omega)]; rfl)
theorem ref_put2 (x : Int) (w : World) (h0 : 0 ≤ x) (h1 : x < 18446744073709551616) : Calls Try.prog 26 #[.int .u64 x, .int .i64 2] w fun e w' => ∃ v0_ : Value, e = .returned (v0_) ∧ Kd.R (Kd.int .u8) 5 w' w.heap.size (fun _ => True) v0_ (beN 2 x) ∧ Below w.heap.size w w' := ref_put_n x 2 w h0 h1 (by decide)
theorem ref_put4 (x : Int) (w : World) (h0 : 0 ≤ x) (h1 : x < 18446744073709551616) : Calls Try.prog 26 #[.int .u64 x, .int .i64 4] w fun e w' => ∃ v0_ : Value, e = .returned (v0_) ∧ Kd.R (Kd.int .u8) 5 w' w.heap.size (fun _ => True) v0_ (beN 4 x) ∧ Below w.heap.size w w' := ref_put_n x 4 w h0 h1 (by decide)
theorem ref_pseudo (s d : Int) (n : Nat) (w : World) (hS : 0 ≤ s ∧ s < 4294967296) (hD : 0 ≤ d ∧ d < 4294967296) (hn : n ≤ 1000000) : Calls Try.prog 28 #[.int .u32 s, .int .u32 d, .int .i64 6, .int .i64 n] w fun e w' => ∃ v0_ : Value, e = .returned (v0_) ∧ Kd.R (Kd.int .u8) 5 w' w.heap.size (fun _ => True) v0_ (pseudo s d 6 n) ∧ Below w.heap.size w w' :=
  drawbridgeref15_Pseudo.calls s d 6 n _ w (ref15_Pseudo_f s d 6 n hS hD (by omega))

theorem ref_sum_ck (A0 : Option Addr) (c0 : Nat) (l0 : List Int) (ck : Int) (w : World) (hr0 : Kd.C (Kd.int .u8) w A0 l0.length l0) (hc0 : l0.length ≤ c0) (hb : Bytes l0) (hl : l0.length < 140737488355328) (h : csum l0 = ck) :
    Calls Try.prog 27 #[.slice A0 l0.length c0] w fun e w' => e = .returned (.int .i64 ck) ∧ w = w' := by
  subst h
  exact ref15_Sum_walk A0 c0 l0 w hr0 hc0 hb hl

theorem beN_two (ck : Int) (h0 : 0 ≤ ck) (h1 : ck < 65536) : beN 2 ck = [ck / 256, ck % 256] := by
  rw [beN_cons, beN_cons, beN_zero]
  simp
  omega
theorem laid_two (xs : List Int) (k : Nat) (a b : Int) (h : k + 1 < xs.length) : laid xs k [a, b] = (xs.set k a).set (k + 1) b := by
  unfold laid
  induction xs generalizing k with
  | nil => simp at h
  | cons x t ih =>
    cases k with
    | zero =>
      cases t with
      | nil => simp at h
      | cons y t => simp
    | succ k =>
      have := ih k (by simp at h; omega)
      simp only [List.length_cons, List.length_nil] at this
      simpa [Nat.add_right_comm k 1] using this

set_option maxHeartbeats 6400000 in
set_option maxRecDepth 100000 in
theorem ref19_Put_good (a0 a1 a2 a3 a4 a5 a6 : Int) (A : Option Addr) (c : Nat) (l : List Int) (s d : Int) (w : World) (hr : Kd.C (Kd.int .u8) w A l.length l) (hc : l.length ≤ c) (hs : sameB a0 a1 a4 a5 = true) (hm : 0 ≤ a6 ∧ a6 < 65536) (hl : l.length ≤ 60000)
    (hb : Bytes l) (h2 : 0 ≤ a2 ∧ a2 < 4294967296) (h3 : 0 ≤ a3 ∧ a3 < 4294967296) (hS : 0 ≤ s ∧ s < 4294967296) (hD : 0 ≤ d ∧ d < 4294967296) :
    Calls Try.prog 7 #[.agg #[.int .i64 a0, .int .i64 a1, .int .u32 a2, .int .u32 a3, .int .i64 a4, .int .i64 a5, .int .i64 a6, .slice A l.length c], .int .u32 s, .int .u32 d] w fun e w' => ∃ v0_ : Value, e = .returned (.tuple #[v0_, .int .i64 0]) ∧ Kd.R (Kd.int .u8) 5 w' w.heap.size (fun _ => True) v0_ (segBytes a0 a1 a2 a3 a4 a5 a6 l s d) ∧ Below w.heap.size w w' := by
  obtain ⟨k0, k1, k4, k5⟩ : (0 ≤ a0 ∧ a0 < 65536) ∧ (0 ≤ a1 ∧ a1 < 65536) ∧ (0 ≤ a4 ∧ a4 < 64) ∧ (0 ≤ a5 ∧ a5 < 65536) := by
    unfold sameB at hs
    exact of_decide_eq_true hs
  have e0 := wordB_yes k0.1 k0.2
  have e1 := wordB_yes k1.1 k1.2
  have e5 := wordB_yes k5.1 k5.2
  have e6 := wordB_yes hm.1 hm.2
  have d1 : decide (a4 < 0) = false := decide_eq_false (by omega)
  have d2 : decide ((63 : Int) < a4) = false := decide_eq_false (by omega)
  have d3 : decide ((60000 : Int) < (l.length : Int)) = false := decide_eq_false (by omega)
  have HBy := Aside0.mk hb
  have HR := Aside0.mk hr
  have HC := Aside0.mk hc
  have HL := Aside0.mk hl
  have HS := Aside0.mk hs
  clear hs hb hr hc hl
  obtain ⟨m0, m1⟩ := hm
  have HB := Aside0.mk (show Below w.heap.size w (w.alloc (.cells #[.int .i64 a0, .int .i64 a1, .int .u32 a2, .int .u32 a3, .int .i64 a4, .int .i64 a5, .int .i64 a6, .slice A l.length c] 25)) from (Below.refl _ _).alloc (Nat.le_refl _) _)
  have HGb := Aside0.mk (show (w.alloc (.cells #[.int .i64 a0, .int .i64 a1, .int .u32 a2, .int .u32 a3, .int .i64 a4, .int .i64 a5, .int .i64 a6, .slice A l.length c] 25)).heap[w.heap.size]? = some (.cells #[.int .i64 a0, .int .i64 a1, .int .u32 a2, .int .u32 a3, .int .i64 a4, .int .i64 a5, .int .i64 a6, .slice A l.length c] 25 (0, 0)) from heap_alloc_new w _)
  go_enter Try.func7, Try.ntmps7
  go_upto_if 51 with (go_at_call 25; (with_reducible refine (ref_word _ _).mono ?_); rintro e w1 ⟨rfl, rfl⟩)
  go_cut [8] (fun v8 wc => Aside0 (Kd.R (Kd.int .u8) 5 wc w.heap.size (fun _ => True) v8 (segOpts a6)) ∧ Aside0 (wc.heap[w.heap.size]? = some (.cells #[.int .i64 a0, .int .i64 a1, .int .u32 a2, .int .u32 a3, .int .i64 a4, .int .i64 a5, .int .i64 a6, .slice A l.length c] 25 (0, 0))) ∧ Aside0 (Below w.heap.size w wc))
  case first =>
    have hcb_0 := (blk_cell HGb.out 0).trans rfl
    have hcb_1 := (blk_cell HGb.out 1).trans rfl
    have hcb_2 := (blk_cell HGb.out 2).trans rfl
    have hcb_3 := (blk_cell HGb.out 3).trans rfl
    have hcb_4 := (blk_cell HGb.out 4).trans rfl
    have hcb_5 := (blk_cell HGb.out 5).trans rfl
    have hcb_6 := (blk_cell HGb.out 6).trans rfl
    have hcb_7 := (blk_cell HGb.out 7).trans rfl
    by_cases hp : 0 < a6
    · have d4 : (a6 != 0) = true := by rw [bne_iff_ne]; omega
      have hw6 := u64_in a6 m0 (by omega)
      go_wp2_with (first | ((with_reducible refine gate_dst (N := 52) rfl ?_); refine R_lit_W 5 ?hg (N := 52) ?hd (xs := ([2, 4] : List Int)) ?hr (by simp) ?_; (case hd => rfl); (case hg => rfl); (case hr => first | (go_simp; done) | (go_simp; rfl)); intro A1 c1 w1_ ho hb; have hN := Aside0.mk (Kd.R_lower ho HB.out.size); replace HGb := Aside0.mk (blk_below HGb.out hb); replace HB := Aside0.mk (below_then HB.out HB.out.size hb); replace hcb_0 := (blk_cell HGb.out 0).trans rfl; replace hcb_1 := (blk_cell HGb.out 1).trans rfl; replace hcb_2 := (blk_cell HGb.out 2).trans rfl; replace hcb_3 := (blk_cell HGb.out 3).trans rfl; replace hcb_4 := (blk_cell HGb.out 4).trans rfl; replace hcb_5 := (blk_cell HGb.out 5).trans rfl; replace hcb_6 := (blk_cell HGb.out 6).trans rfl; replace hcb_7 := (blk_cell HGb.out 7).trans rfl; have HR1 := hN; clear hN ho hb) | (go_at_call 26; (with_reducible refine (ref_put2 a6 _ (by omega) (by omega)).mono ?_); rintro e w2_ ⟨v_, rfl, ho, hb⟩; obtain ⟨A2, c2, ee⟩ := Kd.R_slice ho; subst ee; have HA2_1 := Aside0.mk (apart_new ho HR1.out); have hN := Aside0.mk (Kd.R_lower ho HB.out.size); replace HR1 := Aside0.mk (Kd.R_below HR1.out hb); replace HGb := Aside0.mk (blk_below HGb.out hb); replace HB := Aside0.mk (below_then HB.out HB.out.size hb); replace hcb_0 := (blk_cell HGb.out 0).trans rfl; replace hcb_1 := (blk_cell HGb.out 1).trans rfl; replace hcb_2 := (blk_cell HGb.out 2).trans rfl; replace hcb_3 := (blk_cell HGb.out 3).trans rfl; replace hcb_4 := (blk_cell HGb.out 4).trans rfl; replace hcb_5 := (blk_cell HGb.out 5).trans rfl; replace hcb_6 := (blk_cell HGb.out 6).trans rfl; replace hcb_7 := (blk_cell HGb.out 7).trans rfl; have HR2 := hN; clear hN ho hb) | ((with_reducible refine gate_builtin (b := .append) (xs := #[.tmp 52, .tmp 56]) rfl ?_); at_builtin; refine R_append_W rfl (.tmp 52) (.tmp 56) 23 5 rfl Try.underlying23 info8 (l := ([2, 4] : List Int)) (m := beN 2 a6) rfl rfl HR1.out (Kd.R_reads' HR2.out).2.2 HB.out (len_ok (Nat.le_refl 2) (Nat.le_of_eq (beN_length 2 a6)) (by decide)) ?_; intro A1_ c1_ L3_ w3_ HE3 ho hb hg hat; have HL3 := Aside0.mk (len_app HE3.out (Nat.le_refl 2) (Nat.le_of_eq (beN_length 2 a6))); have hA' := Aside0.mk (apart_after (apart_symm HA2_1.out) hat HR2.out); replace HR2 := Aside0.mk (R_off HR2.out hg (apart_symm HA2_1.out)); clear HA2_1; have HA1_2 := hA'; clear hA'; replace HGb := Aside0.mk (blk_grown HGb.out hg (Kd.R_ne HR1.out HGb.out (by decide))); replace HB := Aside0.mk hb; clear HR1; have HR1 := Aside0.mk ho; replace hcb_0 := (blk_cell HGb.out 0).trans rfl; replace hcb_1 := (blk_cell HGb.out 1).trans rfl; replace hcb_2 := (blk_cell HGb.out 2).trans rfl; replace hcb_3 := (blk_cell HGb.out 3).trans rfl; replace hcb_4 := (blk_cell HGb.out 4).trans rfl; replace hcb_5 := (blk_cell HGb.out 5).trans rfl; replace hcb_6 := (blk_cell HGb.out 6).trans rfl; replace hcb_7 := (blk_cell HGb.out 7).trans rfl; clear ho hb hg hat))
      go_meet
      exact ⟨⟨by unfold segOpts; rw [if_pos hp, ← HE3.out]; exact HR1.out⟩, HGb, HB⟩
    · have d4 : (a6 != 0) = false := by rw [bne_eq_false_iff_eq]; omega
      go_wp2
      go_meet
      exact ⟨⟨by unfold segOpts; rw [if_neg (by omega)]; exact Kd.R_nil _ _ _ _ _⟩, HGb, HB⟩
  case rest =>
    obtain ⟨HRo, HGb, HB⟩ := hcut
    obtain ⟨Ao, co, e9⟩ := Kd.R_slice HRo.out
    subst e9
    have hol := segOpts_length a6
    have hob : (segOpts a6).length ≤ 4 := by rw [hol]; split <;> omega
    have hw0 := u64_in a0 k0.1 (by omega)
    have hw1 := u64_in a1 k1.1 (by omega)
    have hw2 := u64_in a2 h2.1 (by omega)
    have hw3 := u64_in a3 h3.1 (by omega)
    have hw5 := u64_in a5 k5.1 (by omega)
    clear d1 d2 d3 e0 e1 e5 e6 hol
    go_upto_region 6 with fail
    have HLo := Aside0.mk hob
    replace HRo := Aside0.mk (Kd.R_drew HRo.out)
    replace HGb := Aside0.mk (blk_drew HGb.out)
    replace HB := Aside0.mk HB.out.drew
    have hKS : (wc.drew.cell? ⟨w.heap.size, 0, none⟩ = some (.int .i64 a0) ∧ wc.drew.cell? ⟨w.heap.size, 1, none⟩ = some (.int .i64 a1) ∧ wc.drew.cell? ⟨w.heap.size, 2, none⟩ = some (.int .u32 a2) ∧ wc.drew.cell? ⟨w.heap.size, 3, none⟩ = some (.int .u32 a3) ∧ wc.drew.cell? ⟨w.heap.size, 4, none⟩ = some (.int .i64 a4) ∧ wc.drew.cell? ⟨w.heap.size, 5, none⟩ = some (.int .i64 a5) ∧ wc.drew.cell? ⟨w.heap.size, 6, none⟩ = some (.int .i64 a6) ∧ wc.drew.cell? ⟨w.heap.size, 7, none⟩ = some (.slice A l.length c)) := ⟨(blk_cell HGb.out 0).trans rfl, (blk_cell HGb.out 1).trans rfl, (blk_cell HGb.out 2).trans rfl, (blk_cell HGb.out 3).trans rfl, (blk_cell HGb.out 4).trans rfl, (blk_cell HGb.out 5).trans rfl, (blk_cell HGb.out 6).trans rfl, (blk_cell HGb.out 7).trans rfl⟩
    go_region_held3 (fun W => W.cell? ⟨w.heap.size, 0, none⟩ = some (.int .i64 a0) ∧ W.cell? ⟨w.heap.size, 1, none⟩ = some (.int .i64 a1) ∧ W.cell? ⟨w.heap.size, 2, none⟩ = some (.int .u32 a2) ∧ W.cell? ⟨w.heap.size, 3, none⟩ = some (.int .u32 a3) ∧ W.cell? ⟨w.heap.size, 4, none⟩ = some (.int .i64 a4) ∧ W.cell? ⟨w.heap.size, 5, none⟩ = some (.int .i64 a5) ∧ W.cell? ⟨w.heap.size, 6, none⟩ = some (.int .i64 a6) ∧ W.cell? ⟨w.heap.size, 7, none⟩ = some (.slice A l.length c)) (first | with_reducible exact hKS | exact ⟨cell_al hKS.1, cell_al hKS.2.1, cell_al hKS.2.2.1, cell_al hKS.2.2.2.1, cell_al hKS.2.2.2.2.1, cell_al hKS.2.2.2.2.2.1, cell_al hKS.2.2.2.2.2.2.1, cell_al hKS.2.2.2.2.2.2.2⟩ | exact ⟨cell_ad hKS.1, cell_ad hKS.2.1, cell_ad hKS.2.2.1, cell_ad hKS.2.2.2.1, cell_ad hKS.2.2.2.2.1, cell_ad hKS.2.2.2.2.2.1, cell_ad hKS.2.2.2.2.2.2.1, cell_ad hKS.2.2.2.2.2.2.2⟩)
      (first | (go_at_call 26; (with_reducible refine (ref_put2 a0 _ (by omega) (by omega)).mono ?_); rintro e w1_ ⟨v_, rfl, ho, hb⟩; obtain ⟨Ar, cr, ee⟩ := Kd.R_slice ho; subst ee; have HAr_o := Aside0.mk (apart_new ho HRo.out); have hN := Aside0.mk (Kd.R_lower ho HB.out.size); replace HRo := Aside0.mk (Kd.R_below HRo.out hb); replace HGb := Aside0.mk (blk_below HGb.out hb); replace HB := Aside0.mk (below_then HB.out HB.out.size hb); replace hKS : (w1_.cell? ⟨w.heap.size, 0, none⟩ = some (.int .i64 a0) ∧ w1_.cell? ⟨w.heap.size, 1, none⟩ = some (.int .i64 a1) ∧ w1_.cell? ⟨w.heap.size, 2, none⟩ = some (.int .u32 a2) ∧ w1_.cell? ⟨w.heap.size, 3, none⟩ = some (.int .u32 a3) ∧ w1_.cell? ⟨w.heap.size, 4, none⟩ = some (.int .i64 a4) ∧ w1_.cell? ⟨w.heap.size, 5, none⟩ = some (.int .i64 a5) ∧ w1_.cell? ⟨w.heap.size, 6, none⟩ = some (.int .i64 a6) ∧ w1_.cell? ⟨w.heap.size, 7, none⟩ = some (.slice A l.length c)) := ⟨(blk_cell HGb.out 0).trans rfl, (blk_cell HGb.out 1).trans rfl, (blk_cell HGb.out 2).trans rfl, (blk_cell HGb.out 3).trans rfl, (blk_cell HGb.out 4).trans rfl, (blk_cell HGb.out 5).trans rfl, (blk_cell HGb.out 6).trans rfl, (blk_cell HGb.out 7).trans rfl⟩; have HRr := hN; clear hN ho hb) | (go_at_call 26; (with_reducible refine (ref_put2 a1 _ (by omega) (by omega)).mono ?_); rintro e w2_ ⟨v_, rfl, ho, hb⟩; obtain ⟨Ap, cp, ee⟩ := Kd.R_slice ho; subst ee; have HAp_r := Aside0.mk (apart_new ho HRr.out); have hN := Aside0.mk (Kd.R_lower ho HB.out.size); replace HRo := Aside0.mk (Kd.R_below HRo.out hb); replace HRr := Aside0.mk (Kd.R_below HRr.out hb); replace HGb := Aside0.mk (blk_below HGb.out hb); replace HB := Aside0.mk (below_then HB.out HB.out.size hb); replace hKS : (w2_.cell? ⟨w.heap.size, 0, none⟩ = some (.int .i64 a0) ∧ w2_.cell? ⟨w.heap.size, 1, none⟩ = some (.int .i64 a1) ∧ w2_.cell? ⟨w.heap.size, 2, none⟩ = some (.int .u32 a2) ∧ w2_.cell? ⟨w.heap.size, 3, none⟩ = some (.int .u32 a3) ∧ w2_.cell? ⟨w.heap.size, 4, none⟩ = some (.int .i64 a4) ∧ w2_.cell? ⟨w.heap.size, 5, none⟩ = some (.int .i64 a5) ∧ w2_.cell? ⟨w.heap.size, 6, none⟩ = some (.int .i64 a6) ∧ w2_.cell? ⟨w.heap.size, 7, none⟩ = some (.slice A l.length c)) := ⟨(blk_cell HGb.out 0).trans rfl, (blk_cell HGb.out 1).trans rfl, (blk_cell HGb.out 2).trans rfl, (blk_cell HGb.out 3).trans rfl, (blk_cell HGb.out 4).trans rfl, (blk_cell HGb.out 5).trans rfl, (blk_cell HGb.out 6).trans rfl, (blk_cell HGb.out 7).trans rfl⟩; have HRp := hN; clear hN ho hb) | ((with_reducible refine gateE (N := 66) rfl ?_); refine R_append_E rfl (.tmp 61) (.tmp 65) 23 5 rfl Try.underlying23 info8 (l := beN 2 a0) (m := beN 2 a1) rfl rfl HRr.out (Kd.R_reads' HRp.out).2.2 HB.out (len_ok (Nat.le_of_eq (beN_length 2 a0)) (Nat.le_of_eq (beN_length 2 a1)) (by decide)) ?_; intro Ar_ cr_ L3_ w3_ HE3 ho hb hg hat; have HL3 := Aside0.mk (len_app HE3.out (Nat.le_of_eq (beN_length 2 a0)) (Nat.le_of_eq (beN_length 2 a1))); have hA' := Aside0.mk (apart_after HAr_o.out hat HRo.out); replace HRo := Aside0.mk (R_off HRo.out hg HAr_o.out); clear HAr_o; have HAr_o := hA'; clear hA'; have hA' := Aside0.mk (apart_after (apart_symm HAp_r.out) hat HRp.out); replace HRp := Aside0.mk (R_off HRp.out hg (apart_symm HAp_r.out)); clear HAp_r; have HAr_p := hA'; clear hA'; replace HGb := Aside0.mk (blk_grown HGb.out hg (Kd.R_ne HRr.out HGb.out (by decide))); replace HB := Aside0.mk hb; clear HRr; have HRr := Aside0.mk ho; clear HRp; replace hKS : (w3_.cell? ⟨w.heap.size, 0, none⟩ = some (.int .i64 a0) ∧ w3_.cell? ⟨w.heap.size, 1, none⟩ = some (.int .i64 a1) ∧ w3_.cell? ⟨w.heap.size, 2, none⟩ = some (.int .u32 a2) ∧ w3_.cell? ⟨w.heap.size, 3, none⟩ = some (.int .u32 a3) ∧ w3_.cell? ⟨w.heap.size, 4, none⟩ = some (.int .i64 a4) ∧ w3_.cell? ⟨w.heap.size, 5, none⟩ = some (.int .i64 a5) ∧ w3_.cell? ⟨w.heap.size, 6, none⟩ = some (.int .i64 a6) ∧ w3_.cell? ⟨w.heap.size, 7, none⟩ = some (.slice A l.length c)) := ⟨(blk_cell HGb.out 0).trans rfl, (blk_cell HGb.out 1).trans rfl, (blk_cell HGb.out 2).trans rfl, (blk_cell HGb.out 3).trans rfl, (blk_cell HGb.out 4).trans rfl, (blk_cell HGb.out 5).trans rfl, (blk_cell HGb.out 6).trans rfl, (blk_cell HGb.out 7).trans rfl⟩; clear ho hb hg hat) | (go_at_call 26; (with_reducible refine (ref_put4 a2 _ (by omega) (by omega)).mono ?_); rintro e w4_ ⟨v_, rfl, ho, hb⟩; obtain ⟨Aq, cq, ee⟩ := Kd.R_slice ho; subst ee; have HAq_r := Aside0.mk (apart_new ho HRr.out); have hN := Aside0.mk (Kd.R_lower ho HB.out.size); replace HRo := Aside0.mk (Kd.R_below HRo.out hb); replace HRr := Aside0.mk (Kd.R_below HRr.out hb); replace HGb := Aside0.mk (blk_below HGb.out hb); replace HB := Aside0.mk (below_then HB.out HB.out.size hb); replace hKS : (w4_.cell? ⟨w.heap.size, 0, none⟩ = some (.int .i64 a0) ∧ w4_.cell? ⟨w.heap.size, 1, none⟩ = some (.int .i64 a1) ∧ w4_.cell? ⟨w.heap.size, 2, none⟩ = some (.int .u32 a2) ∧ w4_.cell? ⟨w.heap.size, 3, none⟩ = some (.int .u32 a3) ∧ w4_.cell? ⟨w.heap.size, 4, none⟩ = some (.int .i64 a4) ∧ w4_.cell? ⟨w.heap.size, 5, none⟩ = some (.int .i64 a5) ∧ w4_.cell? ⟨w.heap.size, 6, none⟩ = some (.int .i64 a6) ∧ w4_.cell? ⟨w.heap.size, 7, none⟩ = some (.slice A l.length c)) := ⟨(blk_cell HGb.out 0).trans rfl, (blk_cell HGb.out 1).trans rfl, (blk_cell HGb.out 2).trans rfl, (blk_cell HGb.out 3).trans rfl, (blk_cell HGb.out 4).trans rfl, (blk_cell HGb.out 5).trans rfl, (blk_cell HGb.out 6).trans rfl, (blk_cell HGb.out 7).trans rfl⟩; have HRq := hN; clear hN ho hb) | ((with_reducible refine gateE (N := 71) rfl ?_); refine R_append_E rfl (.tmp 66) (.tmp 70) 23 5 rfl Try.underlying23 info8 (l := L3_) (m := beN 4 a2) rfl rfl HRr.out (Kd.R_reads' HRq.out).2.2 HB.out (len_ok HL3.out (Nat.le_of_eq (beN_length 4 a2)) (by decide)) ?_; intro Ar_ cr_ L5_ w5_ HE5 ho hb hg hat; have HL5 := Aside0.mk (len_app HE5.out HL3.out (Nat.le_of_eq (beN_length 4 a2))); have hA' := Aside0.mk (apart_after HAr_o.out hat HRo.out); replace HRo := Aside0.mk (R_off HRo.out hg HAr_o.out); clear HAr_o; have HAr_o := hA'; clear hA'; have hA' := Aside0.mk (apart_after (apart_symm HAq_r.out) hat HRq.out); replace HRq := Aside0.mk (R_off HRq.out hg (apart_symm HAq_r.out)); clear HAq_r; have HAr_q := hA'; clear hA'; replace HGb := Aside0.mk (blk_grown HGb.out hg (Kd.R_ne HRr.out HGb.out (by decide))); replace HB := Aside0.mk hb; clear HRr; have HRr := Aside0.mk ho; clear HRq; replace hKS : (w5_.cell? ⟨w.heap.size, 0, none⟩ = some (.int .i64 a0) ∧ w5_.cell? ⟨w.heap.size, 1, none⟩ = some (.int .i64 a1) ∧ w5_.cell? ⟨w.heap.size, 2, none⟩ = some (.int .u32 a2) ∧ w5_.cell? ⟨w.heap.size, 3, none⟩ = some (.int .u32 a3) ∧ w5_.cell? ⟨w.heap.size, 4, none⟩ = some (.int .i64 a4) ∧ w5_.cell? ⟨w.heap.size, 5, none⟩ = some (.int .i64 a5) ∧ w5_.cell? ⟨w.heap.size, 6, none⟩ = some (.int .i64 a6) ∧ w5_.cell? ⟨w.heap.size, 7, none⟩ = some (.slice A l.length c)) := ⟨(blk_cell HGb.out 0).trans rfl, (blk_cell HGb.out 1).trans rfl, (blk_cell HGb.out 2).trans rfl, (blk_cell HGb.out 3).trans rfl, (blk_cell HGb.out 4).trans rfl, (blk_cell HGb.out 5).trans rfl, (blk_cell HGb.out 6).trans rfl, (blk_cell HGb.out 7).trans rfl⟩; clear ho hb hg hat) | (go_at_call 26; (with_reducible refine (ref_put4 a3 _ (by omega) (by omega)).mono ?_); rintro e w6_ ⟨v_, rfl, ho, hb⟩; obtain ⟨Az, cz, ee⟩ := Kd.R_slice ho; subst ee; have HAz_r := Aside0.mk (apart_new ho HRr.out); have hN := Aside0.mk (Kd.R_lower ho HB.out.size); replace HRo := Aside0.mk (Kd.R_below HRo.out hb); replace HRr := Aside0.mk (Kd.R_below HRr.out hb); replace HGb := Aside0.mk (blk_below HGb.out hb); replace HB := Aside0.mk (below_then HB.out HB.out.size hb); replace hKS : (w6_.cell? ⟨w.heap.size, 0, none⟩ = some (.int .i64 a0) ∧ w6_.cell? ⟨w.heap.size, 1, none⟩ = some (.int .i64 a1) ∧ w6_.cell? ⟨w.heap.size, 2, none⟩ = some (.int .u32 a2) ∧ w6_.cell? ⟨w.heap.size, 3, none⟩ = some (.int .u32 a3) ∧ w6_.cell? ⟨w.heap.size, 4, none⟩ = some (.int .i64 a4) ∧ w6_.cell? ⟨w.heap.size, 5, none⟩ = some (.int .i64 a5) ∧ w6_.cell? ⟨w.heap.size, 6, none⟩ = some (.int .i64 a6) ∧ w6_.cell? ⟨w.heap.size, 7, none⟩ = some (.slice A l.length c)) := ⟨(blk_cell HGb.out 0).trans rfl, (blk_cell HGb.out 1).trans rfl, (blk_cell HGb.out 2).trans rfl, (blk_cell HGb.out 3).trans rfl, (blk_cell HGb.out 4).trans rfl, (blk_cell HGb.out 5).trans rfl, (blk_cell HGb.out 6).trans rfl, (blk_cell HGb.out 7).trans rfl⟩; have HRz := hN; clear hN ho hb) | ((with_reducible refine gateE (N := 76) rfl ?_); refine R_append_E rfl (.tmp 71) (.tmp 75) 23 5 rfl Try.underlying23 info8 (l := L5_) (m := beN 4 a3) rfl rfl HRr.out (Kd.R_reads' HRz.out).2.2 HB.out (len_ok HL5.out (Nat.le_of_eq (beN_length 4 a3)) (by decide)) ?_; intro Ar_ cr_ L7_ w7_ HE7 ho hb hg hat; have HL7 := Aside0.mk (len_app HE7.out HL5.out (Nat.le_of_eq (beN_length 4 a3))); have hA' := Aside0.mk (apart_after HAr_o.out hat HRo.out); replace HRo := Aside0.mk (R_off HRo.out hg HAr_o.out); clear HAr_o; have HAr_o := hA'; clear hA'; have hA' := Aside0.mk (apart_after (apart_symm HAz_r.out) hat HRz.out); replace HRz := Aside0.mk (R_off HRz.out hg (apart_symm HAz_r.out)); clear HAz_r; have HAr_z := hA'; clear hA'; replace HGb := Aside0.mk (blk_grown HGb.out hg (Kd.R_ne HRr.out HGb.out (by decide))); replace HB := Aside0.mk hb; clear HRr; have HRr := Aside0.mk ho; clear HRz; replace hKS : (w7_.cell? ⟨w.heap.size, 0, none⟩ = some (.int .i64 a0) ∧ w7_.cell? ⟨w.heap.size, 1, none⟩ = some (.int .i64 a1) ∧ w7_.cell? ⟨w.heap.size, 2, none⟩ = some (.int .u32 a2) ∧ w7_.cell? ⟨w.heap.size, 3, none⟩ = some (.int .u32 a3) ∧ w7_.cell? ⟨w.heap.size, 4, none⟩ = some (.int .i64 a4) ∧ w7_.cell? ⟨w.heap.size, 5, none⟩ = some (.int .i64 a5) ∧ w7_.cell? ⟨w.heap.size, 6, none⟩ = some (.int .i64 a6) ∧ w7_.cell? ⟨w.heap.size, 7, none⟩ = some (.slice A l.length c)) := ⟨(blk_cell HGb.out 0).trans rfl, (blk_cell HGb.out 1).trans rfl, (blk_cell HGb.out 2).trans rfl, (blk_cell HGb.out 3).trans rfl, (blk_cell HGb.out 4).trans rfl, (blk_cell HGb.out 5).trans rfl, (blk_cell HGb.out 6).trans rfl, (blk_cell HGb.out 7).trans rfl⟩; clear ho hb hg hat))
    go_upto_region 7 with fail
    replace HRo := Aside0.mk (Kd.R_drew HRo.out)
    replace HRr := Aside0.mk (Kd.R_drew HRr.out)
    replace HGb := Aside0.mk (blk_drew HGb.out)
    replace HB := Aside0.mk HB.out.drew
    have hKS : (w7_.drew.cell? ⟨w.heap.size, 0, none⟩ = some (.int .i64 a0) ∧ w7_.drew.cell? ⟨w.heap.size, 1, none⟩ = some (.int .i64 a1) ∧ w7_.drew.cell? ⟨w.heap.size, 2, none⟩ = some (.int .u32 a2) ∧ w7_.drew.cell? ⟨w.heap.size, 3, none⟩ = some (.int .u32 a3) ∧ w7_.drew.cell? ⟨w.heap.size, 4, none⟩ = some (.int .i64 a4) ∧ w7_.drew.cell? ⟨w.heap.size, 5, none⟩ = some (.int .i64 a5) ∧ w7_.drew.cell? ⟨w.heap.size, 6, none⟩ = some (.int .i64 a6) ∧ w7_.drew.cell? ⟨w.heap.size, 7, none⟩ = some (.slice A l.length c)) := ⟨(blk_cell HGb.out 0).trans rfl, (blk_cell HGb.out 1).trans rfl, (blk_cell HGb.out 2).trans rfl, (blk_cell HGb.out 3).trans rfl, (blk_cell HGb.out 4).trans rfl, (blk_cell HGb.out 5).trans rfl, (blk_cell HGb.out 6).trans rfl, (blk_cell HGb.out 7).trans rfl⟩
    have hx1 : IntKind.i64.wrap (4 * ((segOpts a6).length : Int)) = 4 * ((segOpts a6).length : Int) := IntWalk.i64_in _ (by omega)
    have hx2 : IntKind.i64.wrap (80 + 4 * ((segOpts a6).length : Int)) = 80 + 4 * ((segOpts a6).length : Int) := IntWalk.i64_in _ (by omega)
    have hx3 : IntKind.u8.wrap (80 + 4 * ((segOpts a6).length : Int)) = 80 + 4 * ((segOpts a6).length : Int) := by rw [u8_w]; omega
    have hx4 : IntKind.u8.wrap a4 = a4 := by rw [u8_w]; omega
    go_region_held3 (fun W => W.cell? ⟨w.heap.size, 0, none⟩ = some (.int .i64 a0) ∧ W.cell? ⟨w.heap.size, 1, none⟩ = some (.int .i64 a1) ∧ W.cell? ⟨w.heap.size, 2, none⟩ = some (.int .u32 a2) ∧ W.cell? ⟨w.heap.size, 3, none⟩ = some (.int .u32 a3) ∧ W.cell? ⟨w.heap.size, 4, none⟩ = some (.int .i64 a4) ∧ W.cell? ⟨w.heap.size, 5, none⟩ = some (.int .i64 a5) ∧ W.cell? ⟨w.heap.size, 6, none⟩ = some (.int .i64 a6) ∧ W.cell? ⟨w.heap.size, 7, none⟩ = some (.slice A l.length c)) (first | with_reducible exact hKS | exact ⟨cell_al hKS.1, cell_al hKS.2.1, cell_al hKS.2.2.1, cell_al hKS.2.2.2.1, cell_al hKS.2.2.2.2.1, cell_al hKS.2.2.2.2.2.1, cell_al hKS.2.2.2.2.2.2.1, cell_al hKS.2.2.2.2.2.2.2⟩ | exact ⟨cell_ad hKS.1, cell_ad hKS.2.1, cell_ad hKS.2.2.1, cell_ad hKS.2.2.2.1, cell_ad hKS.2.2.2.2.1, cell_ad hKS.2.2.2.2.2.1, cell_ad hKS.2.2.2.2.2.2.1, cell_ad hKS.2.2.2.2.2.2.2⟩)
      (first | ((with_reducible refine gateE (N := 87) rfl ?_); have ho : Kd.R (Kd.int .u8) 5 (w7_.alloc (.cells #[.int .u8 (80 + 4 * ((segOpts a6).length : Int)), .int .u8 (a4)] 5)).drew w7_.drew.heap.size (fun _ => True) (.slice (some ⟨w7_.drew.heap.size, 0, none⟩) ([80 + 4 * ((segOpts a6).length : Int), a4] : List Int).length ([80 + 4 * ((segOpts a6).length : Int), a4] : List Int).length) ([80 + 4 * ((segOpts a6).length : Int), a4] : List Int) := R_lit_new w7_.drew 5 ([80 + 4 * ((segOpts a6).length : Int), a4] : List Int) (by simp); have hb : Below w7_.drew.heap.size w7_.drew (w7_.alloc (.cells #[.int .u8 (80 + 4 * ((segOpts a6).length : Int)), .int .u8 (a4)] 5)).drew := below_new w7_.drew (.cells #[.int .u8 (80 + 4 * ((segOpts a6).length : Int)), .int .u8 (a4)] 5); have HAp_r := Aside0.mk (apart_new ho HRr.out); have hN := Aside0.mk (Kd.R_lower ho HB.out.size); replace HRo := Aside0.mk (Kd.R_below HRo.out hb); replace HRr := Aside0.mk (Kd.R_below HRr.out hb); replace HGb := Aside0.mk (blk_below HGb.out hb); replace HB := Aside0.mk (below_then HB.out HB.out.size hb); replace hKS : ((w7_.alloc (.cells #[.int .u8 (80 + 4 * ((segOpts a6).length : Int)), .int .u8 (a4)] 5)).drew.cell? ⟨w.heap.size, 0, none⟩ = some (.int .i64 a0) ∧ (w7_.alloc (.cells #[.int .u8 (80 + 4 * ((segOpts a6).length : Int)), .int .u8 (a4)] 5)).drew.cell? ⟨w.heap.size, 1, none⟩ = some (.int .i64 a1) ∧ (w7_.alloc (.cells #[.int .u8 (80 + 4 * ((segOpts a6).length : Int)), .int .u8 (a4)] 5)).drew.cell? ⟨w.heap.size, 2, none⟩ = some (.int .u32 a2) ∧ (w7_.alloc (.cells #[.int .u8 (80 + 4 * ((segOpts a6).length : Int)), .int .u8 (a4)] 5)).drew.cell? ⟨w.heap.size, 3, none⟩ = some (.int .u32 a3) ∧ (w7_.alloc (.cells #[.int .u8 (80 + 4 * ((segOpts a6).length : Int)), .int .u8 (a4)] 5)).drew.cell? ⟨w.heap.size, 4, none⟩ = some (.int .i64 a4) ∧ (w7_.alloc (.cells #[.int .u8 (80 + 4 * ((segOpts a6).length : Int)), .int .u8 (a4)] 5)).drew.cell? ⟨w.heap.size, 5, none⟩ = some (.int .i64 a5) ∧ (w7_.alloc (.cells #[.int .u8 (80 + 4 * ((segOpts a6).length : Int)), .int .u8 (a4)] 5)).drew.cell? ⟨w.heap.size, 6, none⟩ = some (.int .i64 a6) ∧ (w7_.alloc (.cells #[.int .u8 (80 + 4 * ((segOpts a6).length : Int)), .int .u8 (a4)] 5)).drew.cell? ⟨w.heap.size, 7, none⟩ = some (.slice A l.length c)) := ⟨(blk_cell HGb.out 0).trans rfl, (blk_cell HGb.out 1).trans rfl, (blk_cell HGb.out 2).trans rfl, (blk_cell HGb.out 3).trans rfl, (blk_cell HGb.out 4).trans rfl, (blk_cell HGb.out 5).trans rfl, (blk_cell HGb.out 6).trans rfl, (blk_cell HGb.out 7).trans rfl⟩; have HRp := hN; clear hN ho hb; refine R_append_E rfl (.tmp 77) (.tmp 86) 23 5 rfl Try.underlying23 info8 (l := L7_) (m := ([80 + 4 * ((segOpts a6).length : Int), a4] : List Int)) rfl rfl HRr.out (Kd.R_reads' HRp.out).2.2 HB.out (len_ok HL7.out (Nat.le_refl 2) (by decide)) ?_; intro Ar_ cr_ L8_ w8_ HE8 ho hb hg hat; have HL8 := Aside0.mk (len_app HE8.out HL7.out (Nat.le_refl 2)); have hA' := Aside0.mk (apart_after HAr_o.out hat HRo.out); replace HRo := Aside0.mk (R_off HRo.out hg HAr_o.out); clear HAr_o; have HAr_o := hA'; clear hA'; have hA' := Aside0.mk (apart_after (apart_symm HAp_r.out) hat HRp.out); replace HRp := Aside0.mk (R_off HRp.out hg (apart_symm HAp_r.out)); clear HAp_r; have HAr_p := hA'; clear hA'; replace HGb := Aside0.mk (blk_grown HGb.out hg (Kd.R_ne HRr.out HGb.out (by decide))); replace HB := Aside0.mk hb; clear HRr; have HRr := Aside0.mk ho; clear HRp; replace hKS : (w8_.cell? ⟨w.heap.size, 0, none⟩ = some (.int .i64 a0) ∧ w8_.cell? ⟨w.heap.size, 1, none⟩ = some (.int .i64 a1) ∧ w8_.cell? ⟨w.heap.size, 2, none⟩ = some (.int .u32 a2) ∧ w8_.cell? ⟨w.heap.size, 3, none⟩ = some (.int .u32 a3) ∧ w8_.cell? ⟨w.heap.size, 4, none⟩ = some (.int .i64 a4) ∧ w8_.cell? ⟨w.heap.size, 5, none⟩ = some (.int .i64 a5) ∧ w8_.cell? ⟨w.heap.size, 6, none⟩ = some (.int .i64 a6) ∧ w8_.cell? ⟨w.heap.size, 7, none⟩ = some (.slice A l.length c)) := ⟨(blk_cell HGb.out 0).trans rfl, (blk_cell HGb.out 1).trans rfl, (blk_cell HGb.out 2).trans rfl, (blk_cell HGb.out 3).trans rfl, (blk_cell HGb.out 4).trans rfl, (blk_cell HGb.out 5).trans rfl, (blk_cell HGb.out 6).trans rfl, (blk_cell HGb.out 7).trans rfl⟩; clear ho hb hg hat) | (go_at_call 26; (with_reducible refine (ref_put2 a5 _ (by omega) (by omega)).mono ?_); rintro e w9_ ⟨v_, rfl, ho, hb⟩; obtain ⟨Aq, cq, ee⟩ := Kd.R_slice ho; subst ee; have HAq_r := Aside0.mk (apart_new ho HRr.out); have hN := Aside0.mk (Kd.R_lower ho HB.out.size); replace HRo := Aside0.mk (Kd.R_below HRo.out hb); replace HRr := Aside0.mk (Kd.R_below HRr.out hb); replace HGb := Aside0.mk (blk_below HGb.out hb); replace HB := Aside0.mk (below_then HB.out HB.out.size hb); replace hKS : (w9_.cell? ⟨w.heap.size, 0, none⟩ = some (.int .i64 a0) ∧ w9_.cell? ⟨w.heap.size, 1, none⟩ = some (.int .i64 a1) ∧ w9_.cell? ⟨w.heap.size, 2, none⟩ = some (.int .u32 a2) ∧ w9_.cell? ⟨w.heap.size, 3, none⟩ = some (.int .u32 a3) ∧ w9_.cell? ⟨w.heap.size, 4, none⟩ = some (.int .i64 a4) ∧ w9_.cell? ⟨w.heap.size, 5, none⟩ = some (.int .i64 a5) ∧ w9_.cell? ⟨w.heap.size, 6, none⟩ = some (.int .i64 a6) ∧ w9_.cell? ⟨w.heap.size, 7, none⟩ = some (.slice A l.length c)) := ⟨(blk_cell HGb.out 0).trans rfl, (blk_cell HGb.out 1).trans rfl, (blk_cell HGb.out 2).trans rfl, (blk_cell HGb.out 3).trans rfl, (blk_cell HGb.out 4).trans rfl, (blk_cell HGb.out 5).trans rfl, (blk_cell HGb.out 6).trans rfl, (blk_cell HGb.out 7).trans rfl⟩; have HRq := hN; clear hN ho hb) | ((with_reducible refine gateE (N := 92) rfl ?_); refine R_append_E rfl (.tmp 87) (.tmp 91) 23 5 rfl Try.underlying23 info8 (l := L8_) (m := beN 2 a5) rfl rfl HRr.out (Kd.R_reads' HRq.out).2.2 HB.out (len_ok HL8.out (Nat.le_of_eq (beN_length 2 a5)) (by decide)) ?_; intro Ar_ cr_ L10_ w10_ HE10 ho hb hg hat; have HL10 := Aside0.mk (len_app HE10.out HL8.out (Nat.le_of_eq (beN_length 2 a5))); have hA' := Aside0.mk (apart_after HAr_o.out hat HRo.out); replace HRo := Aside0.mk (R_off HRo.out hg HAr_o.out); clear HAr_o; have HAr_o := hA'; clear hA'; have hA' := Aside0.mk (apart_after (apart_symm HAq_r.out) hat HRq.out); replace HRq := Aside0.mk (R_off HRq.out hg (apart_symm HAq_r.out)); clear HAq_r; have HAr_q := hA'; clear hA'; replace HGb := Aside0.mk (blk_grown HGb.out hg (Kd.R_ne HRr.out HGb.out (by decide))); replace HB := Aside0.mk hb; clear HRr; have HRr := Aside0.mk ho; clear HRq; replace hKS : (w10_.cell? ⟨w.heap.size, 0, none⟩ = some (.int .i64 a0) ∧ w10_.cell? ⟨w.heap.size, 1, none⟩ = some (.int .i64 a1) ∧ w10_.cell? ⟨w.heap.size, 2, none⟩ = some (.int .u32 a2) ∧ w10_.cell? ⟨w.heap.size, 3, none⟩ = some (.int .u32 a3) ∧ w10_.cell? ⟨w.heap.size, 4, none⟩ = some (.int .i64 a4) ∧ w10_.cell? ⟨w.heap.size, 5, none⟩ = some (.int .i64 a5) ∧ w10_.cell? ⟨w.heap.size, 6, none⟩ = some (.int .i64 a6) ∧ w10_.cell? ⟨w.heap.size, 7, none⟩ = some (.slice A l.length c)) := ⟨(blk_cell HGb.out 0).trans rfl, (blk_cell HGb.out 1).trans rfl, (blk_cell HGb.out 2).trans rfl, (blk_cell HGb.out 3).trans rfl, (blk_cell HGb.out 4).trans rfl, (blk_cell HGb.out 5).trans rfl, (blk_cell HGb.out 6).trans rfl, (blk_cell HGb.out 7).trans rfl⟩; clear ho hb hg hat))
    go_upto_region 8 with fail
    clear hx1 hx2 hx3 hx4
    replace HRo := Aside0.mk (Kd.R_drew HRo.out)
    replace HRr := Aside0.mk (Kd.R_drew HRr.out)
    replace HGb := Aside0.mk (blk_drew HGb.out)
    replace HB := Aside0.mk HB.out.drew
    have hKS : (w10_.drew.cell? ⟨w.heap.size, 0, none⟩ = some (.int .i64 a0) ∧ w10_.drew.cell? ⟨w.heap.size, 1, none⟩ = some (.int .i64 a1) ∧ w10_.drew.cell? ⟨w.heap.size, 2, none⟩ = some (.int .u32 a2) ∧ w10_.drew.cell? ⟨w.heap.size, 3, none⟩ = some (.int .u32 a3) ∧ w10_.drew.cell? ⟨w.heap.size, 4, none⟩ = some (.int .i64 a4) ∧ w10_.drew.cell? ⟨w.heap.size, 5, none⟩ = some (.int .i64 a5) ∧ w10_.drew.cell? ⟨w.heap.size, 6, none⟩ = some (.int .i64 a6) ∧ w10_.drew.cell? ⟨w.heap.size, 7, none⟩ = some (.slice A l.length c)) := ⟨(blk_cell HGb.out 0).trans rfl, (blk_cell HGb.out 1).trans rfl, (blk_cell HGb.out 2).trans rfl, (blk_cell HGb.out 3).trans rfl, (blk_cell HGb.out 4).trans rfl, (blk_cell HGb.out 5).trans rfl, (blk_cell HGb.out 6).trans rfl, (blk_cell HGb.out 7).trans rfl⟩
    go_region_held3 (fun W => W.cell? ⟨w.heap.size, 0, none⟩ = some (.int .i64 a0) ∧ W.cell? ⟨w.heap.size, 1, none⟩ = some (.int .i64 a1) ∧ W.cell? ⟨w.heap.size, 2, none⟩ = some (.int .u32 a2) ∧ W.cell? ⟨w.heap.size, 3, none⟩ = some (.int .u32 a3) ∧ W.cell? ⟨w.heap.size, 4, none⟩ = some (.int .i64 a4) ∧ W.cell? ⟨w.heap.size, 5, none⟩ = some (.int .i64 a5) ∧ W.cell? ⟨w.heap.size, 6, none⟩ = some (.int .i64 a6) ∧ W.cell? ⟨w.heap.size, 7, none⟩ = some (.slice A l.length c)) (first | with_reducible exact hKS | exact ⟨cell_al hKS.1, cell_al hKS.2.1, cell_al hKS.2.2.1, cell_al hKS.2.2.2.1, cell_al hKS.2.2.2.2.1, cell_al hKS.2.2.2.2.2.1, cell_al hKS.2.2.2.2.2.2.1, cell_al hKS.2.2.2.2.2.2.2⟩ | exact ⟨cell_ad hKS.1, cell_ad hKS.2.1, cell_ad hKS.2.2.1, cell_ad hKS.2.2.2.1, cell_ad hKS.2.2.2.2.1, cell_ad hKS.2.2.2.2.2.1, cell_ad hKS.2.2.2.2.2.2.1, cell_ad hKS.2.2.2.2.2.2.2⟩)
      (first | ((with_reducible refine gateE (N := 95) rfl ?_); have ho : Kd.R (Kd.int .u8) 5 (w10_.alloc (.cells #[.int .u8 (0), .int .u8 (0), .int .u8 (0), .int .u8 (0)] 5)).drew w10_.drew.heap.size (fun _ => True) (.slice (some ⟨w10_.drew.heap.size, 0, none⟩) ([0, 0, 0, 0] : List Int).length ([0, 0, 0, 0] : List Int).length) ([0, 0, 0, 0] : List Int) := R_lit_new w10_.drew 5 ([0, 0, 0, 0] : List Int) (by simp); have hb : Below w10_.drew.heap.size w10_.drew (w10_.alloc (.cells #[.int .u8 (0), .int .u8 (0), .int .u8 (0), .int .u8 (0)] 5)).drew := below_new w10_.drew (.cells #[.int .u8 (0), .int .u8 (0), .int .u8 (0), .int .u8 (0)] 5); have HAp_r := Aside0.mk (apart_new ho HRr.out); have hN := Aside0.mk (Kd.R_lower ho HB.out.size); replace HRo := Aside0.mk (Kd.R_below HRo.out hb); replace HRr := Aside0.mk (Kd.R_below HRr.out hb); replace HGb := Aside0.mk (blk_below HGb.out hb); replace HB := Aside0.mk (below_then HB.out HB.out.size hb); replace hKS : ((w10_.alloc (.cells #[.int .u8 (0), .int .u8 (0), .int .u8 (0), .int .u8 (0)] 5)).drew.cell? ⟨w.heap.size, 0, none⟩ = some (.int .i64 a0) ∧ (w10_.alloc (.cells #[.int .u8 (0), .int .u8 (0), .int .u8 (0), .int .u8 (0)] 5)).drew.cell? ⟨w.heap.size, 1, none⟩ = some (.int .i64 a1) ∧ (w10_.alloc (.cells #[.int .u8 (0), .int .u8 (0), .int .u8 (0), .int .u8 (0)] 5)).drew.cell? ⟨w.heap.size, 2, none⟩ = some (.int .u32 a2) ∧ (w10_.alloc (.cells #[.int .u8 (0), .int .u8 (0), .int .u8 (0), .int .u8 (0)] 5)).drew.cell? ⟨w.heap.size, 3, none⟩ = some (.int .u32 a3) ∧ (w10_.alloc (.cells #[.int .u8 (0), .int .u8 (0), .int .u8 (0), .int .u8 (0)] 5)).drew.cell? ⟨w.heap.size, 4, none⟩ = some (.int .i64 a4) ∧ (w10_.alloc (.cells #[.int .u8 (0), .int .u8 (0), .int .u8 (0), .int .u8 (0)] 5)).drew.cell? ⟨w.heap.size, 5, none⟩ = some (.int .i64 a5) ∧ (w10_.alloc (.cells #[.int .u8 (0), .int .u8 (0), .int .u8 (0), .int .u8 (0)] 5)).drew.cell? ⟨w.heap.size, 6, none⟩ = some (.int .i64 a6) ∧ (w10_.alloc (.cells #[.int .u8 (0), .int .u8 (0), .int .u8 (0), .int .u8 (0)] 5)).drew.cell? ⟨w.heap.size, 7, none⟩ = some (.slice A l.length c)) := ⟨(blk_cell HGb.out 0).trans rfl, (blk_cell HGb.out 1).trans rfl, (blk_cell HGb.out 2).trans rfl, (blk_cell HGb.out 3).trans rfl, (blk_cell HGb.out 4).trans rfl, (blk_cell HGb.out 5).trans rfl, (blk_cell HGb.out 6).trans rfl, (blk_cell HGb.out 7).trans rfl⟩; have HRp := hN; clear hN ho hb; refine R_append_E rfl (.tmp 93) (.tmp 94) 23 5 rfl Try.underlying23 info8 (l := L10_) (m := ([0, 0, 0, 0] : List Int)) rfl rfl HRr.out (Kd.R_reads' HRp.out).2.2 HB.out (len_ok HL10.out (Nat.le_refl 4) (by decide)) ?_; intro Ar_ cr_ L11_ w11_ HE11 ho hb hg hat; have HL11 := Aside0.mk (len_app HE11.out HL10.out (Nat.le_refl 4)); have hA' := Aside0.mk (apart_after HAr_o.out hat HRo.out); replace HRo := Aside0.mk (R_off HRo.out hg HAr_o.out); clear HAr_o; have HAr_o := hA'; clear hA'; have hA' := Aside0.mk (apart_after (apart_symm HAp_r.out) hat HRp.out); replace HRp := Aside0.mk (R_off HRp.out hg (apart_symm HAp_r.out)); clear HAp_r; have HAr_p := hA'; clear hA'; replace HGb := Aside0.mk (blk_grown HGb.out hg (Kd.R_ne HRr.out HGb.out (by decide))); replace HB := Aside0.mk hb; clear HRr; have HRr := Aside0.mk ho; clear HRp; replace hKS : (w11_.cell? ⟨w.heap.size, 0, none⟩ = some (.int .i64 a0) ∧ w11_.cell? ⟨w.heap.size, 1, none⟩ = some (.int .i64 a1) ∧ w11_.cell? ⟨w.heap.size, 2, none⟩ = some (.int .u32 a2) ∧ w11_.cell? ⟨w.heap.size, 3, none⟩ = some (.int .u32 a3) ∧ w11_.cell? ⟨w.heap.size, 4, none⟩ = some (.int .i64 a4) ∧ w11_.cell? ⟨w.heap.size, 5, none⟩ = some (.int .i64 a5) ∧ w11_.cell? ⟨w.heap.size, 6, none⟩ = some (.int .i64 a6) ∧ w11_.cell? ⟨w.heap.size, 7, none⟩ = some (.slice A l.length c)) := ⟨(blk_cell HGb.out 0).trans rfl, (blk_cell HGb.out 1).trans rfl, (blk_cell HGb.out 2).trans rfl, (blk_cell HGb.out 3).trans rfl, (blk_cell HGb.out 4).trans rfl, (blk_cell HGb.out 5).trans rfl, (blk_cell HGb.out 6).trans rfl, (blk_cell HGb.out 7).trans rfl⟩; clear ho hb hg hat) | ((with_reducible refine gateE (N := 97) rfl ?_); refine R_append_E rfl (.tmp 95) (.tmp 96) 23 5 rfl Try.underlying23 info8 (l := L11_) (m := segOpts a6) rfl rfl HRr.out (Kd.R_reads' HRo.out).2.2 HB.out (len_ok HL11.out HLo.out (by decide)) ?_; intro Ar_ cr_ L12_ w12_ HE12 ho hb hg hat; have HL12 := Aside0.mk (len_app HE12.out HL11.out HLo.out); have hA' := Aside0.mk (apart_after HAr_o.out hat HRo.out); replace HRo := Aside0.mk (R_off HRo.out hg HAr_o.out); clear HAr_o; have HAr_o := hA'; clear hA'; replace HGb := Aside0.mk (blk_grown HGb.out hg (Kd.R_ne HRr.out HGb.out (by decide))); replace HB := Aside0.mk hb; clear HRr; have HRr := Aside0.mk ho; clear HRo; replace hKS : (w12_.cell? ⟨w.heap.size, 0, none⟩ = some (.int .i64 a0) ∧ w12_.cell? ⟨w.heap.size, 1, none⟩ = some (.int .i64 a1) ∧ w12_.cell? ⟨w.heap.size, 2, none⟩ = some (.int .u32 a2) ∧ w12_.cell? ⟨w.heap.size, 3, none⟩ = some (.int .u32 a3) ∧ w12_.cell? ⟨w.heap.size, 4, none⟩ = some (.int .i64 a4) ∧ w12_.cell? ⟨w.heap.size, 5, none⟩ = some (.int .i64 a5) ∧ w12_.cell? ⟨w.heap.size, 6, none⟩ = some (.int .i64 a6) ∧ w12_.cell? ⟨w.heap.size, 7, none⟩ = some (.slice A l.length c)) := ⟨(blk_cell HGb.out 0).trans rfl, (blk_cell HGb.out 1).trans rfl, (blk_cell HGb.out 2).trans rfl, (blk_cell HGb.out 3).trans rfl, (blk_cell HGb.out 4).trans rfl, (blk_cell HGb.out 5).trans rfl, (blk_cell HGb.out 6).trans rfl, (blk_cell HGb.out 7).trans rfl⟩; clear ho hb hg hat) | ((with_reducible refine gateE (N := 100) rfl ?_); refine R_append_E rfl (.tmp 97) (.tmp 99) 23 5 rfl Try.underlying23 info8 (l := L12_) (m := l) rfl rfl HRr.out (Kd.C_below HR.out HB.out) HB.out (len_ok HL12.out HL.out (by decide)) ?_; intro Ar_ cr_ L13_ w13_ HE13 ho hb hg hat; have HL13 := Aside0.mk (len_app HE13.out HL12.out HL.out); replace HGb := Aside0.mk (blk_grown HGb.out hg (Kd.R_ne HRr.out HGb.out (by decide))); replace HB := Aside0.mk hb; clear HRr; have HRr := Aside0.mk ho; replace hKS : (w13_.cell? ⟨w.heap.size, 0, none⟩ = some (.int .i64 a0) ∧ w13_.cell? ⟨w.heap.size, 1, none⟩ = some (.int .i64 a1) ∧ w13_.cell? ⟨w.heap.size, 2, none⟩ = some (.int .u32 a2) ∧ w13_.cell? ⟨w.heap.size, 3, none⟩ = some (.int .u32 a3) ∧ w13_.cell? ⟨w.heap.size, 4, none⟩ = some (.int .i64 a4) ∧ w13_.cell? ⟨w.heap.size, 5, none⟩ = some (.int .i64 a5) ∧ w13_.cell? ⟨w.heap.size, 6, none⟩ = some (.int .i64 a6) ∧ w13_.cell? ⟨w.heap.size, 7, none⟩ = some (.slice A l.length c)) := ⟨(blk_cell HGb.out 0).trans rfl, (blk_cell HGb.out 1).trans rfl, (blk_cell HGb.out 2).trans rfl, (blk_cell HGb.out 3).trans rfl, (blk_cell HGb.out 4).trans rfl, (blk_cell HGb.out 5).trans rfl, (blk_cell HGb.out 6).trans rfl, (blk_cell HGb.out 7).trans rfl⟩; clear ho hb hg hat))
    clear hw0 hw1 hw2 hw3 hw5
    go_upto_region 9 with fail
    have hraw : L13_ = segRaw a0 a1 a2 a3 a4 a5 a6 l := by
      rw [HE13.out, HE12.out, HE11.out, HE10.out, HE8.out, HE7.out, HE5.out, HE3.out]
      unfold segRaw segRows
      have e1 : beN 1 ((20 + ((segOpts a6).length : Int)) / 4 * 16) = [80 + 4 * ((segOpts a6).length : Int)] := by
        have := segOpts_length a6
        by_cases hp : 0 < a6
        · rw [if_pos hp] at this; rw [this]; decide
        · rw [if_neg hp] at this; rw [this]; decide
      have e2 : beN 1 a4 = [a4] := by rw [beN_cons, beN_zero]; simp; omega
      have e3 : beN 4 0 = [0, 0, 0, 0] := by decide
      rw [e1, e2, e3]
      simp
    have HSB := Aside0.mk (show segBytes a0 a1 a2 a3 a4 a5 a6 l s d = laid (segRaw a0 a1 a2 a3 a4 a5 a6 l) 16 (beN 2 (csum (pseudo s d 6 (segRaw a0 a1 a2 a3 a4 a5 a6 l).length ++ segRaw a0 a1 a2 a3 a4 a5 a6 l))) from rfl)
    have hlo : 20 ≤ (segRaw a0 a1 a2 a3 a4 a5 a6 l).length := by rw [segRaw_length]; omega
    have hhi : (segRaw a0 a1 a2 a3 a4 a5 a6 l).length ≤ 60024 := by rw [segRaw_length]; have := HL.out; omega
    have HBr := Aside0.mk (show Bytes (segRaw a0 a1 a2 a3 a4 a5 a6 l) from by
      intro x hx
      obtain ⟨y, hy, hxy⟩ := List.mem_flatten.1 hx
      simp only [segRows, List.mem_cons, List.not_mem_nil, or_false] at hy
      rcases hy with rfl | rfl | rfl | rfl | rfl | rfl | rfl | rfl | rfl | rfl
      all_goals first | exact beN_bytes _ _ x hxy | exact segOpts_bytes _ x hxy | exact HBy.out x hxy)
    simp only [hraw] at HRr ⊢
    have HLr := Aside0.mk hhi
    clear hraw hob
    generalize segRaw a0 a1 a2 a3 a4 a5 a6 l = raw at *
    obtain ⟨g, cap, ev, hgb, hgl, cells, hcells⟩ := Kd.R_form HRr.out (by omega)
    injection ev with ev1 ev2 ev3
    subst ev1 ev3
    clear ev2 hcells
    have hck := csum_range (pseudo s d 6 raw.length ++ raw) ((pseudo_bytes _ _ _ _).append HBr.out)
    have HBc := Aside0.mk ((pseudo_bytes s d 6 raw.length).append HBr.out)
    have HLc := Aside0.mk (show (pseudo s d 6 raw.length ++ raw).length < 140737488355328 from by rw [List.length_append, pseudo_length]; omega)
    obtain ⟨ck, hckE⟩ : ∃ ck, csum (pseudo s d 6 raw.length ++ raw) = ck := ⟨_, rfl⟩
    rw [hckE] at hck HSB
    obtain ⟨ck0, ck1⟩ := hck
    have HCK := Aside0.mk hckE
    clear hckE
    try clear hS_
    go_upto_region 10 with (first | (go_at_call 28; (with_reducible refine (ref_pseudo s d raw.length _ hS hD (by omega)).mono ?_); rintro e w51_ ⟨v_, rfl, ho, hb⟩; obtain ⟨Ap, cp, ee⟩ := Kd.R_slice ho; subst ee; have HAp_r := Aside0.mk (apart_new ho HRr.out); have hN := Aside0.mk (Kd.R_lower ho HB.out.size); replace HRr := Aside0.mk (Kd.R_below HRr.out hb); replace HB := Aside0.mk (below_then HB.out HB.out.size hb); have HRp := hN; clear hN ho hb) | ((with_reducible refine gate_builtin (b := .append) (xs := #[.tmp 105, .tmp 106]) rfl ?_); at_builtin; refine R_append_W rfl (.tmp 105) (.tmp 106) 23 5 rfl Try.underlying23 info8 (l := pseudo s d 6 raw.length) (m := raw) rfl rfl HRp.out (Kd.R_reads' HRr.out).2.2 HB.out (len_ok (Nat.le_of_eq (pseudo_length s d 6 raw.length)) HLr.out (by decide)) ?_; intro Ap_ cp_ L52_ w52_ HE52 ho hb hg hat; have HL52 := Aside0.mk (len_app HE52.out (Nat.le_of_eq (pseudo_length s d 6 raw.length)) HLr.out); have hA' := Aside0.mk (apart_after HAp_r.out hat HRr.out); replace HRr := Aside0.mk (R_off HRr.out hg HAp_r.out); clear HAp_r; have HAp_r := hA'; clear hA'; replace HB := Aside0.mk hb; clear HRp; have HRp := Aside0.mk ho; clear ho hb hg hat) | (go_at_call 27; (with_reducible refine (ref_sum_ck _ _ _ ck _ (Kd.R_reads' HRp.out).2.2 (Kd.R_reads' HRp.out).2.1 (HE52.out ▸ HBc.out) (HE52.out ▸ HLc.out) (HE52.out ▸ HCK.out)).mono ?_); rintro e w53_ ⟨rfl, rfl⟩))
    obtain ⟨hc16, hf16⟩ := Kd.R_celln (0 : Int) HRr.out (16 : Int) (by omega) (by omega)
    obtain ⟨hc17, hf17⟩ := Kd.R_celln (0 : Int) HRr.out (17 : Int) (by omega) (by omega)
    simp only [show (16 : Int).toNat = 16 from rfl, show (17 : Int).toNat = 17 from rfl] at hc16 hf16 hc17 hf17
    have hO2 := Aside0.mk (Kd.R_putn (Kd.R_putn HRr.out (16 : Int) (ck / 256)) (17 : Int) (ck % 256))
    have hHB := Aside0.mk ((HB.out.setCell (p := ⟨g, 16, none⟩) hgb (.int .u8 (ck / 256))).setCell (p := ⟨g, 17, none⟩) hgb (.int .u8 (ck % 256)))
    have h16 : (16 : Int) < (raw.length : Int) := by omega
    have h17 : (17 : Int) < (raw.length : Int) := by omega
    have hck1 : ck / 256 < 256 := by omega
    have HLo := Aside0.mk hlo
    clear HRr HRp HCK HLc HBc HBr
    go_wp2
    go_ret2
    refine ⟨_, rfl, ?_, hHB.out⟩
    rw [HSB.out, beN_two ck ck0 ck1, laid_two raw 16 _ _ (by have := HLo.out; omega)]
    exact hO2.out

set_option maxHeartbeats 3200000 in
set_option maxRecDepth 100000 in
theorem ref19_Put_bad (a0 a1 a2 a3 a4 a5 a6 : Int) (A : Option Addr) (c : Nat) (l : List Int) (s d : Int) (w : World) (hr : Kd.C (Kd.int .u8) w A l.length l) (hc : l.length ≤ c) (hbad : sameB a0 a1 a4 a5 = false ∨ ¬ (0 ≤ a6 ∧ a6 < 65536) ∨ 60000 < l.length) :
    Calls Try.prog 7 #[.agg #[.int .i64 a0, .int .i64 a1, .int .u32 a2, .int .u32 a3, .int .i64 a4, .int .i64 a5, .int .i64 a6, .slice A l.length c], .int .u32 s, .int .u32 d] w fun e w' => e = .returned (.tuple #[.slice none 0 0, .int .i64 2]) ∧ Below w.heap.size w w' := by
  have HB := Aside0.mk (show Below w.heap.size w (w.alloc (.cells #[.int .i64 a0, .int .i64 a1, .int .u32 a2, .int .u32 a3, .int .i64 a4, .int .i64 a5, .int .i64 a6, .slice A l.length c] 25)) from (Below.refl _ _).alloc (Nat.le_refl _) _)
  clear hr hc
  cases e0 : wordB a0 with
  | false =>
    clear hbad
    go_enter Try.func7, Try.ntmps7
    go_wp2_with (go_at_call 25; (with_reducible refine (ref_word _ _).mono ?_); rintro e w1 ⟨rfl, rfl⟩)
    go_ret2
    exact ⟨rfl, HB.out⟩
  | true =>
    cases e1 : wordB a1 with
    | false =>
      clear hbad
      go_enter Try.func7, Try.ntmps7
      go_wp2_with (go_at_call 25; (with_reducible refine (ref_word _ _).mono ?_); rintro e w1 ⟨rfl, rfl⟩)
      go_ret2
      exact ⟨rfl, HB.out⟩
    | true =>
      cases e2 : wordB a5 with
      | false =>
        clear hbad
        go_enter Try.func7, Try.ntmps7
        go_wp2_with (go_at_call 25; (with_reducible refine (ref_word _ _).mono ?_); rintro e w1 ⟨rfl, rfl⟩)
        go_ret2
        exact ⟨rfl, HB.out⟩
      | true =>
        cases e3 : wordB a6 with
        | false =>
          clear hbad
          go_enter Try.func7, Try.ntmps7
          go_wp2_with (go_at_call 25; (with_reducible refine (ref_word _ _).mono ?_); rintro e w1 ⟨rfl, rfl⟩)
          go_ret2
          exact ⟨rfl, HB.out⟩
        | true =>
          cases e4 : decide (a4 < 0) with
          | true =>
            clear hbad
            go_enter Try.func7, Try.ntmps7
            go_wp2_with (go_at_call 25; (with_reducible refine (ref_word _ _).mono ?_); rintro e w1 ⟨rfl, rfl⟩)
            go_ret2
            exact ⟨rfl, HB.out⟩
          | false =>
            cases e5 : decide ((63 : Int) < a4) with
            | true =>
              clear hbad
              go_enter Try.func7, Try.ntmps7
              go_wp2_with (go_at_call 25; (with_reducible refine (ref_word _ _).mono ?_); rintro e w1 ⟨rfl, rfl⟩)
              go_ret2
              exact ⟨rfl, HB.out⟩
            | false =>
              cases e6 : decide ((60000 : Int) < (l.length : Int)) with
              | true =>
                clear hbad
                go_enter Try.func7, Try.ntmps7
                go_wp2_with (go_at_call 25; (with_reducible refine (ref_word _ _).mono ?_); rintro e w1 ⟨rfl, rfl⟩)
                go_ret2
                exact ⟨rfl, HB.out⟩
              | false =>
                unfold wordB at e0 e1 e2 e3
                unfold sameB at hbad
                simp only [decide_eq_true_eq, decide_eq_false_iff_not] at e0 e1 e2 e3 e4 e5 e6 hbad
                omega

theorem drawbridgeref19_Put.calls (a0 a1 a2 a3 a4 a5 a6 : Int) (A : Option Addr) (c : Nat) (l : List Int) (s d : Int) (w : World) (hr : Kd.C (Kd.int .u8) w A l.length l) (hc : l.length ≤ c) (hf : segFit a2 a3 l s d) :
    Calls Try.prog 7 #[.agg #[.int .i64 a0, .int .i64 a1, .int .u32 a2, .int .u32 a3, .int .i64 a4, .int .i64 a5, .int .i64 a6, .slice A l.length c], .int .u32 s, .int .u32 d] w fun e w' => ∃ v0_ : Value, e = .returned (.tuple #[v0_, .int .i64 (segPut a0 a1 a2 a3 a4 a5 a6 l s d).2]) ∧ Kd.R (Kd.int .u8) 5 w' w.heap.size (fun _ => True) v0_ (segPut a0 a1 a2 a3 a4 a5 a6 l s d).1 ∧ Below w.heap.size w w' := by
  obtain ⟨hb, h2, h3, hS, hD⟩ := hf
  unfold segPut
  by_cases h : sameB a0 a1 a4 a5 = true ∧ (0 ≤ a6 ∧ a6 < 65536) ∧ l.length ≤ 60000
  · rw [if_pos h]
    exact ref19_Put_good a0 a1 a2 a3 a4 a5 a6 A c l s d w hr hc h.1 h.2.1 h.2.2 hb h2 h3 hS hD
  · rw [if_neg h]
    refine (ref19_Put_bad a0 a1 a2 a3 a4 a5 a6 A c l s d w hr hc ?_).mono ?_
    · by_cases h1 : sameB a0 a1 a4 a5 = true
      · by_cases h6 : 0 ≤ a6 ∧ a6 < 65536
        · exact Or.inr (Or.inr (by
            by_cases h7 : l.length ≤ 60000
            · exact absurd ⟨h1, h6, h7⟩ h
            · omega))
        · exact Or.inr (Or.inl h6)
      · exact Or.inl (by simpa using h1)
    · rintro e w' ⟨rfl, hb⟩
      exact ⟨_, rfl, Kd.R_nil _ _ _ _ _, hb⟩

end Go.Proofs.Ytndkaffkdjaaoaa.H
namespace Go.Proofs.Ytndkaffkdjaaoaa.QSeg
open Go.RowKit Go.Proofs.Ytndkaffkdjaaoaa.H Go.Proofs.YtndkaffkdjaaoaaW.PrintWords Go.Proofs.YtndkaffkdjaaoaaW.PrintLast Go.Proofs.YtndkaffkdjaaoaaW.PrintMore
attribute [local go_sem] max2_int min2_int max_two min_two max_three min_three max_four min_four   -- for this text's walks alone
set_option linter.unusedVariables false
set_option linter.unusedSimpArgs false

/-! ### seg_Len: function 13 -/
def seg_Len.f (a0_0 : Int) (a0_1 : Int) (a0_2 : Int) (a0_3 : Int) (a0_4 : Int) (a0_5 : Int) (a0_6 : Int) (l0_7 : List Int) : Option (Int) := some (wrap64 ((wrap64 ((l0_7.length : Int) + (Go.bits .and .i64 (a0_4 / 2) 1))) + (Go.bits .and .i64 a0_4 1)))
set_option maxHeartbeats 8000000 in
set_option maxRecDepth 100000 in
theorem seg_Len.calls (a0_0 : Int) (a0_1 : Int) (a0_2 : Int) (a0_3 : Int) (a0_4 : Int) (a0_5 : Int) (a0_6 : Int) (A0_7 : Option Addr) (c0_7 : Nat) (l0_7 : List Int) (r : Int) (w : World) (hr0_7 : Kd.C (Kd.int .u8) w A0_7 l0_7.length l0_7) (hc0_7 : l0_7.length ≤ c0_7) (h : seg_Len.f a0_0 a0_1 a0_2 a0_3 a0_4 a0_5 a0_6 l0_7 = some r) :
    Calls Try.prog 13 #[.agg #[.int .i64 a0_0, .int .i64 a0_1, .int .u32 a0_2, .int .u32 a0_3, .int .i64 a0_4, .int .i64 a0_5, .int .i64 a0_6, .slice A0_7 l0_7.length c0_7]] w fun e w' => e = .returned (.int .i64 r) ∧ Below w.heap.size w w' := by
  have hu25 := Try.underlying25
  have HR0_7 := Aside0.mk hr0_7
  have HC0_7 := Aside0.mk hc0_7
  clear hr0_7 hc0_7
  have HB := Aside0.mk (Below.refl w.heap.size w)
  have H : (some (wrap64 ((wrap64 ((l0_7.length : Int) + (Go.bits .and .i64 (a0_4 / 2) 1))) + (Go.bits .and .i64 a0_4 1)))) = some r := h
  clear h
  obtain rfl := Option.some.inj H
  go_enter Try.func13, Try.ntmps13
  go_wp2_with (first | ((with_reducible refine gate_dst (N := 1) rfl ?_); refine box_event ?hg (N := 1) ?hd (cs := #[.int .i64 a0_0, .int .i64 a0_1, .int .u32 a0_2, .int .u32 a0_3, .int .i64 a0_4, .int .i64 a0_5, .int .i64 a0_6, .slice A0_7 l0_7.length c0_7]) (t := 25) ?hr ?_; (case hd => rfl); (case hg => rfl); (case hr => first | (go_simp; done) | (go_simp; rfl)); intro gb164 hg w2 hbox hb; have n0_ := Aside0.mk (below_step (by repeat (first | (with_reducible first | exact HB.out | apply below_alloc | apply pw_below_drewN | apply below_drew1) | exact HB.out)) hb); have n1_ := Aside0.mk (hbox); have n2_ := Aside0.mk ((by rw [hg]; exact (below_size (by repeat (first | (with_reducible first | exact HB.out | apply below_alloc | apply pw_below_drewN | apply below_drew1) | exact HB.out))) : w.heap.size ≤ gb164)); have n3_ := Aside0.mk ((by rw [hg]; exact (below_size (by repeat (first | (with_reducible first | exact HB.out | apply below_alloc | apply pw_below_drewN | apply below_drew1) | exact HB.out))) : w.heap.size ≤ gb164)); clear HB; have HB := n0_; have BK164 := n1_; have GW164 := n2_; have GE164 := n3_; clear n0_ n1_ n2_ n3_; clear hb hbox hg; have hcz3_0 : w2.cell? ⟨gb164, 0, none⟩ = some (.int .i64 a0_0) := (blk_cell BK164.out 0).trans rfl; have hcz3_1 : w2.cell? ⟨gb164, 1, none⟩ = some (.int .i64 a0_1) := (blk_cell BK164.out 1).trans rfl; have hcz3_2 : w2.cell? ⟨gb164, 2, none⟩ = some (.int .u32 a0_2) := (blk_cell BK164.out 2).trans rfl; have hcz3_3 : w2.cell? ⟨gb164, 3, none⟩ = some (.int .u32 a0_3) := (blk_cell BK164.out 3).trans rfl; have hcz3_4 : w2.cell? ⟨gb164, 4, none⟩ = some (.int .i64 a0_4) := (blk_cell BK164.out 4).trans rfl; have hcz3_5 : w2.cell? ⟨gb164, 5, none⟩ = some (.int .i64 a0_5) := (blk_cell BK164.out 5).trans rfl; have hcz3_6 : w2.cell? ⟨gb164, 6, none⟩ = some (.int .i64 a0_6) := (blk_cell BK164.out 6).trans rfl; have hcz3_7 : w2.cell? ⟨gb164, 7, none⟩ = some (.slice A0_7 l0_7.length c0_7) := (blk_cell BK164.out 7).trans rfl; have hfz3_0 := blk_frozen BK164.out 0; have hfz3_1 := blk_frozen BK164.out 1; have hfz3_2 := blk_frozen BK164.out 2; have hfz3_3 := blk_frozen BK164.out 3; have hfz3_4 := blk_frozen BK164.out 4; have hfz3_5 := blk_frozen BK164.out 5; have hfz3_6 := blk_frozen BK164.out 6; have hfz3_7 := blk_frozen BK164.out 7))
  go_ret
  exact ⟨by first | rfl | (simp [errW_none, errW_some] <;> rfl) | (simp [*, errW_none, errW_some] <;> rfl), by repeat (first | (with_reducible first | exact HB.out | apply below_alloc | apply pw_below_drewN | apply below_drew1 | refine below_set ?_ GE164.out) | exact HB.out)⟩

end Go.Proofs.Ytndkaffkdjaaoaa.QSeg
namespace Go.Proofs.Ytndkaffkdjaaoaa.QSeg
open Go.RowKit Go.Proofs.Ytndkaffkdjaaoaa.H Go.Proofs.YtndkaffkdjaaoaaW.PrintWords Go.Proofs.YtndkaffkdjaaoaaW.PrintLast Go.Proofs.YtndkaffkdjaaoaaW.PrintMore
attribute [local go_sem] max2_int min2_int max_two min_two max_three min_three max_four min_four   -- for this text's walks alone
set_option linter.unusedVariables false
set_option linter.unusedSimpArgs false

/-! ### seg_Less: function 15 -/
def seg_Less.f (a0 : Int) (a1 : Int) : Option (Bool) := some (decide ((wrap32 ((a1 - a0) % 4294967296)) > 0))
set_option maxHeartbeats 8000000 in
set_option maxRecDepth 100000 in
theorem seg_Less.calls (a0 : Int) (a1 : Int) (r : Bool) (w : World) (h : seg_Less.f a0 a1 = some r) :
    Calls Try.prog 15 #[.int .u32 a0, .int .u32 a1] w fun e w' => e = .returned (.bool r) ∧ Drawn0 w w' := by
  have H : (some (decide ((wrap32 ((a1 - a0) % 4294967296)) > 0))) = some r := h
  clear h
  obtain rfl := Option.some.inj H
  go_enter Try.func15, Try.ntmps15
  go_wp2
  go_ret
  exact ⟨by first | rfl | (simp; done) | (simp [*]; done), by repeat (first | exact Drawn0.refl _ | apply Drawn0.step)⟩

end Go.Proofs.Ytndkaffkdjaaoaa.QSeg
namespace Go.Proofs.Ytndkaffkdjaaoaa.QSeg
open Go.RowKit Go.Proofs.Ytndkaffkdjaaoaa.H Go.Proofs.YtndkaffkdjaaoaaW.PrintWords Go.Proofs.YtndkaffkdjaaoaaW.PrintLast Go.Proofs.YtndkaffkdjaaoaaW.PrintMore
attribute [local go_sem] max2_int min2_int max_two min_two max_three min_three max_four min_four   -- for this text's walks alone
set_option linter.unusedVariables false
set_option linter.unusedSimpArgs false

/-! ### drawbridgeref01_Same: function 10 -/
def drawbridgeref01_Same.f (l0 : List Int) (l1 : List Int) : Option (Bool) := some ((strOfNums l0).toList == (strOfNums l1).toList)
set_option maxHeartbeats 8000000 in
set_option maxRecDepth 100000 in
theorem drawbridgeref01_Same.calls (A0 : Option Addr) (c0 : Nat) (l0 : List Int) (A1 : Option Addr) (c1 : Nat) (l1 : List Int) (r : Bool) (w : World) (hr0 : Kd.C (Kd.int .u8) w A0 l0.length l0) (hc0 : l0.length ≤ c0) (hr1 : Kd.C (Kd.int .u8) w A1 l1.length l1) (hc1 : l1.length ≤ c1) (h : drawbridgeref01_Same.f l0 l1 = some r) :
    Calls Try.prog 10 #[.slice A0 l0.length c0, .slice A1 l1.length c1] w fun e w' => e = .returned (.bool r) ∧ Drawn0 w w' := by
  have HR0 := Aside0.mk hr0
  have HC0 := Aside0.mk hc0
  clear hr0 hc0
  have HR1 := Aside0.mk hr1
  have HC1 := Aside0.mk hc1
  clear hr1 hc1
  have H : (some ((strOfNums l0).toList == (strOfNums l1).toList)) = some r := h
  clear h
  obtain rfl := Option.some.inj H
  have hcv3 := Kd.C_string (P := Try.prog) (A := A0) (c := c0) Try.underlying23 Try.underlying5 Try.underlying9 HR0.out
  have hcv4 := Kd.C_string (P := Try.prog) (A := A1) (c := c1) Try.underlying23 Try.underlying5 Try.underlying9 HR1.out
  go_enter Try.func10, Try.ntmps10
  go_wp2
  go_ret
  exact ⟨by first | rfl | (simp; done) | (simp [*]; done), by repeat (first | exact Drawn0.refl _ | apply Drawn0.step)⟩

end Go.Proofs.Ytndkaffkdjaaoaa.QSeg
