/- What SegOptions answers: true, whatever the input. -/
import Derived.Test.YtndkaffkdjaaoaaTo
namespace Go.Proofs.Ytndkaffkdjaaoaa.H
open Go.RowKit Go.Proofs.YtndkaffkdjaaoaaW.PrintWords Go.Proofs.YtndkaffkdjaaoaaW.PrintLast Go.Proofs.YtndkaffkdjaaoaaW.PrintMore Go.Proofs.Ytndkaffkdjaaoaa.QSeg
set_option linter.unusedVariables false
set_option linter.unusedSimpArgs false

theorem R_putN {W : World} {e b n cap g : Nat} {ok : Nat → Prop} {xs : List Int} (h : Kd.R (Kd.int .u8) e W b ok (.slice (some ⟨g, 0, none⟩) n cap) xs) (i : Nat) (x : Int) : Kd.R (Kd.int .u8) e (W.setCell ⟨g, i, none⟩ (.int .u8 x)) b ok (.slice (some ⟨g, 0, none⟩) n cap) (xs.set i x) := by
  have := Kd.R_putn (enc := Value.int .u8) (h1 := fun _ => rfl) h (i : Int) x
  simp only [Int.toNat_natCast] at this
  exact this

theorem reads_n {W : World} {e b n c : Nat} {ok : Nat → Prop} {A : Option Addr} {xs : List Int} (hn : xs.length = n) (h : Kd.R (Kd.int .u8) e W b ok (.slice A n c) xs) : Kd.C (Kd.int .u8) W A n xs := by
  subst hn; exact (Kd.R_reads' h).2.2

theorem law_patched (A : Option Addr) (c n : Nat) (l : List Int) (w : World) (hn : l.length = n) (hr : Kd.C (Kd.int .u8) w A n l) (hc : n ≤ c) (hb : Bytes l) (h20 : 20 ≤ n) (hl : n < 60000) :
    Calls Try.prog 17 #[.slice A n c] w fun e w' => ∃ (A1 : Option Addr) (c1 : Nat), e = .returned (.slice A1 (patched12 l).length c1) ∧ (patched12 l).length ≤ c1 ∧ Kd.C (Kd.int .u8) w' A1 (patched12 l).length (patched12 l) ∧ Below w.heap.size w w' := by
  subst hn
  refine (drawbridgelaw19_patched.calls A c l (patched12 l) w hr hc (patched_f l hb h20 hl)).mono ?_
  rintro e w' ⟨v, rfl, hq, hbl⟩
  obtain ⟨A1, c1, rfl, _⟩ := Kd.Q_slice hq
  have h := Kd.Q_reads' hq
  exact ⟨A1, c1, rfl, h.2.1, h.2.2, hbl⟩

set_option maxHeartbeats 6400000 in
set_option maxRecDepth 100000 in
theorem law_SegOptions_good (a0 a1 a2 a3 a4 a5 : Int) (A : Option Addr) (c : Nat) (l : List Int) (kind : Int) (n : Nat) (w : World) (hr : Kd.C (Kd.int .u8) w A l.length l) (hc : l.length ≤ c) (hf : segFit a2 a3 l 1 2) (hl : l.length ≤ 3000) (hk : 3 ≤ kind ∧ kind < 256) (hn : n ≤ 30) (hs : sameB a0 a1 a4 a5 = true) :
    Calls Try.prog 4 #[.agg #[.int .i64 a0, .int .i64 a1, .int .u32 a2, .int .u32 a3, .int .i64 a4, .int .i64 a5, .int .i64 0, .slice A l.length c], .int .u8 kind, .int .i64 n] w fun e w' => e = .returned (.bool true) ∧ Below w.heap.size w w' := by
  have HR := Aside0.mk hr
  have HC := Aside0.mk hc
  have HF := Aside0.mk hf
  have d1 : decide ((3000 : Int) < (l.length : Int)) = false := decide_eq_false (by omega)
  have d2 : decide (kind < 3) = false := decide_eq_false (by omega)
  have d3 : decide ((n : Int) < 0) = false := decide_eq_false (by omega)
  have d4 : decide ((30 : Int) < (n : Int)) = false := decide_eq_false (by omega)
  obtain ⟨k1, k2⟩ := hk
  have HP1 := Aside0.mk (show (segPut a0 a1 a2 a3 a4 a5 0 l 1 2).1 = segBytes a0 a1 a2 a3 a4 a5 0 l 1 2 from by unfold segPut; rw [if_pos ⟨hs, by omega, by omega⟩])
  have HP2 := Aside0.mk (show (segPut a0 a1 a2 a3 a4 a5 0 l 1 2).2 = 0 from by unfold segPut; rw [if_pos ⟨hs, by omega, by omega⟩])
  have HLen := Aside0.mk (show (segBytes a0 a1 a2 a3 a4 a5 0 l 1 2).length = 20 + l.length from by obtain ⟨x, y, h⟩ := head_seg a0 a1 a2 a3 a4 a5 l 1 2; rw [h]; simp [head20]; omega)
  have HBl := Aside0.mk (show Bytes (segBytes a0 a1 a2 a3 a4 a5 0 l 1 2) from by
    obtain ⟨x, y, h⟩ := head_seg a0 a1 a2 a3 a4 a5 l 1 2
    unfold segBytes
    rw [beN_two _ (csum_range _ ((pseudo_bytes _ _ _ _).append (segRaw_bytes a0 a1 a2 a3 a4 a5 0 l hf.1))).1 (csum_range _ ((pseudo_bytes _ _ _ _).append (segRaw_bytes a0 a1 a2 a3 a4 a5 0 l hf.1))).2, laid_two _ _ _ _ (by rw [segRaw_length]; omega)]
    have := csum_range _ ((pseudo_bytes 1 2 6 (segRaw a0 a1 a2 a3 a4 a5 0 l).length).append (segRaw_bytes a0 a1 a2 a3 a4 a5 0 l hf.1))
    exact set_bytes (set_bytes (segRaw_bytes a0 a1 a2 a3 a4 a5 0 l hf.1) _ _ (by omega)) _ _ (by omega))
  have HRead := fun (j : Nat) (hj : j ≤ 3) (h4 : (3 + n + j) % 4 = 0) => options_read a0 a1 a2 a3 a4 a5 l kind n j hs hf.2.1 hf.2.2.1 hf.1 hl ⟨k1, k2⟩ hn hj h4
  obtain ⟨L, hL⟩ : ∃ L, segBytes a0 a1 a2 a3 a4 a5 0 l 1 2 = L := ⟨_, rfl⟩
  rw [hL] at HP1 HLen HBl HRead
  replace HRead := Aside0.mk HRead
  have hL1 : 20 ≤ L.length := by have := HLen.out; omega
  have hL2 : L.length ≤ 3020 := by have := HLen.out; omega
  have HL2 := Aside0.mk hL2
  clear hL hr hc hf hs
  have HB := Aside0.mk (Below.refl w.heap.size w)
  have hb : Below w.heap.size w (w.alloc (.cells #[.int .i64 a0, .int .i64 a1, .int .u32 a2, .int .u32 a3, .int .i64 a4, .int .i64 a5, .int .i64 0, .slice A l.length c] 25)) := below_new _ _
  replace HB := Aside0.mk (below_then HB.out HB.out.size hb)
  have HGs := Aside0.mk (show (w.alloc (.cells #[.int .i64 a0, .int .i64 a1, .int .u32 a2, .int .u32 a3, .int .i64 a4, .int .i64 a5, .int .i64 0, .slice A l.length c] 25)).heap[w.heap.size]? = some (.cells #[.int .i64 a0, .int .i64 a1, .int .u32 a2, .int .u32 a3, .int .i64 a4, .int .i64 a5, .int .i64 0, .slice A l.length c] 25 (0, 0)) from blk_new _ _)
  have hcs_0 := (blk_cell HGs.out 0).trans rfl
  have hcs_1 := (blk_cell HGs.out 1).trans rfl
  have hcs_2 := (blk_cell HGs.out 2).trans rfl
  have hcs_3 := (blk_cell HGs.out 3).trans rfl
  have hcs_4 := (blk_cell HGs.out 4).trans rfl
  have hcs_5 := (blk_cell HGs.out 5).trans rfl
  have hcs_6 := (blk_cell HGs.out 6).trans rfl
  have hcs_7 := (blk_cell HGs.out 7).trans rfl
  clear hb
  go_enter Try.func4, Try.ntmps4
  go_upto_region 4 with ((go_at_call 6; (with_reducible refine (tells_Put a0 a1 a2 a3 a4 a5 0 A c l 1 2 L 0 _ (Kd.C_below HR.out HB.out) HC.out HF.out HP1.out HP2.out).mono ?_); rintro e w1_ ⟨v_, rfl, ho, hb⟩; obtain ⟨Ab, cb, ee⟩ := Kd.R_slice ho; subst ee; have hN := Aside0.mk (Kd.R_lower ho HB.out.size); replace HGs := Aside0.mk (blk_below HGs.out hb); replace HB := Aside0.mk (below_then HB.out HB.out.size hb); replace hcs_0 := (blk_cell HGs.out 0).trans rfl; replace hcs_1 := (blk_cell HGs.out 1).trans rfl; replace hcs_2 := (blk_cell HGs.out 2).trans rfl; replace hcs_3 := (blk_cell HGs.out 3).trans rfl; replace hcs_4 := (blk_cell HGs.out 4).trans rfl; replace hcs_5 := (blk_cell HGs.out 5).trans rfl; replace hcs_6 := (blk_cell HGs.out 6).trans rfl; replace hcs_7 := (blk_cell HGs.out 7).trans rfl; have HRb := hN; clear hN ho hb))
  have d5 : decide ((L.length : Int) < 20) = false := decide_eq_false (by omega)
  have hx2 : IntKind.i64.wrap ((n : Int) + 2) = (n : Int) + 2 := IntWalk.i64_in _ (by omega)
  have hx3 : IntKind.u8.wrap ((n : Int) + 2) = (n : Int) + 2 := by rw [u8_w]; omega
  go_upto_region 6 with fail
  go_cut [9] (fun v9 wc => ∃ (A9 : Option Addr) (c9 : Nat), v9 = .slice A9 (optB kind n 0).length c9 ∧ Aside0 (Kd.R (Kd.int .u8) 5 wc w.heap.size (fun _ => True) (.slice A9 (optB kind n 0).length c9) (optB kind n 0)) ∧ Aside0 (Kd.R (Kd.int .u8) 5 wc w.heap.size (fun _ => True) (.slice Ab L.length cb) L) ∧ Aside0 (Apart (.slice A9 (optB kind n 0).length c9) (.slice Ab L.length cb)) ∧ Aside0 (wc.heap[w.heap.size]? = some (.cells #[.int .i64 a0, .int .i64 a1, .int .u32 a2, .int .u32 a3, .int .i64 a4, .int .i64 a5, .int .i64 0, .slice A l.length c] 25 (0, 0))) ∧ Aside0 (Below w.heap.size w wc))
  case first =>
    go_wp2_with (first | ((with_reducible refine gate_dst (N := 56) rfl ?_); refine R_lit_W 5 ?hg (N := 56) ?hd (xs := ([1, kind, ((n : Int) + 2)] : List Int)) ?hr (by simp) ?_; (case hd => rfl); (case hg => rfl); (case hr => first | (go_simp; done) | (go_simp; rfl)); intro Ao co w2_ ho hb; have HAo_b := Aside0.mk (apart_new ho HRb.out); have hN := Aside0.mk (Kd.R_lower ho HB.out.size); replace HRb := Aside0.mk (Kd.R_below HRb.out hb); replace HGs := Aside0.mk (blk_below HGs.out hb); replace HB := Aside0.mk (below_then HB.out HB.out.size hb); replace hcs_0 := (blk_cell HGs.out 0).trans rfl; replace hcs_1 := (blk_cell HGs.out 1).trans rfl; replace hcs_2 := (blk_cell HGs.out 2).trans rfl; replace hcs_3 := (blk_cell HGs.out 3).trans rfl; replace hcs_4 := (blk_cell HGs.out 4).trans rfl; replace hcs_5 := (blk_cell HGs.out 5).trans rfl; replace hcs_6 := (blk_cell HGs.out 6).trans rfl; replace hcs_7 := (blk_cell HGs.out 7).trans rfl; have HRo := hN; clear hN ho hb) | ((with_reducible refine gate_builtin (b := .append) (xs := #[.tmp 56, .tmp 57]) rfl ?_); at_builtin; refine R_zeros_W rfl (.tmp 56) (.tmp 57) 23 3 rfl Try.underlying23 Try.underlying3 info8 (l := [1, kind, (n : Int) + 2]) n rfl rfl HRo.out HB.out (by simp; omega) ?_; intro Ao_ co_ L3_ w3_ HE ho hb hg hat; have hA' := Aside0.mk (apart_after HAo_b.out hat HRb.out); replace HRb := Aside0.mk (R_off HRb.out hg HAo_b.out); clear HAo_b; have HAo_b := hA'; clear hA'; replace HGs := Aside0.mk (blk_grown HGs.out hg (Kd.R_ne HRo.out HGs.out (by decide))); replace HB := Aside0.mk hb; clear HRo; have HRo := Aside0.mk ho; replace hcs_0 := (blk_cell HGs.out 0).trans rfl; replace hcs_1 := (blk_cell HGs.out 1).trans rfl; replace hcs_2 := (blk_cell HGs.out 2).trans rfl; replace hcs_3 := (blk_cell HGs.out 3).trans rfl; replace hcs_4 := (blk_cell HGs.out 4).trans rfl; replace hcs_5 := (blk_cell HGs.out 5).trans rfl; replace hcs_6 := (blk_cell HGs.out 6).trans rfl; replace hcs_7 := (blk_cell HGs.out 7).trans rfl; clear ho hb hg hat))
    go_meet
    have he := HE.out.trans (optB_zero kind n)
    subst he
    exact ⟨_, _, rfl, HRo, HRb, HAo_b, HGs, HB⟩
  case rest =>
    obtain ⟨A9, c9, rfl, HRo, HRb, HAo_b, HGs, HB⟩ := hcut
    have HJ := Aside0.mk (show ∃ J, J ≤ 3 ∧ (3 + n + J) % 4 = 0 from ⟨(4 - (3 + n) % 4) % 4, by omega, by omega⟩)
    obtain ⟨J, hJ3, hJ4⟩ := HJ.out
    clear d1 d2 d3 d4 d5 hx2 hx3 HJ
    go_wp2
    go_loopg [9] J (fun kq v9 W => ∃ (A9 : Option Addr) (c9 j : Nat), v9 = .slice A9 (optB kind n j).length c9 ∧ Aside0 (j + kq = J) ∧ Aside0 (Kd.R (Kd.int .u8) 5 W w.heap.size (fun _ => True) (.slice A9 (optB kind n j).length c9) (optB kind n j)) ∧ Aside0 (Kd.R (Kd.int .u8) 5 W w.heap.size (fun _ => True) (.slice Ab L.length cb) L) ∧ Aside0 (Apart (.slice A9 (optB kind n j).length c9) (.slice Ab L.length cb)) ∧ Aside0 (W.heap[w.heap.size]? = some (.cells #[.int .i64 a0, .int .i64 a1, .int .u32 a2, .int .u32 a3, .int .i64 a4, .int .i64 a5, .int .i64 0, .slice A l.length c] 25 (0, 0))) ∧ Aside0 (Below w.heap.size w W))
    case atStart => exact ⟨A9, c9, 0, rfl, ⟨by omega⟩, HRo, HRb, HAo_b, HGs, HB⟩
    case round =>
      clear HRo HRb HAo_b HGs HB
      obtain ⟨A9, c9, j, rfl, HK, HRo, HRb, HAo_b, HGs, HB⟩ := hrel
      have hkq := HK.out
      have HLo := Aside0.mk (show (optB kind n j).length ≤ 36 from by rw [optB_length]; omega)
      have hO := optB_length kind n j
      by_cases hq : gk = 0
      · have hm : (((optB kind n j).length : Int) % 4 != 0) = false := by rw [bne_eq_false_iff_eq]; omega
        have hd : decide ((40 : Int) < ((optB kind n j).length : Int)) = false := decide_eq_false (by omega)
        have hj : j = J := by omega
        have HOL := Aside0.mk hO
        have hO2 : (optB kind n j).length ≤ 36 := by omega
        clear hkq HK hO hq
        have hcs_0 := (blk_cell HGs.out 0).trans rfl
        have hcs_1 := (blk_cell HGs.out 1).trans rfl
        have hcs_2 := (blk_cell HGs.out 2).trans rfl
        have hcs_3 := (blk_cell HGs.out 3).trans rfl
        have hcs_4 := (blk_cell HGs.out 4).trans rfl
        have hcs_5 := (blk_cell HGs.out 5).trans rfl
        have hcs_6 := (blk_cell HGs.out 6).trans rfl
        have hcs_7 := (blk_cell HGs.out 7).trans rfl
        subst hj
        go_upto_region 11 with fail
        have hcb := (Kd.R_reads' HRb.out).2.1
        obtain ⟨Abd, hsd, hrd, hcd⟩ := cut_from .i64 Ab cb L 20 20 rfl hL1 hcb
        have HRD := Aside0.mk (show ∀ W : World, Kd.C (Kd.int .u8) W Ab L.length L → Kd.C (Kd.int .u8) W Abd (L.length - 20) (L.drop 20) from fun W h => by have := hrd W h; rwa [List.length_drop] at this)
        have HRT := Aside0.mk (show ∀ W : World, Kd.C (Kd.int .u8) W Ab L.length L → Kd.C (Kd.int .u8) W Ab 20 (L.take 20) from fun W h => by have := Kd.C_take (m := 20) h hL1; rwa [show (L.take 20).length = 20 from by rw [List.length_take]; omega] at this)
        have HT20 := Aside0.mk (show (L.take 20).length ≤ 20 from by rw [List.length_take]; omega)
        have HD20 := Aside0.mk (show (L.drop 20).length ≤ 3000 from by rw [List.length_drop]; omega)
        have HD21 := Aside0.mk (show L.length - 20 ≤ 3000 from by omega)
        obtain ⟨hst, _, _, _⟩ := cut_to Ab cb L 20 20 rfl hL1 hcb
        clear hrd hcd
        replace HRb := Aside0.mk (Kd.R_drew HRb.out)
        replace HRo := Aside0.mk (Kd.R_drew HRo.out)
        replace HGs := Aside0.mk (blk_drew HGs.out)
        replace HB := Aside0.mk HB.out.drew
        have hKS : (wr.drew.cell? ⟨w.heap.size, 0, none⟩ = some (.int .i64 a0) ∧ wr.drew.cell? ⟨w.heap.size, 1, none⟩ = some (.int .i64 a1) ∧ wr.drew.cell? ⟨w.heap.size, 2, none⟩ = some (.int .u32 a2) ∧ wr.drew.cell? ⟨w.heap.size, 3, none⟩ = some (.int .u32 a3) ∧ wr.drew.cell? ⟨w.heap.size, 4, none⟩ = some (.int .i64 a4) ∧ wr.drew.cell? ⟨w.heap.size, 5, none⟩ = some (.int .i64 a5) ∧ wr.drew.cell? ⟨w.heap.size, 6, none⟩ = some (.int .i64 0) ∧ wr.drew.cell? ⟨w.heap.size, 7, none⟩ = some (.slice A l.length c)) := ⟨(blk_cell HGs.out 0).trans rfl, (blk_cell HGs.out 1).trans rfl, (blk_cell HGs.out 2).trans rfl, (blk_cell HGs.out 3).trans rfl, (blk_cell HGs.out 4).trans rfl, (blk_cell HGs.out 5).trans rfl, (blk_cell HGs.out 6).trans rfl, (blk_cell HGs.out 7).trans rfl⟩
        go_region_held3 (fun W => W.cell? ⟨w.heap.size, 0, none⟩ = some (.int .i64 a0) ∧ W.cell? ⟨w.heap.size, 1, none⟩ = some (.int .i64 a1) ∧ W.cell? ⟨w.heap.size, 2, none⟩ = some (.int .u32 a2) ∧ W.cell? ⟨w.heap.size, 3, none⟩ = some (.int .u32 a3) ∧ W.cell? ⟨w.heap.size, 4, none⟩ = some (.int .i64 a4) ∧ W.cell? ⟨w.heap.size, 5, none⟩ = some (.int .i64 a5) ∧ W.cell? ⟨w.heap.size, 6, none⟩ = some (.int .i64 0) ∧ W.cell? ⟨w.heap.size, 7, none⟩ = some (.slice A l.length c)) (first | with_reducible exact hKS | exact ⟨cell_al hKS.1, cell_al hKS.2.1, cell_al hKS.2.2.1, cell_al hKS.2.2.2.1, cell_al hKS.2.2.2.2.1, cell_al hKS.2.2.2.2.2.1, cell_al hKS.2.2.2.2.2.2.1, cell_al hKS.2.2.2.2.2.2.2⟩ | exact ⟨cell_ad hKS.1, cell_ad hKS.2.1, cell_ad hKS.2.2.1, cell_ad hKS.2.2.2.1, cell_ad hKS.2.2.2.2.1, cell_ad hKS.2.2.2.2.2.1, cell_ad hKS.2.2.2.2.2.2.1, cell_ad hKS.2.2.2.2.2.2.2⟩)
          (first | ((with_reducible refine gateE (N := 73) rfl ?_); have ho : Kd.R (Kd.int .u8) 5 (wr.alloc (.cells #[] 5)).drew wr.drew.heap.size (fun _ => True) (.slice (some ⟨wr.drew.heap.size, 0, none⟩) ([] : List Int).length ([] : List Int).length) ([] : List Int) := R_lit_new wr.drew 5 ([] : List Int) (by simp); have hb : Below wr.drew.heap.size wr.drew (wr.alloc (.cells #[] 5)).drew := below_new wr.drew (.cells #[] 5); have HAq_b := Aside0.mk (apart_new ho HRb.out); have HAq_o := Aside0.mk (apart_new ho HRo.out); have hN := Aside0.mk (Kd.R_lower ho HB.out.size); replace HRb := Aside0.mk (Kd.R_below HRb.out hb); replace HRo := Aside0.mk (Kd.R_below HRo.out hb); replace HGs := Aside0.mk (blk_below HGs.out hb); replace HB := Aside0.mk (below_then HB.out HB.out.size hb); replace hKS : ((wr.alloc (.cells #[] 5)).drew.cell? ⟨w.heap.size, 0, none⟩ = some (.int .i64 a0) ∧ (wr.alloc (.cells #[] 5)).drew.cell? ⟨w.heap.size, 1, none⟩ = some (.int .i64 a1) ∧ (wr.alloc (.cells #[] 5)).drew.cell? ⟨w.heap.size, 2, none⟩ = some (.int .u32 a2) ∧ (wr.alloc (.cells #[] 5)).drew.cell? ⟨w.heap.size, 3, none⟩ = some (.int .u32 a3) ∧ (wr.alloc (.cells #[] 5)).drew.cell? ⟨w.heap.size, 4, none⟩ = some (.int .i64 a4) ∧ (wr.alloc (.cells #[] 5)).drew.cell? ⟨w.heap.size, 5, none⟩ = some (.int .i64 a5) ∧ (wr.alloc (.cells #[] 5)).drew.cell? ⟨w.heap.size, 6, none⟩ = some (.int .i64 0) ∧ (wr.alloc (.cells #[] 5)).drew.cell? ⟨w.heap.size, 7, none⟩ = some (.slice A l.length c)) := ⟨(blk_cell HGs.out 0).trans rfl, (blk_cell HGs.out 1).trans rfl, (blk_cell HGs.out 2).trans rfl, (blk_cell HGs.out 3).trans rfl, (blk_cell HGs.out 4).trans rfl, (blk_cell HGs.out 5).trans rfl, (blk_cell HGs.out 6).trans rfl, (blk_cell HGs.out 7).trans rfl⟩; have HRq := hN; clear hN ho hb; refine R_append_E rfl (.tmp 70) (.tmp 72) 23 5 rfl Try.underlying23 info8 (l := ([] : List Int)) (m := (L.take 20)) rfl rfl HRq.out (HRT.out _ (Kd.R_reads' HRb.out).2.2) HB.out (len_ok (Nat.le_refl 0) (Nat.le_refl 20) (by decide)) ?_; intro Aq_ cq_ L21_ w21_ HE21 ho hb hg hat; have HL21 := Aside0.mk (len_app HE21.out (Nat.le_refl 0) HT20.out); have hA' := Aside0.mk (apart_after HAq_b.out hat HRb.out); replace HRb := Aside0.mk (R_off HRb.out hg HAq_b.out); clear HAq_b; have HAq_b := hA'; clear hA'; have hA' := Aside0.mk (apart_after HAq_o.out hat HRo.out); replace HRo := Aside0.mk (R_off HRo.out hg HAq_o.out); clear HAq_o; have HAq_o := hA'; clear hA'; replace HGs := Aside0.mk (blk_grown HGs.out hg (Kd.R_ne HRq.out HGs.out (by decide))); replace HB := Aside0.mk hb; clear HRq; have HRq := Aside0.mk ho; replace hKS : (w21_.cell? ⟨w.heap.size, 0, none⟩ = some (.int .i64 a0) ∧ w21_.cell? ⟨w.heap.size, 1, none⟩ = some (.int .i64 a1) ∧ w21_.cell? ⟨w.heap.size, 2, none⟩ = some (.int .u32 a2) ∧ w21_.cell? ⟨w.heap.size, 3, none⟩ = some (.int .u32 a3) ∧ w21_.cell? ⟨w.heap.size, 4, none⟩ = some (.int .i64 a4) ∧ w21_.cell? ⟨w.heap.size, 5, none⟩ = some (.int .i64 a5) ∧ w21_.cell? ⟨w.heap.size, 6, none⟩ = some (.int .i64 0) ∧ w21_.cell? ⟨w.heap.size, 7, none⟩ = some (.slice A l.length c)) := ⟨(blk_cell HGs.out 0).trans rfl, (blk_cell HGs.out 1).trans rfl, (blk_cell HGs.out 2).trans rfl, (blk_cell HGs.out 3).trans rfl, (blk_cell HGs.out 4).trans rfl, (blk_cell HGs.out 5).trans rfl, (blk_cell HGs.out 6).trans rfl, (blk_cell HGs.out 7).trans rfl⟩; clear ho hb hg hat) | ((with_reducible refine gateE (N := 75) rfl ?_); refine R_append_E rfl (.tmp 73) (.tmp 74) 23 5 rfl Try.underlying23 info8 (l := L21_) (m := (optB kind n j)) rfl rfl HRq.out (Kd.R_reads' HRo.out).2.2 HB.out (len_ok HL21.out HLo.out (by decide)) ?_; intro Aq_ cq_ L22_ w22_ HE22 ho hb hg hat; have HL22 := Aside0.mk (len_app HE22.out HL21.out HLo.out); have hA' := Aside0.mk (apart_after HAq_b.out hat HRb.out); replace HRb := Aside0.mk (R_off HRb.out hg HAq_b.out); clear HAq_b; have HAq_b := hA'; clear hA'; have hA' := Aside0.mk (apart_after HAq_o.out hat HRo.out); replace HRo := Aside0.mk (R_off HRo.out hg HAq_o.out); clear HAq_o; have HAq_o := hA'; clear hA'; replace HGs := Aside0.mk (blk_grown HGs.out hg (Kd.R_ne HRq.out HGs.out (by decide))); replace HB := Aside0.mk hb; clear HRq; have HRq := Aside0.mk ho; replace hKS : (w22_.cell? ⟨w.heap.size, 0, none⟩ = some (.int .i64 a0) ∧ w22_.cell? ⟨w.heap.size, 1, none⟩ = some (.int .i64 a1) ∧ w22_.cell? ⟨w.heap.size, 2, none⟩ = some (.int .u32 a2) ∧ w22_.cell? ⟨w.heap.size, 3, none⟩ = some (.int .u32 a3) ∧ w22_.cell? ⟨w.heap.size, 4, none⟩ = some (.int .i64 a4) ∧ w22_.cell? ⟨w.heap.size, 5, none⟩ = some (.int .i64 a5) ∧ w22_.cell? ⟨w.heap.size, 6, none⟩ = some (.int .i64 0) ∧ w22_.cell? ⟨w.heap.size, 7, none⟩ = some (.slice A l.length c)) := ⟨(blk_cell HGs.out 0).trans rfl, (blk_cell HGs.out 1).trans rfl, (blk_cell HGs.out 2).trans rfl, (blk_cell HGs.out 3).trans rfl, (blk_cell HGs.out 4).trans rfl, (blk_cell HGs.out 5).trans rfl, (blk_cell HGs.out 6).trans rfl, (blk_cell HGs.out 7).trans rfl⟩; clear ho hb hg hat) | ((with_reducible refine gateE (N := 78) rfl ?_); refine R_append_E rfl (.tmp 75) (.tmp 77) 23 5 rfl Try.underlying23 info8 (l := L22_) (m := (L.drop 20)) rfl rfl HRq.out (HRD.out _ (Kd.R_reads' HRb.out).2.2) HB.out (len_ok HL22.out HD21.out (by decide)) ?_; intro Aq_ cq_ L23_ w23_ HE23 ho hb hg hat; have HL23 := Aside0.mk (len_app HE23.out HL22.out HD20.out); have hA' := Aside0.mk (apart_after HAq_b.out hat HRb.out); replace HRb := Aside0.mk (R_off HRb.out hg HAq_b.out); clear HAq_b; have HAq_b := hA'; clear hA'; have hA' := Aside0.mk (apart_after HAq_o.out hat HRo.out); replace HRo := Aside0.mk (R_off HRo.out hg HAq_o.out); clear HAq_o; have HAq_o := hA'; clear hA'; replace HGs := Aside0.mk (blk_grown HGs.out hg (Kd.R_ne HRq.out HGs.out (by decide))); replace HB := Aside0.mk hb; clear HRq; have HRq := Aside0.mk ho; replace hKS : (w23_.cell? ⟨w.heap.size, 0, none⟩ = some (.int .i64 a0) ∧ w23_.cell? ⟨w.heap.size, 1, none⟩ = some (.int .i64 a1) ∧ w23_.cell? ⟨w.heap.size, 2, none⟩ = some (.int .u32 a2) ∧ w23_.cell? ⟨w.heap.size, 3, none⟩ = some (.int .u32 a3) ∧ w23_.cell? ⟨w.heap.size, 4, none⟩ = some (.int .i64 a4) ∧ w23_.cell? ⟨w.heap.size, 5, none⟩ = some (.int .i64 a5) ∧ w23_.cell? ⟨w.heap.size, 6, none⟩ = some (.int .i64 0) ∧ w23_.cell? ⟨w.heap.size, 7, none⟩ = some (.slice A l.length c)) := ⟨(blk_cell HGs.out 0).trans rfl, (blk_cell HGs.out 1).trans rfl, (blk_cell HGs.out 2).trans rfl, (blk_cell HGs.out 3).trans rfl, (blk_cell HGs.out 4).trans rfl, (blk_cell HGs.out 5).trans rfl, (blk_cell HGs.out 6).trans rfl, (blk_cell HGs.out 7).trans rfl⟩; clear ho hb hg hat))
        go_upto_region 12 with fail
        have he : L23_ = L.take 20 ++ optB kind n j ++ L.drop 20 := by rw [HE23.out, HE22.out, HE21.out, List.nil_append]
        have hXl : L23_.length = L.length + (optB kind n j).length := by rw [he]; simp; omega
        have HX := Aside0.mk he
        have hX1 : 20 ≤ L23_.length := by omega
        have hX2 : L23_.length ≤ 3060 := by omega
        have HXL := Aside0.mk hXl
        clear he hXl hst hsd HE21 HE22 HE23 HL21 HL22 HL23
        obtain ⟨g, cap, ev, hgb, hgl, cells, hcells⟩ := Kd.R_form HRq.out (by omega)
        injection ev with ev1 ev2 ev3
        subst ev1 ev3
        clear ev2 hcells
        obtain ⟨hc12, hf12⟩ := Kd.R_celln (0 : Int) HRq.out (12 : Int) (by omega) (by omega)
        obtain ⟨hc16, hf16⟩ := Kd.R_celln (0 : Int) HRq.out (16 : Int) (by omega) (by omega)
        obtain ⟨hc17, hf17⟩ := Kd.R_celln (0 : Int) HRq.out (17 : Int) (by omega) (by omega)
        simp only [show (12 : Int).toNat = 12 from rfl, show (16 : Int).toNat = 16 from rfl, show (17 : Int).toNat = 17 from rfl] at hc12 hf12 hc16 hf16 hc17 hf17
        have hO3 := Aside0.mk (R_putN (R_putN (R_putN HRq.out 12 (80 + 4 * ((optB kind n j).length : Int))) 16 0) 17 0)
        have hHB := Aside0.mk (((HB.out.setCell (p := ⟨g, 12, none⟩) hgb (.int .u8 (80 + 4 * ((optB kind n j).length : Int)))).setCell (p := ⟨g, 16, none⟩) hgb (.int .u8 0)).setCell (p := ⟨g, 17, none⟩) hgb (.int .u8 0))
        have hgs : w.heap.size ≠ g := fun h => Kd.R_ne HRq.out HGs.out (by decide) (by rw [h]; rfl)
        have hGs3 := Aside0.mk ((Below.heap_setCell _ ⟨g, 17, none⟩ (.int .u8 0) _ hgs).trans ((Below.heap_setCell _ ⟨g, 16, none⟩ (.int .u8 0) _ hgs).trans ((Below.heap_setCell _ ⟨g, 12, none⟩ (.int .u8 (80 + 4 * ((optB kind n j).length : Int))) _ hgs).trans HGs.out)))
        have hx1 : IntKind.i64.wrap (4 * ((optB kind n j).length : Int)) = 4 * ((optB kind n j).length : Int) := IntWalk.i64_in _ (by omega)
        have hx2 : IntKind.i64.wrap (80 + 4 * ((optB kind n j).length : Int)) = 80 + 4 * ((optB kind n j).length : Int) := IntWalk.i64_in _ (by omega)
        have hx3 : IntKind.u8.wrap (80 + 4 * ((optB kind n j).length : Int)) = 80 + 4 * ((optB kind n j).length : Int) := by rw [u8_w]; omega
        have h12 : (12 : Int) < (L23_.length : Int) := by omega
        have h16 : (16 : Int) < (L23_.length : Int) := by omega
        have h17 : (17 : Int) < (L23_.length : Int) := by omega
        clear HRb HRq HGs HB HAo_b HRo hKS HLo hgs
        go_upto_region 14 with fail
        clear hx1 hx2 hx3 h12 h16 h17 hc12 hf12 hc16 hf16 hc17 hf17 hm hd
        have HRq := Aside0.mk (show Kd.R (Kd.int .u8) 5 _ w.heap.size (fun _ => True) (.slice (some ⟨g, 0, none⟩) L23_.length cq_) (joined L (optB kind n j)) from by
          unfold joined; rw [← HX.out]; exact hO3.out)
        have HYl := Aside0.mk (show (joined L (optB kind n j)).length = L23_.length from by unfold joined; rw [← HX.out]; simp)
        have HYb := Aside0.mk (show Bytes (joined L (optB kind n j)) from by
          unfold joined
          exact set_bytes (set_bytes (set_bytes (Bytes.append (Bytes.append (HBl.out.take 20) (optB_bytes kind n j ⟨by omega, k2⟩ hn)) (HBl.out.drop 20)) _ _ (by omega)) _ _ (by omega)) _ _ (by omega))
        have HZ := Aside0.mk (HRead.out j hJ3 hJ4)
        obtain ⟨Y, hY⟩ : ∃ Y, joined L (optB kind n j) = Y := ⟨_, rfl⟩
        rw [hY] at HRq HYl HYb HZ
        have HPb := Aside0.mk (show Bytes (patched12 Y) from by
          obtain ⟨x, y, hx0, hx1, hy0, hy1, he, _⟩ := patched12_tells Y HYb.out (by rw [HYl.out]; omega)
          rw [he]
          exact set_bytes (set_bytes HYb.out _ _ (by omega)) _ _ (by omega))
        have HGs := hGs3
        have HB := hHB
        clear hO3 hGs3 hHB hY HX HXL HRead HOL
        have hcs_0 := (blk_cell HGs.out 0).trans rfl
        have hcs_1 := (blk_cell HGs.out 1).trans rfl
        have hcs_2 := (blk_cell HGs.out 2).trans rfl
        have hcs_3 := (blk_cell HGs.out 3).trans rfl
        have hcs_4 := (blk_cell HGs.out 4).trans rfl
        have hcs_5 := (blk_cell HGs.out 5).trans rfl
        have hcs_6 := (blk_cell HGs.out 6).trans rfl
        have hcs_7 := (blk_cell HGs.out 7).trans rfl
        go_upto_region 15 with (first | (go_at_call 17; (with_reducible refine (law_patched _ _ _ Y _ HYl.out (reads_n HYl.out HRq.out) (Kd.R_reads' HRq.out).2.1 HYb.out hX1 (by omega)).mono ?_); rintro e w31_ ⟨Ap, cp, rfl, hcp, hC, hb⟩; clear HRq; replace HGs := Aside0.mk (blk_below HGs.out hb); replace HB := Aside0.mk (below_then HB.out HB.out.size hb); replace hcs_0 := (blk_cell HGs.out 0).trans rfl; replace hcs_1 := (blk_cell HGs.out 1).trans rfl; replace hcs_2 := (blk_cell HGs.out 2).trans rfl; replace hcs_3 := (blk_cell HGs.out 3).trans rfl; replace hcs_4 := (blk_cell HGs.out 4).trans rfl; replace hcs_5 := (blk_cell HGs.out 5).trans rfl; replace hcs_6 := (blk_cell HGs.out 6).trans rfl; replace hcs_7 := (blk_cell HGs.out 7).trans rfl; have HCp := Aside0.mk hC; have HKp := Aside0.mk hcp; clear hC hb hcp) | (go_at_call 8; (with_reducible refine (tells_Get Ap cp (patched12 Y) 1 2 a0 a1 a2 a3 a4 a5 0 l 0 _ HCp.out HKp.out HPb.out (by decide) (by decide) HZ.out).mono ?_); rintro e w32_ ⟨v_, rfl, ho, hb⟩; obtain ⟨At, ct, ee⟩ := Kd.R_slice ho; subst ee; have hN := Aside0.mk (Kd.R_lower ho HB.out.size); replace HGs := Aside0.mk (blk_below HGs.out hb); replace HB := Aside0.mk (below_then HB.out HB.out.size hb); replace hcs_0 := (blk_cell HGs.out 0).trans rfl; replace hcs_1 := (blk_cell HGs.out 1).trans rfl; replace hcs_2 := (blk_cell HGs.out 2).trans rfl; replace hcs_3 := (blk_cell HGs.out 3).trans rfl; replace hcs_4 := (blk_cell HGs.out 4).trans rfl; replace hcs_5 := (blk_cell HGs.out 5).trans rfl; replace hcs_6 := (blk_cell HGs.out 6).trans rfl; replace hcs_7 := (blk_cell HGs.out 7).trans rfl; have HRt := hN; clear hN ho hb))
        have hb : Below w32_.heap.size w32_ (w32_.alloc (.cells #[.int .i64 a0, .int .i64 a1, .int .u32 a2, .int .u32 a3, .int .i64 a4, .int .i64 a5, .int .i64 0, .slice At l.length ct] 25)) := below_new _ _
        replace HRt := Aside0.mk (Kd.R_below HRt.out hb)
        replace HGs := Aside0.mk (blk_below HGs.out hb)
        replace HB := Aside0.mk (below_then HB.out HB.out.size hb)
        replace hcs_0 := (blk_cell HGs.out 0).trans rfl
        replace hcs_1 := (blk_cell HGs.out 1).trans rfl
        replace hcs_2 := (blk_cell HGs.out 2).trans rfl
        replace hcs_3 := (blk_cell HGs.out 3).trans rfl
        replace hcs_4 := (blk_cell HGs.out 4).trans rfl
        replace hcs_5 := (blk_cell HGs.out 5).trans rfl
        replace hcs_6 := (blk_cell HGs.out 6).trans rfl
        replace hcs_7 := (blk_cell HGs.out 7).trans rfl
        have HGt := Aside0.mk (show (w32_.alloc (.cells #[.int .i64 a0, .int .i64 a1, .int .u32 a2, .int .u32 a3, .int .i64 a4, .int .i64 a5, .int .i64 0, .slice At l.length ct] 25)).heap[w32_.heap.size]? = some (.cells #[.int .i64 a0, .int .i64 a1, .int .u32 a2, .int .u32 a3, .int .i64 a4, .int .i64 a5, .int .i64 0, .slice At l.length ct] 25 (0, 0)) from blk_new _ _)
        have hct_0 := (blk_cell HGt.out 0).trans rfl
        have hct_1 := (blk_cell HGt.out 1).trans rfl
        have hct_2 := (blk_cell HGt.out 2).trans rfl
        have hct_3 := (blk_cell HGt.out 3).trans rfl
        have hct_4 := (blk_cell HGt.out 4).trans rfl
        have hct_5 := (blk_cell HGt.out 5).trans rfl
        have hct_6 := (blk_cell HGt.out 6).trans rfl
        have hct_7 := (blk_cell HGt.out 7).trans rfl
        clear hb
        replace HRt := Aside0.mk (Kd.R_drew HRt.out)
        replace HGs := Aside0.mk (blk_drew HGs.out)
        replace HGt := Aside0.mk (blk_drew HGt.out)
        replace HB := Aside0.mk HB.out.drew
        have hKS : ((w32_.alloc (.cells #[.int .i64 a0, .int .i64 a1, .int .u32 a2, .int .u32 a3, .int .i64 a4, .int .i64 a5, .int .i64 0, .slice At l.length ct] 25)).drew.cell? ⟨w.heap.size, 0, none⟩ = some (.int .i64 a0) ∧ (w32_.alloc (.cells #[.int .i64 a0, .int .i64 a1, .int .u32 a2, .int .u32 a3, .int .i64 a4, .int .i64 a5, .int .i64 0, .slice At l.length ct] 25)).drew.cell? ⟨w.heap.size, 1, none⟩ = some (.int .i64 a1) ∧ (w32_.alloc (.cells #[.int .i64 a0, .int .i64 a1, .int .u32 a2, .int .u32 a3, .int .i64 a4, .int .i64 a5, .int .i64 0, .slice At l.length ct] 25)).drew.cell? ⟨w.heap.size, 2, none⟩ = some (.int .u32 a2) ∧ (w32_.alloc (.cells #[.int .i64 a0, .int .i64 a1, .int .u32 a2, .int .u32 a3, .int .i64 a4, .int .i64 a5, .int .i64 0, .slice At l.length ct] 25)).drew.cell? ⟨w.heap.size, 3, none⟩ = some (.int .u32 a3) ∧ (w32_.alloc (.cells #[.int .i64 a0, .int .i64 a1, .int .u32 a2, .int .u32 a3, .int .i64 a4, .int .i64 a5, .int .i64 0, .slice At l.length ct] 25)).drew.cell? ⟨w.heap.size, 4, none⟩ = some (.int .i64 a4) ∧ (w32_.alloc (.cells #[.int .i64 a0, .int .i64 a1, .int .u32 a2, .int .u32 a3, .int .i64 a4, .int .i64 a5, .int .i64 0, .slice At l.length ct] 25)).drew.cell? ⟨w.heap.size, 5, none⟩ = some (.int .i64 a5) ∧ (w32_.alloc (.cells #[.int .i64 a0, .int .i64 a1, .int .u32 a2, .int .u32 a3, .int .i64 a4, .int .i64 a5, .int .i64 0, .slice At l.length ct] 25)).drew.cell? ⟨w.heap.size, 6, none⟩ = some (.int .i64 0) ∧ (w32_.alloc (.cells #[.int .i64 a0, .int .i64 a1, .int .u32 a2, .int .u32 a3, .int .i64 a4, .int .i64 a5, .int .i64 0, .slice At l.length ct] 25)).drew.cell? ⟨w.heap.size, 7, none⟩ = some (.slice A l.length c) ∧ (w32_.alloc (.cells #[.int .i64 a0, .int .i64 a1, .int .u32 a2, .int .u32 a3, .int .i64 a4, .int .i64 a5, .int .i64 0, .slice At l.length ct] 25)).drew.cell? ⟨w32_.heap.size, 0, none⟩ = some (.int .i64 a0) ∧ (w32_.alloc (.cells #[.int .i64 a0, .int .i64 a1, .int .u32 a2, .int .u32 a3, .int .i64 a4, .int .i64 a5, .int .i64 0, .slice At l.length ct] 25)).drew.cell? ⟨w32_.heap.size, 1, none⟩ = some (.int .i64 a1) ∧ (w32_.alloc (.cells #[.int .i64 a0, .int .i64 a1, .int .u32 a2, .int .u32 a3, .int .i64 a4, .int .i64 a5, .int .i64 0, .slice At l.length ct] 25)).drew.cell? ⟨w32_.heap.size, 2, none⟩ = some (.int .u32 a2) ∧ (w32_.alloc (.cells #[.int .i64 a0, .int .i64 a1, .int .u32 a2, .int .u32 a3, .int .i64 a4, .int .i64 a5, .int .i64 0, .slice At l.length ct] 25)).drew.cell? ⟨w32_.heap.size, 3, none⟩ = some (.int .u32 a3) ∧ (w32_.alloc (.cells #[.int .i64 a0, .int .i64 a1, .int .u32 a2, .int .u32 a3, .int .i64 a4, .int .i64 a5, .int .i64 0, .slice At l.length ct] 25)).drew.cell? ⟨w32_.heap.size, 4, none⟩ = some (.int .i64 a4) ∧ (w32_.alloc (.cells #[.int .i64 a0, .int .i64 a1, .int .u32 a2, .int .u32 a3, .int .i64 a4, .int .i64 a5, .int .i64 0, .slice At l.length ct] 25)).drew.cell? ⟨w32_.heap.size, 5, none⟩ = some (.int .i64 a5) ∧ (w32_.alloc (.cells #[.int .i64 a0, .int .i64 a1, .int .u32 a2, .int .u32 a3, .int .i64 a4, .int .i64 a5, .int .i64 0, .slice At l.length ct] 25)).drew.cell? ⟨w32_.heap.size, 6, none⟩ = some (.int .i64 0) ∧ (w32_.alloc (.cells #[.int .i64 a0, .int .i64 a1, .int .u32 a2, .int .u32 a3, .int .i64 a4, .int .i64 a5, .int .i64 0, .slice At l.length ct] 25)).drew.cell? ⟨w32_.heap.size, 7, none⟩ = some (.slice At l.length ct)) := ⟨(blk_cell HGs.out 0).trans rfl, (blk_cell HGs.out 1).trans rfl, (blk_cell HGs.out 2).trans rfl, (blk_cell HGs.out 3).trans rfl, (blk_cell HGs.out 4).trans rfl, (blk_cell HGs.out 5).trans rfl, (blk_cell HGs.out 6).trans rfl, (blk_cell HGs.out 7).trans rfl, (blk_cell HGt.out 0).trans rfl, (blk_cell HGt.out 1).trans rfl, (blk_cell HGt.out 2).trans rfl, (blk_cell HGt.out 3).trans rfl, (blk_cell HGt.out 4).trans rfl, (blk_cell HGt.out 5).trans rfl, (blk_cell HGt.out 6).trans rfl, (blk_cell HGt.out 7).trans rfl⟩
        go_region_held3 (fun W => W.cell? ⟨w.heap.size, 0, none⟩ = some (.int .i64 a0) ∧ W.cell? ⟨w.heap.size, 1, none⟩ = some (.int .i64 a1) ∧ W.cell? ⟨w.heap.size, 2, none⟩ = some (.int .u32 a2) ∧ W.cell? ⟨w.heap.size, 3, none⟩ = some (.int .u32 a3) ∧ W.cell? ⟨w.heap.size, 4, none⟩ = some (.int .i64 a4) ∧ W.cell? ⟨w.heap.size, 5, none⟩ = some (.int .i64 a5) ∧ W.cell? ⟨w.heap.size, 6, none⟩ = some (.int .i64 0) ∧ W.cell? ⟨w.heap.size, 7, none⟩ = some (.slice A l.length c) ∧ W.cell? ⟨w32_.heap.size, 0, none⟩ = some (.int .i64 a0) ∧ W.cell? ⟨w32_.heap.size, 1, none⟩ = some (.int .i64 a1) ∧ W.cell? ⟨w32_.heap.size, 2, none⟩ = some (.int .u32 a2) ∧ W.cell? ⟨w32_.heap.size, 3, none⟩ = some (.int .u32 a3) ∧ W.cell? ⟨w32_.heap.size, 4, none⟩ = some (.int .i64 a4) ∧ W.cell? ⟨w32_.heap.size, 5, none⟩ = some (.int .i64 a5) ∧ W.cell? ⟨w32_.heap.size, 6, none⟩ = some (.int .i64 0) ∧ W.cell? ⟨w32_.heap.size, 7, none⟩ = some (.slice At l.length ct)) (first | with_reducible exact hKS | exact ⟨cell_al hKS.1, cell_al hKS.2.1, cell_al hKS.2.2.1, cell_al hKS.2.2.2.1, cell_al hKS.2.2.2.2.1, cell_al hKS.2.2.2.2.2.1, cell_al hKS.2.2.2.2.2.2.1, cell_al hKS.2.2.2.2.2.2.2.1, cell_al hKS.2.2.2.2.2.2.2.2.1, cell_al hKS.2.2.2.2.2.2.2.2.2.1, cell_al hKS.2.2.2.2.2.2.2.2.2.2.1, cell_al hKS.2.2.2.2.2.2.2.2.2.2.2.1, cell_al hKS.2.2.2.2.2.2.2.2.2.2.2.2.1, cell_al hKS.2.2.2.2.2.2.2.2.2.2.2.2.2.1, cell_al hKS.2.2.2.2.2.2.2.2.2.2.2.2.2.2.1, cell_al hKS.2.2.2.2.2.2.2.2.2.2.2.2.2.2.2⟩ | exact ⟨cell_ad hKS.1, cell_ad hKS.2.1, cell_ad hKS.2.2.1, cell_ad hKS.2.2.2.1, cell_ad hKS.2.2.2.2.1, cell_ad hKS.2.2.2.2.2.1, cell_ad hKS.2.2.2.2.2.2.1, cell_ad hKS.2.2.2.2.2.2.2.1, cell_ad hKS.2.2.2.2.2.2.2.2.1, cell_ad hKS.2.2.2.2.2.2.2.2.2.1, cell_ad hKS.2.2.2.2.2.2.2.2.2.2.1, cell_ad hKS.2.2.2.2.2.2.2.2.2.2.2.1, cell_ad hKS.2.2.2.2.2.2.2.2.2.2.2.2.1, cell_ad hKS.2.2.2.2.2.2.2.2.2.2.2.2.2.1, cell_ad hKS.2.2.2.2.2.2.2.2.2.2.2.2.2.2.1, cell_ad hKS.2.2.2.2.2.2.2.2.2.2.2.2.2.2.2⟩)
          (first | (go_at_call 12; (with_reducible refine (law_one a0 a1 a2 a3 a4 a5 0 A c l _).mono ?_); rintro e w33_ ⟨gx_, rfl, hg, hb⟩; replace HRt := Aside0.mk (Kd.R_below HRt.out hb); replace HGs := Aside0.mk (blk_below HGs.out hb); replace HGt := Aside0.mk (blk_below HGt.out hb); replace HB := Aside0.mk (below_then HB.out HB.out.size hb); replace hKS : (w33_.cell? ⟨w.heap.size, 0, none⟩ = some (.int .i64 a0) ∧ w33_.cell? ⟨w.heap.size, 1, none⟩ = some (.int .i64 a1) ∧ w33_.cell? ⟨w.heap.size, 2, none⟩ = some (.int .u32 a2) ∧ w33_.cell? ⟨w.heap.size, 3, none⟩ = some (.int .u32 a3) ∧ w33_.cell? ⟨w.heap.size, 4, none⟩ = some (.int .i64 a4) ∧ w33_.cell? ⟨w.heap.size, 5, none⟩ = some (.int .i64 a5) ∧ w33_.cell? ⟨w.heap.size, 6, none⟩ = some (.int .i64 0) ∧ w33_.cell? ⟨w.heap.size, 7, none⟩ = some (.slice A l.length c) ∧ w33_.cell? ⟨w32_.heap.size, 0, none⟩ = some (.int .i64 a0) ∧ w33_.cell? ⟨w32_.heap.size, 1, none⟩ = some (.int .i64 a1) ∧ w33_.cell? ⟨w32_.heap.size, 2, none⟩ = some (.int .u32 a2) ∧ w33_.cell? ⟨w32_.heap.size, 3, none⟩ = some (.int .u32 a3) ∧ w33_.cell? ⟨w32_.heap.size, 4, none⟩ = some (.int .i64 a4) ∧ w33_.cell? ⟨w32_.heap.size, 5, none⟩ = some (.int .i64 a5) ∧ w33_.cell? ⟨w32_.heap.size, 6, none⟩ = some (.int .i64 0) ∧ w33_.cell? ⟨w32_.heap.size, 7, none⟩ = some (.slice At l.length ct)) := ⟨(blk_cell HGs.out 0).trans rfl, (blk_cell HGs.out 1).trans rfl, (blk_cell HGs.out 2).trans rfl, (blk_cell HGs.out 3).trans rfl, (blk_cell HGs.out 4).trans rfl, (blk_cell HGs.out 5).trans rfl, (blk_cell HGs.out 6).trans rfl, (blk_cell HGs.out 7).trans rfl, (blk_cell HGt.out 0).trans rfl, (blk_cell HGt.out 1).trans rfl, (blk_cell HGt.out 2).trans rfl, (blk_cell HGt.out 3).trans rfl, (blk_cell HGt.out 4).trans rfl, (blk_cell HGt.out 5).trans rfl, (blk_cell HGt.out 6).trans rfl, (blk_cell HGt.out 7).trans rfl⟩; have HGx := Aside0.mk hg; clear hg hb) | (go_at_call 12; (with_reducible refine (law_one a0 a1 a2 a3 a4 a5 0 At ct l _).mono ?_); rintro e w34_ ⟨gy_, rfl, hg, hb⟩; replace HRt := Aside0.mk (Kd.R_below HRt.out hb); replace HGs := Aside0.mk (blk_below HGs.out hb); replace HGt := Aside0.mk (blk_below HGt.out hb); replace HGx := Aside0.mk (blk_below HGx.out hb); replace HB := Aside0.mk (below_then HB.out HB.out.size hb); replace hKS : (w34_.cell? ⟨w.heap.size, 0, none⟩ = some (.int .i64 a0) ∧ w34_.cell? ⟨w.heap.size, 1, none⟩ = some (.int .i64 a1) ∧ w34_.cell? ⟨w.heap.size, 2, none⟩ = some (.int .u32 a2) ∧ w34_.cell? ⟨w.heap.size, 3, none⟩ = some (.int .u32 a3) ∧ w34_.cell? ⟨w.heap.size, 4, none⟩ = some (.int .i64 a4) ∧ w34_.cell? ⟨w.heap.size, 5, none⟩ = some (.int .i64 a5) ∧ w34_.cell? ⟨w.heap.size, 6, none⟩ = some (.int .i64 0) ∧ w34_.cell? ⟨w.heap.size, 7, none⟩ = some (.slice A l.length c) ∧ w34_.cell? ⟨w32_.heap.size, 0, none⟩ = some (.int .i64 a0) ∧ w34_.cell? ⟨w32_.heap.size, 1, none⟩ = some (.int .i64 a1) ∧ w34_.cell? ⟨w32_.heap.size, 2, none⟩ = some (.int .u32 a2) ∧ w34_.cell? ⟨w32_.heap.size, 3, none⟩ = some (.int .u32 a3) ∧ w34_.cell? ⟨w32_.heap.size, 4, none⟩ = some (.int .i64 a4) ∧ w34_.cell? ⟨w32_.heap.size, 5, none⟩ = some (.int .i64 a5) ∧ w34_.cell? ⟨w32_.heap.size, 6, none⟩ = some (.int .i64 0) ∧ w34_.cell? ⟨w32_.heap.size, 7, none⟩ = some (.slice At l.length ct)) := ⟨(blk_cell HGs.out 0).trans rfl, (blk_cell HGs.out 1).trans rfl, (blk_cell HGs.out 2).trans rfl, (blk_cell HGs.out 3).trans rfl, (blk_cell HGs.out 4).trans rfl, (blk_cell HGs.out 5).trans rfl, (blk_cell HGs.out 6).trans rfl, (blk_cell HGs.out 7).trans rfl, (blk_cell HGt.out 0).trans rfl, (blk_cell HGt.out 1).trans rfl, (blk_cell HGt.out 2).trans rfl, (blk_cell HGt.out 3).trans rfl, (blk_cell HGt.out 4).trans rfl, (blk_cell HGt.out 5).trans rfl, (blk_cell HGt.out 6).trans rfl, (blk_cell HGt.out 7).trans rfl⟩; have HGy := Aside0.mk hg; clear hg hb) | (go_at_call 11; (with_reducible refine (ref19_Same_yes a0 a1 a2 a3 a4 a5 0 A At c ct _ _ l _ HGx.out HGy.out (Kd.C_below HR.out HB.out) (Kd.R_reads' HRt.out).2.2).mono ?_); rintro e w35_ ⟨rfl, hb⟩; replace HRt := Aside0.mk (Kd.R_below HRt.out hb); replace HGs := Aside0.mk (blk_below HGs.out hb); replace HGt := Aside0.mk (blk_below HGt.out hb); replace HGx := Aside0.mk (blk_below HGx.out hb); replace HGy := Aside0.mk (blk_below HGy.out hb); replace HB := Aside0.mk (below_then HB.out HB.out.size hb); replace hKS : (w35_.cell? ⟨w.heap.size, 0, none⟩ = some (.int .i64 a0) ∧ w35_.cell? ⟨w.heap.size, 1, none⟩ = some (.int .i64 a1) ∧ w35_.cell? ⟨w.heap.size, 2, none⟩ = some (.int .u32 a2) ∧ w35_.cell? ⟨w.heap.size, 3, none⟩ = some (.int .u32 a3) ∧ w35_.cell? ⟨w.heap.size, 4, none⟩ = some (.int .i64 a4) ∧ w35_.cell? ⟨w.heap.size, 5, none⟩ = some (.int .i64 a5) ∧ w35_.cell? ⟨w.heap.size, 6, none⟩ = some (.int .i64 0) ∧ w35_.cell? ⟨w.heap.size, 7, none⟩ = some (.slice A l.length c) ∧ w35_.cell? ⟨w32_.heap.size, 0, none⟩ = some (.int .i64 a0) ∧ w35_.cell? ⟨w32_.heap.size, 1, none⟩ = some (.int .i64 a1) ∧ w35_.cell? ⟨w32_.heap.size, 2, none⟩ = some (.int .u32 a2) ∧ w35_.cell? ⟨w32_.heap.size, 3, none⟩ = some (.int .u32 a3) ∧ w35_.cell? ⟨w32_.heap.size, 4, none⟩ = some (.int .i64 a4) ∧ w35_.cell? ⟨w32_.heap.size, 5, none⟩ = some (.int .i64 a5) ∧ w35_.cell? ⟨w32_.heap.size, 6, none⟩ = some (.int .i64 0) ∧ w35_.cell? ⟨w32_.heap.size, 7, none⟩ = some (.slice At l.length ct)) := ⟨(blk_cell HGs.out 0).trans rfl, (blk_cell HGs.out 1).trans rfl, (blk_cell HGs.out 2).trans rfl, (blk_cell HGs.out 3).trans rfl, (blk_cell HGs.out 4).trans rfl, (blk_cell HGs.out 5).trans rfl, (blk_cell HGs.out 6).trans rfl, (blk_cell HGs.out 7).trans rfl, (blk_cell HGt.out 0).trans rfl, (blk_cell HGt.out 1).trans rfl, (blk_cell HGt.out 2).trans rfl, (blk_cell HGt.out 3).trans rfl, (blk_cell HGt.out 4).trans rfl, (blk_cell HGt.out 5).trans rfl, (blk_cell HGt.out 6).trans rfl, (blk_cell HGt.out 7).trans rfl⟩; clear hb) | (go_at_call 5; (with_reducible refine (law_heads _).mono ?_); rintro e w36_ ⟨rfl, hb⟩; replace HRt := Aside0.mk (Kd.R_below HRt.out hb); replace HGs := Aside0.mk (blk_below HGs.out hb); replace HGt := Aside0.mk (blk_below HGt.out hb); replace HGx := Aside0.mk (blk_below HGx.out hb); replace HGy := Aside0.mk (blk_below HGy.out hb); replace HB := Aside0.mk (below_then HB.out HB.out.size hb); replace hKS : (w36_.cell? ⟨w.heap.size, 0, none⟩ = some (.int .i64 a0) ∧ w36_.cell? ⟨w.heap.size, 1, none⟩ = some (.int .i64 a1) ∧ w36_.cell? ⟨w.heap.size, 2, none⟩ = some (.int .u32 a2) ∧ w36_.cell? ⟨w.heap.size, 3, none⟩ = some (.int .u32 a3) ∧ w36_.cell? ⟨w.heap.size, 4, none⟩ = some (.int .i64 a4) ∧ w36_.cell? ⟨w.heap.size, 5, none⟩ = some (.int .i64 a5) ∧ w36_.cell? ⟨w.heap.size, 6, none⟩ = some (.int .i64 0) ∧ w36_.cell? ⟨w.heap.size, 7, none⟩ = some (.slice A l.length c) ∧ w36_.cell? ⟨w32_.heap.size, 0, none⟩ = some (.int .i64 a0) ∧ w36_.cell? ⟨w32_.heap.size, 1, none⟩ = some (.int .i64 a1) ∧ w36_.cell? ⟨w32_.heap.size, 2, none⟩ = some (.int .u32 a2) ∧ w36_.cell? ⟨w32_.heap.size, 3, none⟩ = some (.int .u32 a3) ∧ w36_.cell? ⟨w32_.heap.size, 4, none⟩ = some (.int .i64 a4) ∧ w36_.cell? ⟨w32_.heap.size, 5, none⟩ = some (.int .i64 a5) ∧ w36_.cell? ⟨w32_.heap.size, 6, none⟩ = some (.int .i64 0) ∧ w36_.cell? ⟨w32_.heap.size, 7, none⟩ = some (.slice At l.length ct)) := ⟨(blk_cell HGs.out 0).trans rfl, (blk_cell HGs.out 1).trans rfl, (blk_cell HGs.out 2).trans rfl, (blk_cell HGs.out 3).trans rfl, (blk_cell HGs.out 4).trans rfl, (blk_cell HGs.out 5).trans rfl, (blk_cell HGs.out 6).trans rfl, (blk_cell HGs.out 7).trans rfl, (blk_cell HGt.out 0).trans rfl, (blk_cell HGt.out 1).trans rfl, (blk_cell HGt.out 2).trans rfl, (blk_cell HGt.out 3).trans rfl, (blk_cell HGt.out 4).trans rfl, (blk_cell HGt.out 5).trans rfl, (blk_cell HGt.out 6).trans rfl, (blk_cell HGt.out 7).trans rfl⟩; clear hb))
        go_wp2
        go_ret
        exact ⟨rfl, HB.out⟩
      · obtain ⟨k, rfl⟩ : ∃ k, gk = k + 1 := ⟨gk - 1, by omega⟩
        have hm : (((optB kind n j).length : Int) % 4 != 0) = true := by rw [bne_iff_ne]; omega
        clear hkq hO hq
        have hcs_0 := (blk_cell HGs.out 0).trans rfl
        have hcs_1 := (blk_cell HGs.out 1).trans rfl
        have hcs_2 := (blk_cell HGs.out 2).trans rfl
        have hcs_3 := (blk_cell HGs.out 3).trans rfl
        have hcs_4 := (blk_cell HGs.out 4).trans rfl
        have hcs_5 := (blk_cell HGs.out 5).trans rfl
        have hcs_6 := (blk_cell HGs.out 6).trans rfl
        have hcs_7 := (blk_cell HGs.out 7).trans rfl
        go_wp2_with (first | ((with_reducible refine gate_dst (N := 64) rfl ?_); refine R_lit_W 5 ?hg (N := 64) ?hd (xs := ([1] : List Int)) ?hr (by simp) ?_; (case hd => rfl); (case hg => rfl); (case hr => first | (go_simp; done) | (go_simp; rfl)); intro Ap cp w21_ ho hb; have HAp_o := Aside0.mk (apart_new ho HRo.out); have HAp_b := Aside0.mk (apart_new ho HRb.out); have hN := Aside0.mk (Kd.R_lower ho HB.out.size); replace HRb := Aside0.mk (Kd.R_below HRb.out hb); replace HRo := Aside0.mk (Kd.R_below HRo.out hb); replace HGs := Aside0.mk (blk_below HGs.out hb); replace HB := Aside0.mk (below_then HB.out HB.out.size hb); replace hcs_0 := (blk_cell HGs.out 0).trans rfl; replace hcs_1 := (blk_cell HGs.out 1).trans rfl; replace hcs_2 := (blk_cell HGs.out 2).trans rfl; replace hcs_3 := (blk_cell HGs.out 3).trans rfl; replace hcs_4 := (blk_cell HGs.out 4).trans rfl; replace hcs_5 := (blk_cell HGs.out 5).trans rfl; replace hcs_6 := (blk_cell HGs.out 6).trans rfl; replace hcs_7 := (blk_cell HGs.out 7).trans rfl; have HRp := hN; clear hN ho hb) | ((with_reducible refine gate_builtin (b := .append) (xs := #[.tmp 63, .tmp 64]) rfl ?_); at_builtin; refine R_append_W rfl (.tmp 63) (.tmp 64) 23 5 rfl Try.underlying23 info8 (l := (optB kind n j)) (m := ([1] : List Int)) rfl rfl HRo.out (Kd.R_reads' HRp.out).2.2 HB.out (len_ok HLo.out (Nat.le_refl 1) (by decide)) ?_; intro Ao_ co_ L22_ w22_ HE22 ho hb hg hat; have HL22 := Aside0.mk (len_app HE22.out HLo.out (Nat.le_refl 1)); have hA' := Aside0.mk (apart_after HAo_b.out hat HRb.out); replace HRb := Aside0.mk (R_off HRb.out hg HAo_b.out); clear HAo_b; have HAo_b := hA'; clear hA'; have hA' := Aside0.mk (apart_after (apart_symm HAp_o.out) hat HRp.out); replace HRp := Aside0.mk (R_off HRp.out hg (apart_symm HAp_o.out)); clear HAp_o; have HAo_p := hA'; clear hA'; replace HGs := Aside0.mk (blk_grown HGs.out hg (Kd.R_ne HRo.out HGs.out (by decide))); replace HB := Aside0.mk hb; clear HRo; have HRo := Aside0.mk ho; clear HRp; replace hcs_0 := (blk_cell HGs.out 0).trans rfl; replace hcs_1 := (blk_cell HGs.out 1).trans rfl; replace hcs_2 := (blk_cell HGs.out 2).trans rfl; replace hcs_3 := (blk_cell HGs.out 3).trans rfl; replace hcs_4 := (blk_cell HGs.out 4).trans rfl; replace hcs_5 := (blk_cell HGs.out 5).trans rfl; replace hcs_6 := (blk_cell HGs.out 6).trans rfl; replace hcs_7 := (blk_cell HGs.out 7).trans rfl; clear ho hb hg hat))
        have he := HE22.out.trans (optB_snoc kind n j)
        subst he
        go_roundg k
        case measure => omega
        case rel => exact ⟨_, _, j + 1, rfl, ⟨by have := HK.out; omega⟩, HRo, HRb, HAo_b, HGs, HB⟩

set_option maxHeartbeats 6400000 in
set_option maxRecDepth 100000 in
theorem law_SegOptions_bad (a0 a1 a2 a3 a4 a5 : Int) (A : Option Addr) (c : Nat) (l : List Int) (kind : Int) (n : Nat) (w : World) (hr : Kd.C (Kd.int .u8) w A l.length l) (hc : l.length ≤ c) (hf : segFit a2 a3 l 1 2) (hl : l.length ≤ 3000) (hk : 3 ≤ kind ∧ kind < 256) (hn : n ≤ 30) (hs : sameB a0 a1 a4 a5 = false) :
    Calls Try.prog 4 #[.agg #[.int .i64 a0, .int .i64 a1, .int .u32 a2, .int .u32 a3, .int .i64 a4, .int .i64 a5, .int .i64 0, .slice A l.length c], .int .u8 kind, .int .i64 n] w fun e w' => e = .returned (.bool true) ∧ Below w.heap.size w w' := by
  have HR := Aside0.mk hr
  have HC := Aside0.mk hc
  have HF := Aside0.mk hf
  have d1 : decide ((3000 : Int) < (l.length : Int)) = false := decide_eq_false (by omega)
  have d2 : decide (kind < 3) = false := decide_eq_false (by omega)
  have d3 : decide ((n : Int) < 0) = false := decide_eq_false (by omega)
  have d4 : decide ((30 : Int) < (n : Int)) = false := decide_eq_false (by omega)
  have HP1 := Aside0.mk (show (segPut a0 a1 a2 a3 a4 a5 0 l 1 2).1 = [] from by unfold segPut; rw [if_neg (fun h => by rw [hs] at h; cases h.1)])
  have HP2 := Aside0.mk (show (segPut a0 a1 a2 a3 a4 a5 0 l 1 2).2 = 2 from by unfold segPut; rw [if_neg (fun h => by rw [hs] at h; cases h.1)])
  clear hr hc hf hs
  have HB := Aside0.mk (Below.refl w.heap.size w)
  have hb : Below w.heap.size w (w.alloc (.cells #[.int .i64 a0, .int .i64 a1, .int .u32 a2, .int .u32 a3, .int .i64 a4, .int .i64 a5, .int .i64 0, .slice A l.length c] 25)) := below_new _ _
  replace HB := Aside0.mk (below_then HB.out HB.out.size hb)
  have HGs := Aside0.mk (show (w.alloc (.cells #[.int .i64 a0, .int .i64 a1, .int .u32 a2, .int .u32 a3, .int .i64 a4, .int .i64 a5, .int .i64 0, .slice A l.length c] 25)).heap[w.heap.size]? = some (.cells #[.int .i64 a0, .int .i64 a1, .int .u32 a2, .int .u32 a3, .int .i64 a4, .int .i64 a5, .int .i64 0, .slice A l.length c] 25 (0, 0)) from blk_new _ _)
  have hcs_0 := (blk_cell HGs.out 0).trans rfl
  have hcs_1 := (blk_cell HGs.out 1).trans rfl
  have hcs_2 := (blk_cell HGs.out 2).trans rfl
  have hcs_3 := (blk_cell HGs.out 3).trans rfl
  have hcs_4 := (blk_cell HGs.out 4).trans rfl
  have hcs_5 := (blk_cell HGs.out 5).trans rfl
  have hcs_6 := (blk_cell HGs.out 6).trans rfl
  have hcs_7 := (blk_cell HGs.out 7).trans rfl
  clear hb
  go_enter Try.func4, Try.ntmps4
  go_wp2_with (first | (go_at_call 6; (with_reducible refine (tells_Put a0 a1 a2 a3 a4 a5 0 A c l 1 2 [] 2 _ (Kd.C_below HR.out HB.out) HC.out HF.out HP1.out HP2.out).mono ?_); rintro e w1_ ⟨v_, rfl, ho, hb⟩; obtain ⟨Ab, cb, ee⟩ := Kd.R_slice ho; subst ee; have hN := Aside0.mk (Kd.R_lower ho HB.out.size); replace HGs := Aside0.mk (blk_below HGs.out hb); replace HB := Aside0.mk (below_then HB.out HB.out.size hb); replace hcs_0 := (blk_cell HGs.out 0).trans rfl; replace hcs_1 := (blk_cell HGs.out 1).trans rfl; replace hcs_2 := (blk_cell HGs.out 2).trans rfl; replace hcs_3 := (blk_cell HGs.out 3).trans rfl; replace hcs_4 := (blk_cell HGs.out 4).trans rfl; replace hcs_5 := (blk_cell HGs.out 5).trans rfl; replace hcs_6 := (blk_cell HGs.out 6).trans rfl; replace hcs_7 := (blk_cell HGs.out 7).trans rfl; have HRb := hN; clear hN ho hb) | (go_at_call 5; (with_reducible refine (law_heads _).mono ?_); rintro e w2_ ⟨rfl, hb⟩; replace HRb := Aside0.mk (Kd.R_below HRb.out hb); replace HGs := Aside0.mk (blk_below HGs.out hb); replace HB := Aside0.mk (below_then HB.out HB.out.size hb); replace hcs_0 := (blk_cell HGs.out 0).trans rfl; replace hcs_1 := (blk_cell HGs.out 1).trans rfl; replace hcs_2 := (blk_cell HGs.out 2).trans rfl; replace hcs_3 := (blk_cell HGs.out 3).trans rfl; replace hcs_4 := (blk_cell HGs.out 4).trans rfl; replace hcs_5 := (blk_cell HGs.out 5).trans rfl; replace hcs_6 := (blk_cell HGs.out 6).trans rfl; replace hcs_7 := (blk_cell HGs.out 7).trans rfl; clear hb))
  go_ret
  exact ⟨rfl, HB.out⟩

set_option maxHeartbeats 6400000 in
set_option maxRecDepth 100000 in
theorem law_SegOptions (a0 a1 a2 a3 a4 a5 a6 : Int) (A : Option Addr) (c : Nat) (l : List Int) (kind n : Int) (w : World) (hr : Kd.C (Kd.int .u8) w A l.length l) (hc : l.length ≤ c) (hf : segFit a2 a3 l 1 2) (hk : 0 ≤ kind ∧ kind < 256) (hn : -9223372036854775808 ≤ n ∧ n < 9223372036854775808) :
    Calls Try.prog 4 #[.agg #[.int .i64 a0, .int .i64 a1, .int .u32 a2, .int .u32 a3, .int .i64 a4, .int .i64 a5, .int .i64 a6, .slice A l.length c], .int .u8 kind, .int .i64 n] w fun e w' => e = .returned (.bool true) ∧ Below w.heap.size w w' := by
  cases d1 : decide ((3000 : Int) < (l.length : Int)) with
  | true =>
    have HB := Aside0.mk (show Below w.heap.size w (w.alloc (.cells #[.int .i64 a0, .int .i64 a1, .int .u32 a2, .int .u32 a3, .int .i64 a4, .int .i64 a5, .int .i64 a6, .slice A l.length c] 25)) from (Below.refl _ _).alloc (Nat.le_refl _) _)
    clear hr hc hf hk hn
    go_enter Try.func4, Try.ntmps4
    go_wp2_with (go_at_call 5; (with_reducible refine (law_heads _).mono ?_); rintro e w1 ⟨rfl, hb⟩; replace HB := Aside0.mk (below_then HB.out HB.out.size hb); clear hb)
    go_ret
    exact ⟨rfl, HB.out⟩
  | false =>
    cases d2 : decide (kind < 3) with
    | true =>
      have HB := Aside0.mk (show Below w.heap.size w (w.alloc (.cells #[.int .i64 a0, .int .i64 a1, .int .u32 a2, .int .u32 a3, .int .i64 a4, .int .i64 a5, .int .i64 a6, .slice A l.length c] 25)) from (Below.refl _ _).alloc (Nat.le_refl _) _)
      clear hr hc hf hk hn
      go_enter Try.func4, Try.ntmps4
      go_wp2_with (go_at_call 5; (with_reducible refine (law_heads _).mono ?_); rintro e w1 ⟨rfl, hb⟩; replace HB := Aside0.mk (below_then HB.out HB.out.size hb); clear hb)
      go_ret
      exact ⟨rfl, HB.out⟩
    | false =>
      cases d3 : decide (n < 0) with
      | true =>
        have HB := Aside0.mk (show Below w.heap.size w (w.alloc (.cells #[.int .i64 a0, .int .i64 a1, .int .u32 a2, .int .u32 a3, .int .i64 a4, .int .i64 a5, .int .i64 a6, .slice A l.length c] 25)) from (Below.refl _ _).alloc (Nat.le_refl _) _)
        clear hr hc hf hk hn
        go_enter Try.func4, Try.ntmps4
        go_wp2_with (go_at_call 5; (with_reducible refine (law_heads _).mono ?_); rintro e w1 ⟨rfl, hb⟩; replace HB := Aside0.mk (below_then HB.out HB.out.size hb); clear hb)
        go_ret
        exact ⟨rfl, HB.out⟩
      | false =>
        cases d4 : decide ((30 : Int) < n) with
        | true =>
          have HB := Aside0.mk (show Below w.heap.size w (w.alloc (.cells #[.int .i64 a0, .int .i64 a1, .int .u32 a2, .int .u32 a3, .int .i64 a4, .int .i64 a5, .int .i64 a6, .slice A l.length c] 25)) from (Below.refl _ _).alloc (Nat.le_refl _) _)
          clear hr hc hf hk hn
          go_enter Try.func4, Try.ntmps4
          go_wp2_with (go_at_call 5; (with_reducible refine (law_heads _).mono ?_); rintro e w1 ⟨rfl, hb⟩; replace HB := Aside0.mk (below_then HB.out HB.out.size hb); clear hb)
          go_ret
          exact ⟨rfl, HB.out⟩
        | false =>
          cases d5 : (a6 != 0) with
          | true =>
            have HB := Aside0.mk (show Below w.heap.size w (w.alloc (.cells #[.int .i64 a0, .int .i64 a1, .int .u32 a2, .int .u32 a3, .int .i64 a4, .int .i64 a5, .int .i64 a6, .slice A l.length c] 25)) from (Below.refl _ _).alloc (Nat.le_refl _) _)
            clear hr hc hf hk hn
            go_enter Try.func4, Try.ntmps4
            go_wp2_with (go_at_call 5; (with_reducible refine (law_heads _).mono ?_); rintro e w1 ⟨rfl, hb⟩; replace HB := Aside0.mk (below_then HB.out HB.out.size hb); clear hb)
            go_ret
            exact ⟨rfl, HB.out⟩
          | false =>
            simp only [decide_eq_false_iff_not, bne_eq_false_iff_eq] at d1 d2 d3 d4 d5
            subst d5
            obtain ⟨m, rfl⟩ := Int.eq_ofNat_of_zero_le (show 0 ≤ n by omega)
            cases hs : sameB a0 a1 a4 a5 with
            | true => exact law_SegOptions_good a0 a1 a2 a3 a4 a5 A c l kind m w hr hc hf (by omega) (by omega) (by omega) hs
            | false => exact law_SegOptions_bad a0 a1 a2 a3 a4 a5 A c l kind m w hr hc hf (by omega) (by omega) (by omega) hs

end Go.Proofs.Ytndkaffkdjaaoaa.H
