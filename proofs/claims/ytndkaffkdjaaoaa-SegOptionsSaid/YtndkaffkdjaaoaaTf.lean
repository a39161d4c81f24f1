/- Contract of seg.Get, in the print's form. -/
import Derived.Laws.BitsAllLaws
import Derived.Test.YtndkaffkdjaaoaaTe
namespace Go.Proofs.Ytndkaffkdjaaoaa.H
open Go.RowKit Go.Proofs.YtndkaffkdjaaoaaW.PrintWords Go.Proofs.YtndkaffkdjaaoaaW.PrintLast Go.Proofs.YtndkaffkdjaaoaaW.PrintMore Go.Proofs.Ytndkaffkdjaaoaa.QSeg
set_option linter.unusedVariables false
set_option linter.unusedSimpArgs false

set_option maxHeartbeats 6400000 in
set_option maxRecDepth 100000 in
theorem seg_Get_short (A : Option Addr) (c : Nat) (l : List Int) (s d : Int) (w : World) (hr : Kd.C (Kd.int .u8) w A l.length l) (hc : l.length ≤ c) (h : l.length < 20) :
    Calls Try.prog 8 #[.slice A l.length c, .int .u32 s, .int .u32 d] w fun e w' => e = .returned (.tuple #[.agg #[.int .i64 0, .int .i64 0, .int .u32 0, .int .u32 0, .int .i64 0, .int .i64 0, .int .i64 0, .slice none 0 0], .int .i64 160]) ∧ Below w.heap.size w w' := by
  have d1 : decide ((l.length : Int) < 20) = true := decide_eq_true (by omega)
  go_enter Try.func8, Try.ntmps8
  go_wp2
  refine bodyPost_ret (results_ct rfl _ _ (w.heap.size + 1) 25 #[.int .i64 0, .int .i64 0, .int .u32 0, .int .u32 0, .int .i64 0, .int .i64 0, .int .i64 0, .slice none 0 0] (0, 0) _ rfl (by have := heap_alloc_new (w.alloc (.cells #[.slice A l.length c] 23)) (.cells #[.int .i64 0, .int .i64 0, .int .u32 0, .int .u32 0, .int .i64 0, .int .i64 0, .int .i64 0, .slice none 0 0] 25); simpa using this) Try.underlying25 rfl (by kernel_rfl)) rfl ⟨rfl, ((Below.refl _ _).alloc (Nat.le_refl _) _).alloc (by simp) _⟩

/-- A struct of eight cells, stored whole. -/
theorem put8 {W : World} {g T : Nat} {c0 c1 c2 c3 c4 c5 c6 c7 : Value} (u0 u1 u2 u3 u4 u5 u6 u7 : Value) (h : W.heap[g]? = some (.cells #[c0, c1, c2, c3, c4, c5, c6, c7] T (0, 0))) :
    ((((((((W.setCell ⟨g, 0, none⟩ u0).setCell ⟨g, 1, none⟩ u1).setCell ⟨g, 2, none⟩ u2).setCell ⟨g, 3, none⟩ u3).setCell ⟨g, 4, none⟩ u4).setCell ⟨g, 5, none⟩ u5).setCell ⟨g, 6, none⟩ u6).setCell ⟨g, 7, none⟩ u7).heap[g]? = some (.cells #[u0, u1, u2, u3, u4, u5, u6, u7] T (0, 0)) := by
  have h0 := blk_put (cs' := #[u0, c1, c2, c3, c4, c5, c6, c7]) h 0 u0 rfl
  have h1 := blk_put (cs' := #[u0, u1, c2, c3, c4, c5, c6, c7]) h0 1 u1 rfl
  have h2 := blk_put (cs' := #[u0, u1, u2, c3, c4, c5, c6, c7]) h1 2 u2 rfl
  have h3 := blk_put (cs' := #[u0, u1, u2, u3, c4, c5, c6, c7]) h2 3 u3 rfl
  have h4 := blk_put (cs' := #[u0, u1, u2, u3, u4, c5, c6, c7]) h3 4 u4 rfl
  have h5 := blk_put (cs' := #[u0, u1, u2, u3, u4, u5, c6, c7]) h4 5 u5 rfl
  have h6 := blk_put (cs' := #[u0, u1, u2, u3, u4, u5, u6, c7]) h5 6 u6 rfl
  have h7 := blk_put (cs' := #[u0, u1, u2, u3, u4, u5, u6, u7]) h6 7 u7 rfl
  exact h7
theorem below_put8 {w W : World} {B g : Nat} (u0 u1 u2 u3 u4 u5 u6 u7 : Value) (h : Below B w W) (hg : B ≤ g) :
    Below B w ((((((((W.setCell ⟨g, 0, none⟩ u0).setCell ⟨g, 1, none⟩ u1).setCell ⟨g, 2, none⟩ u2).setCell ⟨g, 3, none⟩ u3).setCell ⟨g, 4, none⟩ u4).setCell ⟨g, 5, none⟩ u5).setCell ⟨g, 6, none⟩ u6).setCell ⟨g, 7, none⟩ u7) :=
  (((((((h.setCell (p := ⟨g, 0, none⟩) hg u0).setCell (p := ⟨g, 1, none⟩) hg u1).setCell (p := ⟨g, 2, none⟩) hg u2).setCell (p := ⟨g, 3, none⟩) hg u3).setCell (p := ⟨g, 4, none⟩) hg u4).setCell (p := ⟨g, 5, none⟩) hg u5).setCell (p := ⟨g, 6, none⟩) hg u6).setCell (p := ⟨g, 7, none⟩) hg u7
theorem cell_ix {w : World} {A : Option Addr} {l : List Int} (h : Kd.C (Kd.int .u8) w A l.length l) (i : Nat) (hp : i + 1 < l.length) : ∃ ad, A = some ad ∧ w.cell? ⟨ad.block, ad.off + (i + 1), none⟩ = some (.int .u8 (l.getD (i + 1) 0)) := by
  obtain ⟨ad, rfl, _⟩ := cell_first h (by omega)
  exact ⟨ad, rfl, cell_at h i hp⟩
set_option maxHeartbeats 6400000 in
set_option maxRecDepth 100000 in
theorem seg_Get_form (A : Option Addr) (c : Nat) (l : List Int) (s d : Int) (w : World) (hr : Kd.C (Kd.int .u8) w A l.length l) (hc : l.length ≤ c) (hb : Bytes l) (h : 20 ≤ l.length ∧ (65535 < l.length ∨ l.getD 12 0 / 16 * 4 < 20)) :
    Calls Try.prog 8 #[.slice A l.length c, .int .u32 s, .int .u32 d] w fun e w' => e = .returned (.tuple #[.agg #[.int .i64 0, .int .i64 0, .int .u32 0, .int .u32 0, .int .i64 0, .int .i64 0, .int .i64 0, .slice none 0 0], .int .i64 161]) ∧ Below w.heap.size w w' := by
  have d1 : decide ((l.length : Int) < 20) = false := decide_eq_false (by omega)
  obtain ⟨ad, rfl, hcl⟩ := cell_ix hr 11 (by omega)
  have hx := hb.getD 12
  have hlen : 12 < l.length := by omega
  have HH := Aside0.mk h
  clear h
  have HB := Aside0.mk hb
  have hcl2 : ((w.alloc (.cells #[.slice (some ad) l.length c] 23)).alloc (.cells #[.int .i64 0, .int .i64 0, .int .u32 0, .int .u32 0, .int .i64 0, .int .i64 0, .int .i64 0, .slice none 0 0] 25)).cell? ⟨ad.block, ad.off + 12, none⟩ = some (.int .u8 (l.getD 12 0)) := by
    rw [World.cell?_alloc_past _ _ _ (by have := World.block_lt_of_cell? w _ hcl; simp at this ⊢; omega), World.cell?_alloc_past _ _ _ (World.block_lt_of_cell? w _ hcl)]; exact hcl
  generalize l.getD 12 0 = x at *
  obtain ⟨hx0, hx1⟩ := hx
  by_cases h1 : 65535 < l.length
  · have d2 : decide ((65535 : Int) < (l.length : Int)) = true := decide_eq_true (by omega)
    go_enter Try.func8, Try.ntmps8
    go_wp2
    refine bodyPost_ret (results_ct rfl _ _ (w.heap.size + 1) 25 #[.int .i64 0, .int .i64 0, .int .u32 0, .int .u32 0, .int .i64 0, .int .i64 0, .int .i64 0, .slice none 0 0] (0, 0) _ rfl (by have := heap_alloc_new (w.alloc (.cells #[.slice (some ad) l.length c] 23)) (.cells #[.int .i64 0, .int .i64 0, .int .u32 0, .int .u32 0, .int .i64 0, .int .i64 0, .int .i64 0, .slice none 0 0] 25); simpa using this) Try.underlying25 rfl (by kernel_rfl)) rfl ⟨rfl, ((Below.refl _ _).alloc (Nat.le_refl _) _).alloc (by simp) _⟩
  · have d2 : decide ((65535 : Int) < (l.length : Int)) = false := decide_eq_false (by omega)
    have d3 : decide (x / 16 * 4 < 20) = true := decide_eq_true (by have := HH.out; omega)
    go_enter Try.func8, Try.ntmps8
    go_wp2
    refine bodyPost_ret (results_ct rfl _ _ (w.heap.size + 1) 25 #[.int .i64 0, .int .i64 0, .int .u32 0, .int .u32 0, .int .i64 0, .int .i64 0, .int .i64 0, .slice none 0 0] (0, 0) _ rfl (by have := heap_alloc_new (w.alloc (.cells #[.slice (some ad) l.length c] 23)) (.cells #[.int .i64 0, .int .i64 0, .int .u32 0, .int .u32 0, .int .i64 0, .int .i64 0, .int .i64 0, .slice none 0 0] 25); simpa using this) Try.underlying25 rfl (by kernel_rfl)) rfl ⟨rfl, ((Below.refl _ _).alloc (Nat.le_refl _) _).alloc (by simp) _⟩


set_option maxHeartbeats 6400000 in
set_option maxRecDepth 100000 in
theorem seg_Get_cut (A : Option Addr) (c : Nat) (l : List Int) (s d : Int) (w : World) (hr : Kd.C (Kd.int .u8) w A l.length l) (hc : l.length ≤ c) (hb : Bytes l) (h : 20 ≤ l.length ∧ l.length ≤ 65535 ∧ 20 ≤ l.getD 12 0 / 16 * 4) (hn : (l.length : Int) < l.getD 12 0 / 16 * 4) :
    Calls Try.prog 8 #[.slice A l.length c, .int .u32 s, .int .u32 d] w fun e w' => e = .returned (.tuple #[.agg #[.int .i64 0, .int .i64 0, .int .u32 0, .int .u32 0, .int .i64 0, .int .i64 0, .int .i64 0, .slice none 0 0], .int .i64 160]) ∧ Below w.heap.size w w' := by
  have d1 : decide ((l.length : Int) < 20) = false := decide_eq_false (by omega)
  obtain ⟨ad, rfl, hcl⟩ := cell_ix hr 11 (by omega)
  have hx := hb.getD 12
  have hlen : 12 < l.length := by omega
  have d2 : decide ((65535 : Int) < (l.length : Int)) = false := decide_eq_false (by omega)
  have d3 : decide (l.getD 12 0 / 16 * 4 < 20) = false := decide_eq_false (by omega)
  have hcl2 : ((w.alloc (.cells #[.slice (some ad) l.length c] 23)).alloc (.cells #[.int .i64 0, .int .i64 0, .int .u32 0, .int .u32 0, .int .i64 0, .int .i64 0, .int .i64 0, .slice none 0 0] 25)).cell? ⟨ad.block, ad.off + 12, none⟩ = some (.int .u8 (l.getD 12 0)) := by
    rw [World.cell?_alloc_past _ _ _ (by have := World.block_lt_of_cell? w _ hcl; simp at this ⊢; omega), World.cell?_alloc_past _ _ _ (World.block_lt_of_cell? w _ hcl)]; exact hcl
  have d4 : decide ((l.length : Int) < l.getD 12 0 / 16 * 4) = true := decide_eq_true hn
  generalize l.getD 12 0 = x at *
  obtain ⟨hx0, hx1⟩ := hx
  go_enter Try.func8, Try.ntmps8
  go_wp2
  refine bodyPost_ret (results_ct rfl _ _ (w.heap.size + 1) 25 #[.int .i64 0, .int .i64 0, .int .u32 0, .int .u32 0, .int .i64 0, .int .i64 0, .int .i64 0, .slice none 0 0] (0, 0) _ rfl (by have := heap_alloc_new (w.alloc (.cells #[.slice (some ad) l.length c] 23)) (.cells #[.int .i64 0, .int .i64 0, .int .u32 0, .int .u32 0, .int .i64 0, .int .i64 0, .int .i64 0, .slice none 0 0] 25); simpa using this) Try.underlying25 rfl (by kernel_rfl)) rfl ⟨rfl, ((Below.refl _ _).alloc (Nat.le_refl _) _).alloc (by simp) _⟩

set_option maxHeartbeats 6400000 in
set_option maxRecDepth 100000 in
theorem seg_Get_sum (A : Option Addr) (c : Nat) (l : List Int) (s d : Int) (w : World) (hr : Kd.C (Kd.int .u8) w A l.length l) (hc : l.length ≤ c) (hb : Bytes l) (hS : 0 ≤ s ∧ s < 4294967296) (hD : 0 ≤ d ∧ d < 4294967296) (h : 20 ≤ l.length ∧ l.length ≤ 65535 ∧ 20 ≤ l.getD 12 0 / 16 * 4 ∧ l.getD 12 0 / 16 * 4 ≤ (l.length : Int)) (hk : ¬ csum (pseudo s d 6 l.length ++ l) = 0) :
    Calls Try.prog 8 #[.slice A l.length c, .int .u32 s, .int .u32 d] w fun e w' => e = .returned (.tuple #[.agg #[.int .i64 0, .int .i64 0, .int .u32 0, .int .u32 0, .int .i64 0, .int .i64 0, .int .i64 0, .slice none 0 0], .int .i64 162]) ∧ Below w.heap.size w w' := by
  have d1 : decide ((l.length : Int) < 20) = false := decide_eq_false (by omega)
  obtain ⟨ad, rfl, hcl⟩ := cell_ix hr 11 (by omega)
  have hx := hb.getD 12
  have hlen : 12 < l.length := by omega
  have d2 : decide ((65535 : Int) < (l.length : Int)) = false := decide_eq_false (by omega)
  have d3 : decide (l.getD 12 0 / 16 * 4 < 20) = false := decide_eq_false (by omega)
  have hcl2 : ((w.alloc (.cells #[.slice (some ad) l.length c] 23)).alloc (.cells #[.int .i64 0, .int .i64 0, .int .u32 0, .int .u32 0, .int .i64 0, .int .i64 0, .int .i64 0, .slice none 0 0] 25)).cell? ⟨ad.block, ad.off + 12, none⟩ = some (.int .u8 (l.getD 12 0)) := by
    rw [World.cell?_alloc_past _ _ _ (by have := World.block_lt_of_cell? w _ hcl; simp at this ⊢; omega), World.cell?_alloc_past _ _ _ (World.block_lt_of_cell? w _ hcl)]; exact hcl
  have d4 : decide ((l.length : Int) < l.getD 12 0 / 16 * 4) = false := decide_eq_false (by omega)
  have hcov := seg_covered_f l s d hS hD (by omega)
  have hrt : sum_Right.f (pseudo s d 6 l.length ++ l) = some (csum (pseudo s d 6 l.length ++ l) == 0) := by
    unfold sum_Right.f sum_Sum.f
    rw [if_pos ⟨(pseudo_bytes _ _ _ _).append hb, by rw [List.length_append, pseudo_length]; omega⟩]
    rfl
  have hB0 := Aside0.mk (show Below w.heap.size w ((w.alloc (.cells #[.slice (some ad) l.length c] 23)).alloc (.cells #[.int .i64 0, .int .i64 0, .int .u32 0, .int .u32 0, .int .i64 0, .int .i64 0, .int .i64 0, .slice none 0 0] 25)) from ((Below.refl _ _).alloc (Nat.le_refl _) _).alloc (by simp) _)
  have hZ0 := Aside0.mk (show ((w.alloc (.cells #[.slice (some ad) l.length c] 23)).alloc (.cells #[.int .i64 0, .int .i64 0, .int .u32 0, .int .u32 0, .int .i64 0, .int .i64 0, .int .i64 0, .slice none 0 0] 25)).heap[w.heap.size + 1]? = some (.cells #[.int .i64 0, .int .i64 0, .int .u32 0, .int .u32 0, .int .i64 0, .int .i64 0, .int .i64 0, .slice none 0 0] 25 (0, 0)) from by have := heap_alloc_new (w.alloc (.cells #[.slice (some ad) l.length c] 23)) (.cells #[.int .i64 0, .int .i64 0, .int .u32 0, .int .u32 0, .int .i64 0, .int .i64 0, .int .i64 0, .slice none 0 0] 25); simpa using this)
  have hX0 := Aside0.mk (show ((w.alloc (.cells #[.slice (some ad) l.length c] 23)).alloc (.cells #[.int .i64 0, .int .i64 0, .int .u32 0, .int .u32 0, .int .i64 0, .int .i64 0, .int .i64 0, .slice none 0 0] 25)).heap[w.heap.size]? = some (.cells #[.slice (some ad) l.length c] 23 (0, 0)) from blk_alloc (blk_new w _) _)
  have HCV := Aside0.mk (seg_covered.calls (some ad) c l s d _ ((w.alloc (.cells #[.slice (some ad) l.length c] 23)).alloc (.cells #[.int .i64 0, .int .i64 0, .int .u32 0, .int .u32 0, .int .i64 0, .int .i64 0, .int .i64 0, .slice none 0 0] 25)) (Kd.C_alloc (Kd.C_alloc hr _) _) hc hcov)
  generalize pseudo s d 6 l.length ++ l = cov at *
  rw [show (csum cov == 0) = false from beq_eq_false_iff_ne.2 hk] at hrt
  have HRT := Aside0.mk hrt
  clear hrt hk hcov
  generalize l.getD 12 0 = x at *
  obtain ⟨hx0, hx1⟩ := hx
  go_enter Try.func8, Try.ntmps8
  go_wp2_with (first | (go_at_call 24; (with_reducible refine HCV.out.mono ?_); rintro e w3 ⟨v3, rfl, ho, hb3⟩; obtain ⟨A3, c3, e3⟩ := Kd.R_slice ho; subst e3; have HR3 := Aside0.mk ho; have HB3 := Aside0.mk (below_then hB0.out hB0.out.size hb3); have hZ3 := Aside0.mk (blk_below hZ0.out hb3); have hX3 := Aside0.mk (blk_below hX0.out hb3); clear ho hb3) | (go_at_call 29; (with_reducible refine (sum_Right.calls A3 c3 cov _ _ (Kd.R_reads' HR3.out).2.2 (Kd.R_reads' HR3.out).2.1 HRT.out).mono ?_); rintro e w4 ⟨rfl, hb4⟩; have HB4 := Aside0.mk (below_then HB3.out HB3.out.size hb4); have hZ4 := Aside0.mk (blk_below hZ3.out hb4); have hX4 := Aside0.mk (blk_below hX3.out hb4); have x0 := (blk_cell hX4.out 0).trans rfl; have z0 := (blk_cell hZ4.out 0).trans rfl; have f0 := blk_frozen hZ4.out 0; have z1 := (blk_cell hZ4.out 1).trans rfl; have f1 := blk_frozen hZ4.out 1; have z2 := (blk_cell hZ4.out 2).trans rfl; have f2 := blk_frozen hZ4.out 2; have z3 := (blk_cell hZ4.out 3).trans rfl; have f3 := blk_frozen hZ4.out 3; have z4 := (blk_cell hZ4.out 4).trans rfl; have f4 := blk_frozen hZ4.out 4; have z5 := (blk_cell hZ4.out 5).trans rfl; have f5 := blk_frozen hZ4.out 5; have z6 := (blk_cell hZ4.out 6).trans rfl; have f6 := blk_frozen hZ4.out 6; have z7 := (blk_cell hZ4.out 7).trans rfl; have f7 := blk_frozen hZ4.out 7; clear hb4))
  refine bodyPost_ret (results_ct rfl _ _ (w.heap.size + 1) 25 #[.int .i64 0, .int .i64 0, .int .u32 0, .int .u32 0, .int .i64 0, .int .i64 0, .int .i64 0, .slice none 0 0] (0, 0) _ rfl (put8 _ _ _ _ _ _ _ _ hZ4.out) Try.underlying25 rfl (by kernel_rfl)) rfl ⟨rfl, below_put8 _ _ _ _ _ _ _ _ HB4.out (by omega)⟩


/-- What n bytes from a place on say. -/
def fld (l : List Int) (p n : Nat) : Int := beV ((l.take (p + n)).drop p)
theorem fld_range (l : List Int) (p n : Nat) (hb : Bytes l) (h : p + n ≤ l.length) : 0 ≤ fld l p n ∧ fld l p n < 256 ^ n := by
  have := beV_range ((l.take (p + n)).drop p) ((hb.take _).drop _)
  rw [List.length_drop, List.length_take, show min (p + n) l.length - p = n by omega] at this
  exact this

set_option maxHeartbeats 1600000 in
set_option maxRecDepth 100000 in
/-- 'num(at, n)': n bytes from a place on. -/
theorem seg_Get_num (p n : Nat) (zp zn : Int) (hzp : zp = p) (hzn : zn = n) (g c : Nat) (A : Option Addr) (l : List Int) (w : World) (hx : w.cell? ⟨g, 0, none⟩ = some (.slice A l.length c)) (hr : Kd.C (Kd.int .u8) w A l.length l) (hc : l.length ≤ c) (hb : Bytes l) (hpn : p + n ≤ l.length) (hp : p ≤ 20) (hn : n ≤ 8) :
    Calls Try.prog 31 #[.int .i64 zp, .int .i64 zn, .pointer (some ⟨g, 0, none⟩)] w fun e w' => e = .returned (.int .u64 (fld l p n)) ∧ w = w' := by
  unfold fld
  obtain ⟨A1, hs, hr1, hl1, hc1⟩ := cut_mid A c l p (p + n) zp (zp + zn) hzp (by omega) (by omega) hpn hc
  have HV := Aside0.mk (bits_Get_walk A1 (c - p) ((l.take (p + n)).drop p) w (hr1 _ hr) (by rw [hl1]; exact hc1) ((hb.take _).drop _) (by rw [hl1]; omega))
  rw [hl1] at HV
  rw [Nat.add_sub_cancel_left] at HV hs
  have b0 : 0 ≤ zp := by omega
  have b1 : zp ≤ 20 := by omega
  have b2 : 0 ≤ zn := by omega
  have b3 : zn ≤ 8 := by omega
  clear hzp hzn hl1 hc1 hr1
  go_enter Try.func31, Try.ntmps31
  go_wp2_with (go_at_call 32; (with_reducible refine HV.out.mono ?_); rintro e w' ⟨rfl, rfl⟩)
  go_ret
  exact ⟨rfl, rfl⟩

set_option maxHeartbeats 6400000 in
set_option maxRecDepth 100000 in
theorem seg_Get_opts (A : Option Addr) (c : Nat) (l : List Int) (s d : Int) (w : World) (hr : Kd.C (Kd.int .u8) w A l.length l) (hc : l.length ≤ c) (hb : Bytes l) (hS : 0 ≤ s ∧ s < 4294967296) (hD : 0 ≤ d ∧ d < 4294967296) (h : 20 ≤ l.length ∧ l.length ≤ 65535 ∧ 20 ≤ l.getD 12 0 / 16 * 4 ∧ l.getD 12 0 / 16 * 4 ≤ (l.length : Int)) (hk : csum (pseudo s d 6 l.length ++ l) = 0) (hm : (mssO ((l.take (l.getD 12 0 / 16 * 4).toNat).drop 20)).2 = false) :
    Calls Try.prog 8 #[.slice A l.length c, .int .u32 s, .int .u32 d] w fun e w' => e = .returned (.tuple #[.agg #[.int .i64 0, .int .i64 0, .int .u32 0, .int .u32 0, .int .i64 0, .int .i64 0, .int .i64 0, .slice none 0 0], .int .i64 161]) ∧ Below w.heap.size w w' := by
  have d1 : decide ((l.length : Int) < 20) = false := decide_eq_false (by omega)
  obtain ⟨ad, rfl, hcl⟩ := cell_ix hr 11 (by omega)
  have hx := hb.getD 12
  have hlen : 12 < l.length := by omega
  have d2 : decide ((65535 : Int) < (l.length : Int)) = false := decide_eq_false (by omega)
  have d3 : decide (l.getD 12 0 / 16 * 4 < 20) = false := decide_eq_false (by omega)
  have hcl2 : ((w.alloc (.cells #[.slice (some ad) l.length c] 23)).alloc (.cells #[.int .i64 0, .int .i64 0, .int .u32 0, .int .u32 0, .int .i64 0, .int .i64 0, .int .i64 0, .slice none 0 0] 25)).cell? ⟨ad.block, ad.off + 12, none⟩ = some (.int .u8 (l.getD 12 0)) := by
    rw [World.cell?_alloc_past _ _ _ (by have := World.block_lt_of_cell? w _ hcl; simp at this ⊢; omega), World.cell?_alloc_past _ _ _ (World.block_lt_of_cell? w _ hcl)]; exact hcl
  have d4 : decide ((l.length : Int) < l.getD 12 0 / 16 * 4) = false := decide_eq_false (by omega)
  have hcov := seg_covered_f l s d hS hD (by omega)
  have hrt : sum_Right.f (pseudo s d 6 l.length ++ l) = some (csum (pseudo s d 6 l.length ++ l) == 0) := by
    unfold sum_Right.f sum_Sum.f
    rw [if_pos ⟨(pseudo_bytes _ _ _ _).append hb, by rw [List.length_append, pseudo_length]; omega⟩]
    rfl
  have hB0 := Aside0.mk (show Below w.heap.size w ((w.alloc (.cells #[.slice (some ad) l.length c] 23)).alloc (.cells #[.int .i64 0, .int .i64 0, .int .u32 0, .int .u32 0, .int .i64 0, .int .i64 0, .int .i64 0, .slice none 0 0] 25)) from ((Below.refl _ _).alloc (Nat.le_refl _) _).alloc (by simp) _)
  have hZ0 := Aside0.mk (show ((w.alloc (.cells #[.slice (some ad) l.length c] 23)).alloc (.cells #[.int .i64 0, .int .i64 0, .int .u32 0, .int .u32 0, .int .i64 0, .int .i64 0, .int .i64 0, .slice none 0 0] 25)).heap[w.heap.size + 1]? = some (.cells #[.int .i64 0, .int .i64 0, .int .u32 0, .int .u32 0, .int .i64 0, .int .i64 0, .int .i64 0, .slice none 0 0] 25 (0, 0)) from by have := heap_alloc_new (w.alloc (.cells #[.slice (some ad) l.length c] 23)) (.cells #[.int .i64 0, .int .i64 0, .int .u32 0, .int .u32 0, .int .i64 0, .int .i64 0, .int .i64 0, .slice none 0 0] 25); simpa using this)
  have hX0 := Aside0.mk (show ((w.alloc (.cells #[.slice (some ad) l.length c] 23)).alloc (.cells #[.int .i64 0, .int .i64 0, .int .u32 0, .int .u32 0, .int .i64 0, .int .i64 0, .int .i64 0, .slice none 0 0] 25)).heap[w.heap.size]? = some (.cells #[.slice (some ad) l.length c] 23 (0, 0)) from blk_alloc (blk_new w _) _)
  have HCV := Aside0.mk (seg_covered.calls (some ad) c l s d _ ((w.alloc (.cells #[.slice (some ad) l.length c] 23)).alloc (.cells #[.int .i64 0, .int .i64 0, .int .u32 0, .int .u32 0, .int .i64 0, .int .i64 0, .int .i64 0, .slice none 0 0] 25)) (Kd.C_alloc (Kd.C_alloc hr _) _) hc hcov)
  generalize pseudo s d 6 l.length ++ l = cov at *
  obtain ⟨n, hn⟩ : ∃ n : Nat, l.getD 12 0 / 16 * 4 = n := ⟨(l.getD 12 0 / 16 * 4).toNat, by omega⟩
  obtain ⟨A5, hs5, hr5, hl5, hc5⟩ := cut_mid (some ad) c l 20 n 20 (l.getD 12 0 / 16 * 4) rfl hn (by omega) (by omega) hc
  have HMS := Aside0.mk (fun (W : World) (hW : Kd.C (Kd.int .u8) W (some ad) l.length l) => show Calls Try.prog 30 #[.slice A5 (n - 20) (c - 20)] W (fun e w' => e = .returned (.tuple #[.int .i64 (mssO ((l.take n).drop 20)).1, .bool (mssO ((l.take n).drop 20)).2]) ∧ W = w') from by
    have := seg_mss_walk A5 (c - 20) ((l.take n).drop 20) W (hr5 W hW) (by rw [hl5]; exact hc5) ((hb.take _).drop _)
    rwa [hl5] at this)
  have HR := Aside0.mk hr
  rw [show (csum cov == 0) = true from beq_iff_eq.2 hk] at hrt
  have HRT := Aside0.mk hrt
  rw [hn, Int.toNat_natCast] at hm
  rw [hm] at HMS
  clear hrt hk hcov hr5 hl5 hc5 hm hn
  generalize l.getD 12 0 = x at *
  obtain ⟨hx0, hx1⟩ := hx
  go_enter Try.func8, Try.ntmps8
  go_wp2_with (first | (go_at_call 24; (with_reducible refine HCV.out.mono ?_); rintro e w3 ⟨v3, rfl, ho, hb3⟩; obtain ⟨A3, c3, e3⟩ := Kd.R_slice ho; subst e3; have HR3 := Aside0.mk ho; have HB3 := Aside0.mk (below_then hB0.out hB0.out.size hb3); have hZ3 := Aside0.mk (blk_below hZ0.out hb3); have hX3 := Aside0.mk (blk_below hX0.out hb3); clear ho hb3) | (go_at_call 29; (with_reducible refine (sum_Right.calls A3 c3 cov _ _ (Kd.R_reads' HR3.out).2.2 (Kd.R_reads' HR3.out).2.1 HRT.out).mono ?_); rintro e w4 ⟨rfl, hb4⟩; have HB4 := Aside0.mk (below_then HB3.out HB3.out.size hb4); have hZ4 := Aside0.mk (blk_below hZ3.out hb4); have hX4 := Aside0.mk (blk_below hX3.out hb4); have x0 := (blk_cell hX4.out 0).trans rfl; have z0 := (blk_cell hZ4.out 0).trans rfl; have f0 := blk_frozen hZ4.out 0; have z1 := (blk_cell hZ4.out 1).trans rfl; have f1 := blk_frozen hZ4.out 1; have z2 := (blk_cell hZ4.out 2).trans rfl; have f2 := blk_frozen hZ4.out 2; have z3 := (blk_cell hZ4.out 3).trans rfl; have f3 := blk_frozen hZ4.out 3; have z4 := (blk_cell hZ4.out 4).trans rfl; have f4 := blk_frozen hZ4.out 4; have z5 := (blk_cell hZ4.out 5).trans rfl; have f5 := blk_frozen hZ4.out 5; have z6 := (blk_cell hZ4.out 6).trans rfl; have f6 := blk_frozen hZ4.out 6; have z7 := (blk_cell hZ4.out 7).trans rfl; have f7 := blk_frozen hZ4.out 7; clear hb4) | (go_at_call 30; (with_reducible refine (HMS.out _ (Kd.C_below HR.out HB4.out)).mono ?_); rintro e w5 ⟨rfl, rfl⟩))
  refine bodyPost_ret (results_ct rfl _ _ (w.heap.size + 1) 25 #[.int .i64 0, .int .i64 0, .int .u32 0, .int .u32 0, .int .i64 0, .int .i64 0, .int .i64 0, .slice none 0 0] (0, 0) _ rfl (put8 _ _ _ _ _ _ _ _ hZ4.out) Try.underlying25 rfl (by kernel_rfl)) rfl ⟨rfl, below_put8 _ _ _ _ _ _ _ _ HB4.out (by omega)⟩

theorem get_kept {W W' : World} {a b : Addr} {u v : Value} (h : W.cell? a = some u ∧ W.cell? b = some v) (hb : Below W.heap.size W W') : W'.cell? a = some u ∧ W'.cell? b = some v :=
  ⟨(hb.cell (World.block_lt_of_cell? _ _ h.1)).trans h.1, (hb.cell (World.block_lt_of_cell? _ _ h.2)).trans h.2⟩
theorem get_kept2 {W W' : World} {a b : Addr} {u v : Value} {B : Nat} (h : W.cell? a = some u ∧ W.cell? b = some v) (ha : a.block < B) (hb : b.block < B) (hw : Below B W W') : W'.cell? a = some u ∧ W'.cell? b = some v :=
  ⟨(hw.cell ha).trans h.1, (hw.cell hb).trans h.2⟩
theorem get_kept_alloc {W : World} {a b : Addr} {u v : Value} (h : W.cell? a = some u ∧ W.cell? b = some v) (o : Obj) : (W.alloc o).cell? a = some u ∧ (W.alloc o).cell? b = some v :=
  get_kept h ((Below.refl _ _).alloc (Nat.le_refl _) _)
theorem get_kept_put8 {W : World} {a b : Addr} {u v : Value} {g : Nat} (h : W.cell? a = some u ∧ W.cell? b = some v) (hw : a.block < g ∧ b.block < g) (u0 u1 u2 u3 u4 u5 u6 u7 : Value) :
    ((((((((W.setCell ⟨g, 0, none⟩ u0).setCell ⟨g, 1, none⟩ u1).setCell ⟨g, 2, none⟩ u2).setCell ⟨g, 3, none⟩ u3).setCell ⟨g, 4, none⟩ u4).setCell ⟨g, 5, none⟩ u5).setCell ⟨g, 6, none⟩ u6).setCell ⟨g, 7, none⟩ u7).cell? a = some u ∧
      ((((((((W.setCell ⟨g, 0, none⟩ u0).setCell ⟨g, 1, none⟩ u1).setCell ⟨g, 2, none⟩ u2).setCell ⟨g, 3, none⟩ u3).setCell ⟨g, 4, none⟩ u4).setCell ⟨g, 5, none⟩ u5).setCell ⟨g, 6, none⟩ u6).setCell ⟨g, 7, none⟩ u7).cell? b = some v :=
  get_kept2 h hw.1 hw.2 (below_put8 _ _ _ _ _ _ _ _ (Below.refl _ _) (Nat.le_refl _))
theorem u32_w (x : Int) : IntKind.u32.wrap x = x % 4294967296 := by simp [IntKind.wrap, IntKind.bits, IntKind.signed]
theorem u8_and63 (x : Int) (h0 : 0 ≤ x) (h1 : x < 256) : bits .and .u8 x 63 = x % 64 := by
  have h := bits_mask .u8 8 (by decide) wraps_u8 6 (by decide) x h0 (by omega)
  exact h
/-- The world behind 's := head{..}.seg()': the new box g, both elder boxes. -/
theorem get_end_alloc {w w4 w6 : World} {B : Nat} {o oz ox : Obj} (h4 : Below B w w4) (hB : B ≤ w4.heap.size) (h6 : Below w4.drew.heap.size w4.drew w6) {g0 g1 : Nat} (hz : w4.heap[g1]? = some oz) (hx : w4.heap[g0]? = some ox) :
    g1 < w6.heap.size ∧ (w6.alloc o).heap[w6.heap.size]? = some o ∧ (w6.alloc o).heap[g1]? = some oz ∧ (w6.alloc o).heap[g0]? = some ox ∧ Below B w (w6.alloc o) := by
  have hz6 := blk_below (w := w4.drew) hz h6
  have hx6 := blk_below (w := w4.drew) hx h6
  have hb := below_then (below_drew h4) hB h6
  exact ⟨blk_lt hz6, heap_alloc_new w6 o, blk_alloc hz6 o, blk_alloc hx6 o, hb.alloc (Nat.le_trans hB h6.size) o⟩
theorem get_end_put {w w4 w6 : World} {B T : Nat} {o : Obj} {c0 c1 c2 c3 c4 c5 c6 c7 : Value} (u0 u1 u2 u3 u4 u5 u6 u7 : Value) (h4 : Below B w w4) (hB : B ≤ w4.heap.size) (h6 : Below (w4.alloc o).drew.heap.size (w4.alloc o).drew w6) (hg : w6.heap[w4.heap.size]? = some (.cells #[c0, c1, c2, c3, c4, c5, c6, c7] T (0, 0))) {g0 g1 : Nat} (hz : w4.heap[g1]? = some (.cells #[.int .i64 0, .int .i64 0, .int .u32 0, .int .u32 0, .int .i64 0, .int .i64 0, .int .i64 0, .slice none 0 0] T (0, 0))) {cx : Array Value} {tx : TypeId} (hx : w4.heap[g0]? = some (.cells cx tx (0, 0))) :
    g1 < w4.heap.size ∧ ((((((((w6.setCell ⟨w4.heap.size, 0, none⟩ u0).setCell ⟨w4.heap.size, 1, none⟩ u1).setCell ⟨w4.heap.size, 2, none⟩ u2).setCell ⟨w4.heap.size, 3, none⟩ u3).setCell ⟨w4.heap.size, 4, none⟩ u4).setCell ⟨w4.heap.size, 5, none⟩ u5).setCell ⟨w4.heap.size, 6, none⟩ u6).setCell ⟨w4.heap.size, 7, none⟩ u7).heap[w4.heap.size]? = some (.cells #[u0, u1, u2, u3, u4, u5, u6, u7] T (0, 0)) ∧
      ((((((((w6.setCell ⟨w4.heap.size, 0, none⟩ u0).setCell ⟨w4.heap.size, 1, none⟩ u1).setCell ⟨w4.heap.size, 2, none⟩ u2).setCell ⟨w4.heap.size, 3, none⟩ u3).setCell ⟨w4.heap.size, 4, none⟩ u4).setCell ⟨w4.heap.size, 5, none⟩ u5).setCell ⟨w4.heap.size, 6, none⟩ u6).setCell ⟨w4.heap.size, 7, none⟩ u7).heap[g1]? = some (.cells #[.int .i64 0, .int .i64 0, .int .u32 0, .int .u32 0, .int .i64 0, .int .i64 0, .int .i64 0, .slice none 0 0] T (0, 0)) ∧
      ((((((((w6.setCell ⟨w4.heap.size, 0, none⟩ u0).setCell ⟨w4.heap.size, 1, none⟩ u1).setCell ⟨w4.heap.size, 2, none⟩ u2).setCell ⟨w4.heap.size, 3, none⟩ u3).setCell ⟨w4.heap.size, 4, none⟩ u4).setCell ⟨w4.heap.size, 5, none⟩ u5).setCell ⟨w4.heap.size, 6, none⟩ u6).setCell ⟨w4.heap.size, 7, none⟩ u7).heap[g0]? = some (.cells cx tx (0, 0)) ∧
      Below B w ((((((((w6.setCell ⟨w4.heap.size, 0, none⟩ u0).setCell ⟨w4.heap.size, 1, none⟩ u1).setCell ⟨w4.heap.size, 2, none⟩ u2).setCell ⟨w4.heap.size, 3, none⟩ u3).setCell ⟨w4.heap.size, 4, none⟩ u4).setCell ⟨w4.heap.size, 5, none⟩ u5).setCell ⟨w4.heap.size, 6, none⟩ u6).setCell ⟨w4.heap.size, 7, none⟩ u7) := by
  have hz6 := blk_below (w := (w4.alloc o).drew) (blk_alloc hz o) h6
  have hx6 := blk_below (w := (w4.alloc o).drew) (blk_alloc hx o) h6
  have hb : Below B w w6 := below_then (below_drew (h4.alloc hB o)) (Nat.le_trans hB (by show w4.heap.size ≤ (w4.alloc o).heap.size; simp)) h6
  have lz := blk_lt hz
  have lx := blk_lt hx
  have k8 := below_put8 (g := w4.heap.size) (B := w4.heap.size) u0 u1 u2 u3 u4 u5 u6 u7 (Below.refl _ w6) (Nat.le_refl _)
  exact ⟨lz, put8 _ _ _ _ _ _ _ _ hg, (k8.block _ lz).trans hz6, (k8.block _ lx).trans hx6, below_put8 _ _ _ _ _ _ _ _ hb hB⟩
/-- What holds behind 's := head{..}.seg()': the new box with its cells, the elder boxes as they were. -/
def GetRel (T Tx : TypeId) (w : World) (X u0 u1 u2 u3 u4 u5 u6 : Value) (v : Value) (wc : World) : Prop :=
  ∃ g : Nat, ∃ u7 : Value, v = .pointer (some ⟨g, 0, none⟩) ∧ Aside0 (w.heap.size + 1 < g) ∧ Aside0 (wc.heap[g]? = some (.cells #[u0, u1, u2, u3, u4, u5, u6, u7] T (0, 0))) ∧
    Aside0 (wc.heap[w.heap.size + 1]? = some (.cells #[.int .i64 0, .int .i64 0, .int .u32 0, .int .u32 0, .int .i64 0, .int .i64 0, .int .i64 0, .slice none 0 0] T (0, 0))) ∧ Aside0 (wc.heap[w.heap.size]? = some (.cells #[X] Tx (0, 0))) ∧ Aside0 (Below w.heap.size w wc)
theorem GetRel.alloc {T Tx : TypeId} {w w4 w6 : World} {X u0 u1 u2 u3 u4 u5 u6 u7 : Value} (h4 : Aside0 (Below w.heap.size w w4)) (h6 : Aside0 (Below w4.drew.heap.size w4.drew w6)) (hz : Aside0 (w4.heap[w.heap.size + 1]? = some (.cells #[.int .i64 0, .int .i64 0, .int .u32 0, .int .u32 0, .int .i64 0, .int .i64 0, .int .i64 0, .slice none 0 0] T (0, 0)))) (hx : Aside0 (w4.heap[w.heap.size]? = some (.cells #[X] Tx (0, 0)))) :
    GetRel T Tx w X u0 u1 u2 u3 u4 u5 u6 (.pointer (some ⟨w6.heap.size, 0, none⟩)) (w6.alloc (.cells #[u0, u1, u2, u3, u4, u5, u6, u7] T (0, 0))) := by
  have hE := get_end_alloc (o := .cells #[u0, u1, u2, u3, u4, u5, u6, u7] T (0, 0)) h4.out h4.out.size h6.out hz.out hx.out
  exact ⟨w6.heap.size, u7, rfl, ⟨hE.1⟩, ⟨hE.2.1⟩, ⟨hE.2.2.1⟩, ⟨hE.2.2.2.1⟩, ⟨hE.2.2.2.2⟩⟩
theorem GetRel.put {T Tx : TypeId} {w w4 w6 : World} {X u0 u1 u2 u3 u4 u5 u6 u7 : Value} {o : Obj} {c0 c1 c2 c3 c4 c5 c6 c7 : Value} (h4 : Aside0 (Below w.heap.size w w4)) (h6 : Aside0 (Below (w4.alloc o).drew.heap.size (w4.alloc o).drew w6)) (hg : Aside0 (w6.heap[w4.heap.size]? = some (.cells #[c0, c1, c2, c3, c4, c5, c6, c7] T (0, 0)))) (hz : Aside0 (w4.heap[w.heap.size + 1]? = some (.cells #[.int .i64 0, .int .i64 0, .int .u32 0, .int .u32 0, .int .i64 0, .int .i64 0, .int .i64 0, .slice none 0 0] T (0, 0)))) (hx : Aside0 (w4.heap[w.heap.size]? = some (.cells #[X] Tx (0, 0)))) :
    GetRel T Tx w X u0 u1 u2 u3 u4 u5 u6 (.pointer (some ⟨w4.heap.size, 0, none⟩)) ((((((((w6.setCell ⟨w4.heap.size, 0, none⟩ u0).setCell ⟨w4.heap.size, 1, none⟩ u1).setCell ⟨w4.heap.size, 2, none⟩ u2).setCell ⟨w4.heap.size, 3, none⟩ u3).setCell ⟨w4.heap.size, 4, none⟩ u4).setCell ⟨w4.heap.size, 5, none⟩ u5).setCell ⟨w4.heap.size, 6, none⟩ u6).setCell ⟨w4.heap.size, 7, none⟩ u7) := by
  have hE := get_end_put u0 u1 u2 u3 u4 u5 u6 u7 h4.out h4.out.size h6.out hg.out hz.out hx.out
  exact ⟨w4.heap.size, u7, rfl, ⟨hE.1⟩, ⟨hE.2.1⟩, ⟨hE.2.2.1⟩, ⟨hE.2.2.2.1⟩, ⟨hE.2.2.2.2⟩⟩
theorem R_put8 {W : World} {e g T base : Nat} {ok : Nat → Prop} {v : Value} {xs : List Int} {c0 c1 c2 c3 c4 c5 c6 c7 : Value} (hv : Kd.R (Kd.int .u8) e W base ok v xs) (h : W.heap[g]? = some (.cells #[c0, c1, c2, c3, c4, c5, c6, c7] T (0, 0))) (ht : ∀ q, q ∈ e :: (Kd.int .u8).E → q ≠ T) (u0 u1 u2 u3 u4 u5 u6 u7 : Value) :
    Kd.R (Kd.int .u8) e ((((((((W.setCell ⟨g, 0, none⟩ u0).setCell ⟨g, 1, none⟩ u1).setCell ⟨g, 2, none⟩ u2).setCell ⟨g, 3, none⟩ u3).setCell ⟨g, 4, none⟩ u4).setCell ⟨g, 5, none⟩ u5).setCell ⟨g, 6, none⟩ u6).setCell ⟨g, 7, none⟩ u7) base ok v xs := by
  have h0 := blk_put (cs' := #[u0, c1, c2, c3, c4, c5, c6, c7]) h 0 u0 rfl
  have h1 := blk_put (cs' := #[u0, u1, c2, c3, c4, c5, c6, c7]) h0 1 u1 rfl
  have h2 := blk_put (cs' := #[u0, u1, u2, c3, c4, c5, c6, c7]) h1 2 u2 rfl
  have h3 := blk_put (cs' := #[u0, u1, u2, u3, c4, c5, c6, c7]) h2 3 u3 rfl
  have h4 := blk_put (cs' := #[u0, u1, u2, u3, u4, c5, c6, c7]) h3 4 u4 rfl
  have h5 := blk_put (cs' := #[u0, u1, u2, u3, u4, u5, c6, c7]) h4 5 u5 rfl
  have h6 := blk_put (cs' := #[u0, u1, u2, u3, u4, u5, u6, c7]) h5 6 u6 rfl
  exact Kd.R_set (Kd.R_set (Kd.R_set (Kd.R_set (Kd.R_set (Kd.R_set (Kd.R_set (Kd.R_set hv h ht 0 u0) h0 ht 1 u1) h1 ht 2 u2) h2 ht 3 u3) h3 ht 4 u4) h4 ht 5 u5) h5 ht 6 u6) h6 ht 7 u7

end Go.Proofs.Ytndkaffkdjaaoaa.H
/- seg.Get of a right segment. -/
namespace Go.Proofs.Ytndkaffkdjaaoaa.H
open Go.RowKit Go.Proofs.YtndkaffkdjaaoaaW.PrintWords Go.Proofs.YtndkaffkdjaaoaaW.PrintLast Go.Proofs.YtndkaffkdjaaoaaW.PrintMore Go.Proofs.Ytndkaffkdjaaoaa.QSeg
set_option linter.unusedVariables false
set_option linter.unusedSimpArgs false

set_option maxHeartbeats 12800000 in
set_option maxRecDepth 100000 in
theorem seg_Get_good (A : Option Addr) (c : Nat) (l : List Int) (s d : Int) (w : World) (hr : Kd.C (Kd.int .u8) w A l.length l) (hc : l.length ≤ c) (hb : Bytes l) (hS : 0 ≤ s ∧ s < 4294967296) (hD : 0 ≤ d ∧ d < 4294967296) (h : 20 ≤ l.length ∧ l.length ≤ 65535 ∧ 20 ≤ l.getD 12 0 / 16 * 4 ∧ l.getD 12 0 / 16 * 4 ≤ (l.length : Int)) (hk : csum (pseudo s d 6 l.length ++ l) = 0) (hm : (mssO ((l.take (l.getD 12 0 / 16 * 4).toNat).drop 20)).2 = true) (hl : l.length < 140737488355328) :
    Calls Try.prog 8 #[.slice A l.length c, .int .u32 s, .int .u32 d] w fun e w' => ∃ v7_ : Value, e = .returned (.tuple #[.agg #[.int .i64 (fld l 0 2), .int .i64 (fld l 2 2), .int .u32 (fld l 4 4), .int .u32 (fld l 8 4), .int .i64 (l.getD 13 0 % 64), .int .i64 (fld l 14 2), .int .i64 (mssO ((l.take (l.getD 12 0 / 16 * 4).toNat).drop 20)).1, v7_], .int .i64 0]) ∧
      Kd.R (Kd.int .u8) 5 w' w.heap.size (fun _ => True) v7_ (l.drop (l.getD 12 0 / 16 * 4).toNat) ∧ Below w.heap.size w w' := by
  have d1 : decide ((l.length : Int) < 20) = false := decide_eq_false (by omega)
  obtain ⟨ad, rfl, hcl⟩ := cell_ix hr 11 (by omega)
  have hx := hb.getD 12
  have hlen : 12 < l.length := by omega
  have d2 : decide ((65535 : Int) < (l.length : Int)) = false := decide_eq_false (by omega)
  have d3 : decide (l.getD 12 0 / 16 * 4 < 20) = false := decide_eq_false (by omega)
  have hcl2 : ((w.alloc (.cells #[.slice (some ad) l.length c] 23)).alloc (.cells #[.int .i64 0, .int .i64 0, .int .u32 0, .int .u32 0, .int .i64 0, .int .i64 0, .int .i64 0, .slice none 0 0] 25)).cell? ⟨ad.block, ad.off + 12, none⟩ = some (.int .u8 (l.getD 12 0)) := by
    rw [World.cell?_alloc_past _ _ _ (by have := World.block_lt_of_cell? w _ hcl; simp at this ⊢; omega), World.cell?_alloc_past _ _ _ (World.block_lt_of_cell? w _ hcl)]; exact hcl
  have d4 : decide ((l.length : Int) < l.getD 12 0 / 16 * 4) = false := decide_eq_false (by omega)
  have hcov := seg_covered_f l s d hS hD (by omega)
  have hrt : sum_Right.f (pseudo s d 6 l.length ++ l) = some (csum (pseudo s d 6 l.length ++ l) == 0) := by
    unfold sum_Right.f sum_Sum.f
    rw [if_pos ⟨(pseudo_bytes _ _ _ _).append hb, by rw [List.length_append, pseudo_length]; omega⟩]
    rfl
  have hB0 := Aside0.mk (show Below w.heap.size w ((w.alloc (.cells #[.slice (some ad) l.length c] 23)).alloc (.cells #[.int .i64 0, .int .i64 0, .int .u32 0, .int .u32 0, .int .i64 0, .int .i64 0, .int .i64 0, .slice none 0 0] 25)) from ((Below.refl _ _).alloc (Nat.le_refl _) _).alloc (by simp) _)
  have hZ0 := Aside0.mk (show ((w.alloc (.cells #[.slice (some ad) l.length c] 23)).alloc (.cells #[.int .i64 0, .int .i64 0, .int .u32 0, .int .u32 0, .int .i64 0, .int .i64 0, .int .i64 0, .slice none 0 0] 25)).heap[w.heap.size + 1]? = some (.cells #[.int .i64 0, .int .i64 0, .int .u32 0, .int .u32 0, .int .i64 0, .int .i64 0, .int .i64 0, .slice none 0 0] 25 (0, 0)) from by have := heap_alloc_new (w.alloc (.cells #[.slice (some ad) l.length c] 23)) (.cells #[.int .i64 0, .int .i64 0, .int .u32 0, .int .u32 0, .int .i64 0, .int .i64 0, .int .i64 0, .slice none 0 0] 25); simpa using this)
  have hX0 := Aside0.mk (show ((w.alloc (.cells #[.slice (some ad) l.length c] 23)).alloc (.cells #[.int .i64 0, .int .i64 0, .int .u32 0, .int .u32 0, .int .i64 0, .int .i64 0, .int .i64 0, .slice none 0 0] 25)).heap[w.heap.size]? = some (.cells #[.slice (some ad) l.length c] 23 (0, 0)) from blk_alloc (blk_new w _) _)
  have HCV := Aside0.mk (seg_covered.calls (some ad) c l s d _ ((w.alloc (.cells #[.slice (some ad) l.length c] 23)).alloc (.cells #[.int .i64 0, .int .i64 0, .int .u32 0, .int .u32 0, .int .i64 0, .int .i64 0, .int .i64 0, .slice none 0 0] 25)) (Kd.C_alloc (Kd.C_alloc hr _) _) hc hcov)
  generalize pseudo s d 6 l.length ++ l = cov at *
  obtain ⟨n, hn⟩ : ∃ n : Nat, l.getD 12 0 / 16 * 4 = n := ⟨(l.getD 12 0 / 16 * 4).toNat, by omega⟩
  obtain ⟨A5, hs5, hr5, hl5, hc5⟩ := cut_mid (some ad) c l 20 n 20 (l.getD 12 0 / 16 * 4) rfl hn (by omega) (by omega) hc
  have HMS := Aside0.mk (fun (W : World) (hW : Kd.C (Kd.int .u8) W (some ad) l.length l) => show Calls Try.prog 30 #[.slice A5 (n - 20) (c - 20)] W (fun e w' => e = .returned (.tuple #[.int .i64 (mssO ((l.take n).drop 20)).1, .bool (mssO ((l.take n).drop 20)).2]) ∧ W = w') from by
    have := seg_mss_walk A5 (c - 20) ((l.take n).drop 20) W (hr5 W hW) (by rw [hl5]; exact hc5) ((hb.take _).drop _)
    rwa [hl5] at this)
  have HR := Aside0.mk hr
  have hcl13 := cell_at hr 12 (by omega)
  have hx13 := hb.getD 13
  rw [show (csum cov == 0) = true from beq_iff_eq.2 hk] at hrt
  have HRT := Aside0.mk hrt
  rw [hn, Int.toNat_natCast] at hm ⊢
  rw [hm] at HMS
  have hmf : ∀ (fn : Fn) (first cap : Array Value) (w : World), (Instr.makeFunc fn first cap).run Try.prog w = .ok (.func fn first cap) w := fun _ _ _ _ => rfl
  have HL20 := Aside0.mk (show 20 ≤ l.length from h.1)
  have HB := Aside0.mk hb
  have HC := Aside0.mk hc
  have r0 := fld_range l 0 2 hb (by omega)
  have r1 := fld_range l 2 2 hb (by omega)
  have r2 := fld_range l 4 4 hb (by omega)
  have r3 := fld_range l 8 4 hb (by omega)
  have r4 := fld_range l 14 2 hb (by omega)
  simp only [show (256 : Int) ^ 2 = 65536 from rfl, show (256 : Int) ^ 4 = 4294967296 from rfl] at r0 r1 r2 r3 r4
  obtain ⟨r0a, r0b⟩ := r0
  obtain ⟨r1a, r1b⟩ := r1
  obtain ⟨r2a, r2b⟩ := r2
  obtain ⟨r3a, r3b⟩ := r3
  obtain ⟨r4a, r4b⟩ := r4
  have q0 : IntKind.u16.wrap (fld l 0 2) = fld l 0 2 := by rw [u16_w]; omega
  have q1 : IntKind.u16.wrap (fld l 2 2) = fld l 2 2 := by rw [u16_w]; omega
  have q2 : IntKind.u32.wrap (fld l 4 4) = fld l 4 4 := by rw [u32_w]; omega
  have q3 : IntKind.u32.wrap (fld l 8 4) = fld l 8 4 := by rw [u32_w]; omega
  have q4 : IntKind.u16.wrap (fld l 14 2) = fld l 14 2 := by rw [u16_w]; omega
  have q5 := u8_and63 (l.getD 13 0) hx13.1 hx13.2
  have HHS := Aside0.mk (fun (W : World) => seg_head_seg.calls (fld l 0 2) (fld l 2 2) (fld l 4 4) (fld l 8 4) (l.getD 13 0 % 64) (fld l 14 2) (fld l 0 2) (fld l 2 2) (fld l 4 4) (fld l 8 4) (l.getD 13 0 % 64) (fld l 14 2) 0 [] W (by unfold seg_head_seg.f; rw [wrap64_in (fld l 0 2) (by omega) (by omega), wrap64_in (fld l 2 2) (by omega) (by omega), wrap64_in (l.getD 13 0 % 64) (by omega) (by omega), wrap64_in (fld l 14 2) (by omega) (by omega)]))
  obtain ⟨A8, hs8, hr8, hc8⟩ := cut_from .i64 (some ad) c l n (l.getD 12 0 / 16 * 4) hn (by omega) hc
  have HC8 := Aside0.mk hc8
  clear hrt hk hcov hr5 hl5 hc5 hm hc8 hn
  generalize l.getD 12 0 = x at *
  generalize l.getD 13 0 = x13 at *
  generalize (mssO ((l.take n).drop 20)).1 = mss at *
  obtain ⟨hx0, hx1⟩ := hx
  go_enter Try.func8, Try.ntmps8
  go_upto_region 14 with (first | (go_at_call 24; (with_reducible refine HCV.out.mono ?_); rintro e w3 ⟨v3, rfl, ho, hb3⟩; obtain ⟨A3, c3, e3⟩ := Kd.R_slice ho; subst e3; have HR3 := Aside0.mk ho; have HB3 := Aside0.mk (below_then hB0.out hB0.out.size hb3); have hZ3 := Aside0.mk (blk_below hZ0.out hb3); have hX3 := Aside0.mk (blk_below hX0.out hb3); clear ho hb3) | (go_at_call 29; (with_reducible refine (sum_Right.calls A3 c3 cov _ _ (Kd.R_reads' HR3.out).2.2 (Kd.R_reads' HR3.out).2.1 HRT.out).mono ?_); rintro e w4 ⟨rfl, hb4⟩; have HB4 := Aside0.mk (below_then HB3.out HB3.out.size hb4); have hZ4 := Aside0.mk (blk_below hZ3.out hb4); have hX4 := Aside0.mk (blk_below hX3.out hb4); have x0 := (blk_cell hX4.out 0).trans rfl; have z0 := (blk_cell hZ4.out 0).trans rfl; have f0 := blk_frozen hZ4.out 0; have z1 := (blk_cell hZ4.out 1).trans rfl; have f1 := blk_frozen hZ4.out 1; have z2 := (blk_cell hZ4.out 2).trans rfl; have f2 := blk_frozen hZ4.out 2; have z3 := (blk_cell hZ4.out 3).trans rfl; have f3 := blk_frozen hZ4.out 3; have z4 := (blk_cell hZ4.out 4).trans rfl; have f4 := blk_frozen hZ4.out 4; have z5 := (blk_cell hZ4.out 5).trans rfl; have f5 := blk_frozen hZ4.out 5; have z6 := (blk_cell hZ4.out 6).trans rfl; have f6 := blk_frozen hZ4.out 6; have z7 := (blk_cell hZ4.out 7).trans rfl; have f7 := blk_frozen hZ4.out 7; clear hb4) | (go_at_call 30; (with_reducible refine (HMS.out _ (Kd.C_below HR.out HB4.out)).mono ?_); rintro e w5 ⟨rfl, rfl⟩))
  have hcl4 : w4.drew.cell? ⟨ad.block, ad.off + 13, none⟩ = some (.int .u8 x13) := (HB4.out.cell (World.block_lt_of_cell? w _ hcl13)).trans hcl13
  have HX := Aside0.mk (show w4.drew.cell? ⟨w.heap.size, 0, none⟩ = some (.slice (some ad) l.length c) from x0)
  have HRD := Aside0.mk (show Kd.C (Kd.int .u8) w4.drew (some ad) l.length l from Kd.C_drew (Kd.C_below HR.out HB4.out))
  have hs0 : w4.drew.cell? ⟨w.heap.size, 0, none⟩ = some (.slice (some ad) l.length c) ∧ w4.drew.cell? ⟨ad.block, ad.off + 13, none⟩ = some (.int .u8 x13) := ⟨HX.out, hcl4⟩
  have hs1 : (w4.alloc (.cells #[.int .i64 0, .int .i64 0, .int .u32 0, .int .u32 0, .int .i64 0, .int .i64 0, .int .i64 0, .slice none 0 0] 25)).drew.cell? ⟨w.heap.size, 0, none⟩ = some (.slice (some ad) l.length c) ∧ (w4.alloc (.cells #[.int .i64 0, .int .i64 0, .int .u32 0, .int .u32 0, .int .i64 0, .int .i64 0, .int .i64 0, .slice none 0 0] 25)).drew.cell? ⟨ad.block, ad.off + 13, none⟩ = some (.int .u8 x13) := get_kept (W := w4.drew) hs0 ((Below.refl _ _).alloc (Nat.le_refl _) _)
  have HX1 := Aside0.mk (show (w4.alloc (.cells #[.int .i64 0, .int .i64 0, .int .u32 0, .int .u32 0, .int .i64 0, .int .i64 0, .int .i64 0, .slice none 0 0] 25)).drew.cell? ⟨w.heap.size, 0, none⟩ = some (.slice (some ad) l.length c) from hs1.1)
  have HRD1 := Aside0.mk (show Kd.C (Kd.int .u8) (w4.alloc (.cells #[.int .i64 0, .int .i64 0, .int .u32 0, .int .u32 0, .int .i64 0, .int .i64 0, .int .i64 0, .slice none 0 0] 25)).drew (some ad) l.length l from Kd.C_drew (Kd.C_alloc (Kd.C_below HR.out HB4.out) _))
  have HG1 := Aside0.mk (show (w4.alloc (.cells #[.int .i64 0, .int .i64 0, .int .u32 0, .int .u32 0, .int .i64 0, .int .i64 0, .int .i64 0, .slice none 0 0] 25)).drew.heap[w4.heap.size]? = some (.cells #[.int .i64 0, .int .i64 0, .int .u32 0, .int .u32 0, .int .i64 0, .int .i64 0, .int .i64 0, .slice none 0 0] 25 (0, 0)) from heap_alloc_new w4 (.cells #[.int .i64 0, .int .i64 0, .int .u32 0, .int .u32 0, .int .i64 0, .int .i64 0, .int .i64 0, .slice none 0 0] 25))
  have h13 : (13 : Int) < (l.length : Int) := by have := HL20.out; omega
  clear z0 z1 z2 z3 z4 z5 z6 z7 f0 f1 f2 f3 f4 f5 f6 f7 hcl4 hcl2 hcl hcl13
  go_cut [12] (fun v12 wc => GetRel 25 23 w (.slice (some ad) l.length c) (.int .i64 (fld l 0 2)) (.int .i64 (fld l 2 2)) (.int .u32 (fld l 4 4)) (.int .u32 (fld l 8 4)) (.int .i64 (x13 % 64)) (.int .i64 (fld l 14 2)) (.int .i64 0) v12 wc)
  case first =>
    have HWL := Aside0.mk (show w.heap.size < w4.heap.size ∧ ad.block < w4.heap.size from ⟨World.block_lt_of_cell? w4.drew ⟨w.heap.size, 0, none⟩ hs0.1, World.block_lt_of_cell? w4.drew ⟨ad.block, ad.off + 13, none⟩ hs0.2⟩)
    clear hB0 hZ0 hX0 HCV HMS HR3 hZ3 hX3 HRT hs5 hs8 hr8 HC8 hr hb hlen d1 d2 d3 d4 hmf x0
    go_region_held3 (fun W => W.cell? ⟨w.heap.size, 0, none⟩ = some (.slice (some ad) l.length c) ∧ W.cell? ⟨ad.block, ad.off + 13, none⟩ = some (.int .u8 x13))
      (first | with_reducible exact hs0 | with_reducible exact hs1 | with_reducible exact hs6 | with_reducible exact get_kept_alloc hs6 _ | with_reducible exact get_kept_put8 hs6 HWL.out _ _ _ _ _ _ _ _)
      (first | (go_at_call 31; (with_reducible refine (seg_Get_num 0 2 0 2 rfl rfl _ c (some ad) l _ HX.out HRD.out HC.out HB.out (by have := HL20.out; omega) (by omega) (by omega)).mono ?_); rintro e w' ⟨rfl, rfl⟩) | (go_at_call 31; (with_reducible refine (seg_Get_num 2 2 2 2 rfl rfl _ c (some ad) l _ HX.out HRD.out HC.out HB.out (by have := HL20.out; omega) (by omega) (by omega)).mono ?_); rintro e w' ⟨rfl, rfl⟩) | (go_at_call 31; (with_reducible refine (seg_Get_num 4 4 4 4 rfl rfl _ c (some ad) l _ HX.out HRD.out HC.out HB.out (by have := HL20.out; omega) (by omega) (by omega)).mono ?_); rintro e w' ⟨rfl, rfl⟩) | (go_at_call 31; (with_reducible refine (seg_Get_num 8 4 8 4 rfl rfl _ c (some ad) l _ HX.out HRD.out HC.out HB.out (by have := HL20.out; omega) (by omega) (by omega)).mono ?_); rintro e w' ⟨rfl, rfl⟩) | (go_at_call 31; (with_reducible refine (seg_Get_num 14 2 14 2 rfl rfl _ c (some ad) l _ HX.out HRD.out HC.out HB.out (by have := HL20.out; omega) (by omega) (by omega)).mono ?_); rintro e w' ⟨rfl, rfl⟩) | (go_at_call 31; (with_reducible refine (seg_Get_num 0 2 0 2 rfl rfl _ c (some ad) l _ HX1.out HRD1.out HC.out HB.out (by have := HL20.out; omega) (by omega) (by omega)).mono ?_); rintro e w' ⟨rfl, rfl⟩) | (go_at_call 31; (with_reducible refine (seg_Get_num 2 2 2 2 rfl rfl _ c (some ad) l _ HX1.out HRD1.out HC.out HB.out (by have := HL20.out; omega) (by omega) (by omega)).mono ?_); rintro e w' ⟨rfl, rfl⟩) | (go_at_call 31; (with_reducible refine (seg_Get_num 4 4 4 4 rfl rfl _ c (some ad) l _ HX1.out HRD1.out HC.out HB.out (by have := HL20.out; omega) (by omega) (by omega)).mono ?_); rintro e w' ⟨rfl, rfl⟩) | (go_at_call 31; (with_reducible refine (seg_Get_num 8 4 8 4 rfl rfl _ c (some ad) l _ HX1.out HRD1.out HC.out HB.out (by have := HL20.out; omega) (by omega) (by omega)).mono ?_); rintro e w' ⟨rfl, rfl⟩) | (go_at_call 31; (with_reducible refine (seg_Get_num 14 2 14 2 rfl rfl _ c (some ad) l _ HX1.out HRD1.out HC.out HB.out (by have := HL20.out; omega) (by omega) (by omega)).mono ?_); rintro e w' ⟨rfl, rfl⟩) | (go_at_call 33; (with_reducible refine (HHS.out _).mono ?_); rintro e w6 ⟨v6, rfl, ho6, hb6⟩; obtain ⟨A6, c6, e6⟩ := Kd.R_slice ho6; subst e6; have hs6 : w6.cell? ⟨w.heap.size, 0, none⟩ = some (.slice (some ad) l.length c) ∧ w6.cell? ⟨ad.block, ad.off + 13, none⟩ = some (.int .u8 x13) := (by with_reducible exact get_kept hs0 hb6); have HB6 := Aside0.mk hb6; clear ho6 hb6) | (go_at_call 33; (with_reducible refine (HHS.out _).mono ?_); rintro e w6 ⟨v6, rfl, ho6, hb6⟩; obtain ⟨A6, c6, e6⟩ := Kd.R_slice ho6; subst e6; have hs6 : w6.cell? ⟨w.heap.size, 0, none⟩ = some (.slice (some ad) l.length c) ∧ w6.cell? ⟨ad.block, ad.off + 13, none⟩ = some (.int .u8 x13) := (by with_reducible exact get_kept hs1 hb6); have HG6 := Aside0.mk (blk_below HG1.out hb6); have y0 := (blk_cell HG6.out 0).trans rfl; have f0 := blk_frozen HG6.out 0; have y1 := (blk_cell HG6.out 1).trans rfl; have f1 := blk_frozen HG6.out 1; have y2 := (blk_cell HG6.out 2).trans rfl; have f2 := blk_frozen HG6.out 2; have y3 := (blk_cell HG6.out 3).trans rfl; have f3 := blk_frozen HG6.out 3; have y4 := (blk_cell HG6.out 4).trans rfl; have f4 := blk_frozen HG6.out 4; have y5 := (blk_cell HG6.out 5).trans rfl; have f5 := blk_frozen HG6.out 5; have y6 := (blk_cell HG6.out 6).trans rfl; have f6 := blk_frozen HG6.out 6; have y7 := (blk_cell HG6.out 7).trans rfl; have f7 := blk_frozen HG6.out 7; have HB6 := Aside0.mk hb6; clear ho6 hb6))
    all_goals go_wp2
    all_goals go_meet
    all_goals first | with_reducible exact GetRel.alloc HB4 HB6 hZ4 hX4 | with_reducible exact GetRel.put HB4 HB6 HG6 hZ4 hX4
  case rest =>
    obtain ⟨g, u7, rfl, HGlt, HGb, HZ, HX0, HBc⟩ := hcut
    have HRc := Aside0.mk (Kd.C_below HR.out HBc.out)
    have x0 := (blk_cell HX0.out 0).trans rfl
    have HCL := Aside0.mk (slices_Clone_byte_byte.calls A8 (c - n) (l.drop n) (l.drop n) wc (hr8 _ HRc.out) HC8.out (by unfold slices_Clone_byte_byte.f; rw [if_pos (by rw [List.length_drop]; omega)]))
    rw [List.length_drop] at HCL
    go_upto_region 16 with (go_at_call 34; (with_reducible refine HCL.out.mono ?_); rintro e w7 ⟨v7, rfl, ho7, hb7⟩; have HV7 := Aside0.mk ho7; have HG7 := Aside0.mk (blk_below HGb.out hb7); have HZ7 := Aside0.mk (blk_below HZ.out hb7); have HB7 := Aside0.mk (below_then HBc.out HBc.out.size hb7); have HT7 := Aside0.mk hb7; obtain ⟨A9, c9, e9⟩ := Kd.R_slice ho7; subst e9; have y6 := (blk_cell HG7.out 6).trans rfl; have y7 := (blk_cell HG7.out 7).trans rfl; have f6 := blk_frozen HG7.out 6; have f7 := blk_frozen HG7.out 7; clear ho7 hb7)
    have HY := Aside0.mk (blk_put (blk_put HG7.out 6 (.int .i64 mss) rfl) 7 (.slice A9 (l.length - n) c9) rfl)
    have HYZ := Aside0.mk (blk_far (blk_far HZ7.out (p := ⟨g, 6, none⟩) (by have := HGlt.out; simp; omega) (.int .i64 mss)) (p := ⟨g, 7, none⟩) (by have := HGlt.out; simp; omega) (.slice A9 (l.length - n) c9))
    have HVY := Aside0.mk (Kd.R_set (Kd.R_set HV7.out HG7.out (by decide) 6 (.int .i64 mss)) (blk_put HG7.out 6 (.int .i64 mss) rfl) (by decide) 7 (.slice A9 (l.length - n) c9))
    have HBY := Aside0.mk (show Below w.heap.size w ((w7.setCell { block := g, off := 6 } (Value.int IntKind.i64 mss)).setCell { block := g, off := 7 } (Value.slice A9 (l.length - n) c9)) from (HB7.out.setCell (p := ⟨g, 6, none⟩) (by have := HGlt.out; simp; omega) _).setCell (p := ⟨g, 7, none⟩) (by have := HGlt.out; simp; omega) _)
    clear y6 y7 f6 f7
    generalize ((w7.setCell { block := g, off := 6 } (Value.int IntKind.i64 mss)).setCell { block := g, off := 7 } (Value.slice A9 (l.length - n) c9)) = w8 at *
    have y0 := (blk_cell HY.out 0).trans rfl
    have y1 := (blk_cell HY.out 1).trans rfl
    have y2 := (blk_cell HY.out 2).trans rfl
    have y3 := (blk_cell HY.out 3).trans rfl
    have y4 := (blk_cell HY.out 4).trans rfl
    have y5 := (blk_cell HY.out 5).trans rfl
    have y6 := (blk_cell HY.out 6).trans rfl
    have y7 := (blk_cell HY.out 7).trans rfl
    have z0 := (blk_cell HYZ.out 0).trans rfl
    have f0 := blk_frozen HYZ.out 0
    have z1 := (blk_cell HYZ.out 1).trans rfl
    have f1 := blk_frozen HYZ.out 1
    have z2 := (blk_cell HYZ.out 2).trans rfl
    have f2 := blk_frozen HYZ.out 2
    have z3 := (blk_cell HYZ.out 3).trans rfl
    have f3 := blk_frozen HYZ.out 3
    have z4 := (blk_cell HYZ.out 4).trans rfl
    have f4 := blk_frozen HYZ.out 4
    have z5 := (blk_cell HYZ.out 5).trans rfl
    have f5 := blk_frozen HYZ.out 5
    have z6 := (blk_cell HYZ.out 6).trans rfl
    have f6 := blk_frozen HYZ.out 6
    have z7 := (blk_cell HYZ.out 7).trans rfl
    have f7 := blk_frozen HYZ.out 7
    have HVZ := Aside0.mk (Kd.R_lower HVY.out HBc.out.size)
    rw [List.length_drop] at HVZ
    go_wp2
    exact bodyPost_ret (results_ct rfl _ _ (w.heap.size + 1) 25 #[.int .i64 (fld l 0 2), .int .i64 (fld l 2 2), .int .u32 (fld l 4 4), .int .u32 (fld l 8 4), .int .i64 (x13 % 64), .int .i64 (fld l 14 2), .int .i64 mss, .slice A9 (l.length - n) c9] (0, 0) _ rfl (put8 _ _ _ _ _ _ _ _ HYZ.out) Try.underlying25 rfl (by kernel_rfl)) rfl ⟨_, rfl, R_put8 HVZ.out HYZ.out (by decide) _ _ _ _ _ _ _ _, below_put8 _ _ _ _ _ _ _ _ HBY.out (by omega)⟩

end Go.Proofs.Ytndkaffkdjaaoaa.H
/- seg.Put and seg.Get: what they compute, and their contracts in the print's form. -/
namespace Go.Proofs.Ytndkaffkdjaaoaa.H
open Go.RowKit Go.Proofs.YtndkaffkdjaaoaaW.PrintWords Go.Proofs.YtndkaffkdjaaoaaW.PrintLast Go.Proofs.YtndkaffkdjaaoaaW.PrintMore Go.Proofs.Ytndkaffkdjaaoaa.QSeg
set_option linter.unusedVariables false
set_option linter.unusedSimpArgs false

/-- What both sides write for a segment. -/
def segPut (a0 a1 a2 a3 a4 a5 a6 : Int) (l : List Int) (s d : Int) : List Int × Int :=
  if sameB a0 a1 a4 a5 = true ∧ (0 ≤ a6 ∧ a6 < 65536) ∧ l.length ≤ 60000 then (segBytes a0 a1 a2 a3 a4 a5 a6 l s d, 0) else ([], 2)
def segFit (a2 a3 : Int) (l : List Int) (s d : Int) : Prop :=
  Bytes l ∧ (0 ≤ a2 ∧ a2 < 4294967296) ∧ (0 ≤ a3 ∧ a3 < 4294967296) ∧ (0 ≤ s ∧ s < 4294967296) ∧ (0 ≤ d ∧ d < 4294967296)

theorem seg_Put.calls (a0 a1 a2 a3 a4 a5 a6 : Int) (A : Option Addr) (c : Nat) (l : List Int) (s d : Int) (w : World) (hr : Kd.C (Kd.int .u8) w A l.length l) (hc : l.length ≤ c) (hf : segFit a2 a3 l s d) :
    Calls Try.prog 6 #[.agg #[.int .i64 a0, .int .i64 a1, .int .u32 a2, .int .u32 a3, .int .i64 a4, .int .i64 a5, .int .i64 a6, .slice A l.length c], .int .u32 s, .int .u32 d] w fun e w' => ∃ v0_ : Value, e = .returned (.tuple #[v0_, .int .i64 (segPut a0 a1 a2 a3 a4 a5 a6 l s d).2]) ∧ Kd.R (Kd.int .u8) 5 w' w.heap.size (fun _ => True) v0_ (segPut a0 a1 a2 a3 a4 a5 a6 l s d).1 ∧ Below w.heap.size w w' := by
  obtain ⟨hb, h2, h3, hS, hD⟩ := hf
  unfold segPut
  by_cases h : sameB a0 a1 a4 a5 = true ∧ (0 ≤ a6 ∧ a6 < 65536) ∧ l.length ≤ 60000
  · rw [if_pos h]
    exact seg_Put_good a0 a1 a2 a3 a4 a5 a6 A c l s d w hr hc h.1 h.2.1 h.2.2 hb h2 h3 hS hD
  · rw [if_neg h]
    refine (seg_Put_bad a0 a1 a2 a3 a4 a5 a6 A c l s d w hr hc ?_).mono ?_
    · by_cases h1 : sameB a0 a1 a4 a5 = true
      · by_cases h6 : 0 ≤ a6 ∧ a6 < 65536
        · exact Or.inr (Or.inr (by
            by_cases h7 : l.length ≤ 60000
            · exact absurd ⟨h1, h6, h7⟩ h
            · omega))
        · exact Or.inr (Or.inl h6)
      · exact Or.inl (by simpa using h1)
    · rintro e w' ⟨rfl, hb⟩
      exact ⟨_, rfl, Kd.R_nil _ _ _ _ _, hb⟩

/-- What both sides read: the error number. -/
def segErr (l : List Int) (s d : Int) : Int :=
  if l.length < 20 then 160 else if 65535 < l.length ∨ l.getD 12 0 / 16 * 4 < 20 then 161 else if (l.length : Int) < l.getD 12 0 / 16 * 4 then 160
  else if ¬ csum (pseudo s d 6 l.length ++ l) = 0 then 162 else if (mssO ((l.take (l.getD 12 0 / 16 * 4).toNat).drop 20)).2 = false then 161 else 0
/-- .. and the segment. -/
def segGet (l : List Int) (s d : Int) : Int × Int × Int × Int × Int × Int × Int × List Int × Int :=
  if segErr l s d = 0 then (fld l 0 2, fld l 2 2, fld l 4 4, fld l 8 4, l.getD 13 0 % 64, fld l 14 2, (mssO ((l.take (l.getD 12 0 / 16 * 4).toNat).drop 20)).1, l.drop (l.getD 12 0 / 16 * 4).toNat, 0)
  else (0, 0, 0, 0, 0, 0, 0, [], segErr l s d)
/-- The nine values of an answer, as a call's end. -/
def GetEnd (w : World) (r : Int × Int × Int × Int × Int × Int × Int × List Int × Int) (e : Ending) (w' : World) : Prop :=
  ∃ v7_ : Value, e = .returned (.tuple #[.agg #[.int .i64 r.1, .int .i64 r.2.1, .int .u32 r.2.2.1, .int .u32 r.2.2.2.1, .int .i64 r.2.2.2.2.1, .int .i64 r.2.2.2.2.2.1, .int .i64 r.2.2.2.2.2.2.1, v7_], .int .i64 r.2.2.2.2.2.2.2.2]) ∧
    Kd.R (Kd.int .u8) 5 w' w.heap.size (fun _ => True) v7_ r.2.2.2.2.2.2.2.1 ∧ Below w.heap.size w w'
theorem GetEnd.zero {w : World} {n : Int} {e : Ending} {w' : World} (h : e = .returned (.tuple #[.agg #[.int .i64 0, .int .i64 0, .int .u32 0, .int .u32 0, .int .i64 0, .int .i64 0, .int .i64 0, .slice none 0 0], .int .i64 n]) ∧ Below w.heap.size w w') : GetEnd w (0, 0, 0, 0, 0, 0, 0, [], n) e w' :=
  ⟨_, h.1, Kd.R_nil _ _ _ _ _, h.2⟩

theorem seg_Get.calls (A : Option Addr) (c : Nat) (l : List Int) (s d : Int) (w : World) (hr : Kd.C (Kd.int .u8) w A l.length l) (hc : l.length ≤ c) (hb : Bytes l) (hS : 0 ≤ s ∧ s < 4294967296) (hD : 0 ≤ d ∧ d < 4294967296) :
    Calls Try.prog 8 #[.slice A l.length c, .int .u32 s, .int .u32 d] w (GetEnd w (segGet l s d)) := by
  unfold segGet segErr
  by_cases h1 : l.length < 20
  · simp only [if_pos h1]
    exact (seg_Get_short A c l s d w hr hc h1).mono fun e w' h => GetEnd.zero h
  · simp only [if_neg h1]
    by_cases h2 : 65535 < l.length ∨ l.getD 12 0 / 16 * 4 < 20
    · simp only [if_pos h2]
      exact (seg_Get_form A c l s d w hr hc hb ⟨by omega, h2⟩).mono fun e w' h => GetEnd.zero h
    · simp only [if_neg h2]
      have h2a : ¬ 65535 < l.length := fun h => h2 (Or.inl h)
      have h2b : ¬ l.getD 12 0 / 16 * 4 < 20 := fun h => h2 (Or.inr h)
      by_cases h3 : (l.length : Int) < l.getD 12 0 / 16 * 4
      · simp only [if_pos h3]
        exact (seg_Get_cut A c l s d w hr hc hb ⟨by omega, by omega, by omega⟩ h3).mono fun e w' h => GetEnd.zero h
      · simp only [if_neg h3]
        by_cases h4 : ¬ csum (pseudo s d 6 l.length ++ l) = 0
        · simp only [if_pos h4]
          exact (seg_Get_sum A c l s d w hr hc hb hS hD ⟨by omega, by omega, by omega, by omega⟩ h4).mono fun e w' h => GetEnd.zero h
        · simp only [if_neg h4]
          by_cases h5 : (mssO ((l.take (l.getD 12 0 / 16 * 4).toNat).drop 20)).2 = false
          · simp only [if_pos h5]
            exact (seg_Get_opts A c l s d w hr hc hb hS hD ⟨by omega, by omega, by omega, by omega⟩ (Classical.not_not.1 h4) h5).mono fun e w' h => GetEnd.zero h
          · simp only [if_neg h5]
            exact seg_Get_good A c l s d w hr hc hb hS hD ⟨by omega, by omega, by omega, by omega⟩ (Classical.not_not.1 h4) (by simpa using h5) (by omega)

end Go.Proofs.Ytndkaffkdjaaoaa.H
