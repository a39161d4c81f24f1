/- Contracts of slices.Clone, slices.Grow at nil, slices.Concat at bytes, in the print's form. -/
import Derived.Test.YtndkaffkdjaaoaaProg
import Derived.Test.YtndkaffkdjaaoaaWMore
import Derived.Test.YtndkaffkdjaaoaaWApart
import Derived.Test.YtndkaffkdjaaoaaWRepsOne
import Derived.WalkSpells
import Derived.WalkLawsBesides
import Derived.Lib.SliceRun
import Derived.Laws.BitsLemmas
import Derived.Below
import Derived.RegionTactic
import Derived.Laws.CopyOwn
import Derived.Deep.RegionLaw
namespace Go.Proofs.Ytndkaffkdjaaoaa.H
open Go.RowKit Go.Proofs.YtndkaffkdjaaoaaW.PrintWords Go.Proofs.YtndkaffkdjaaoaaW.PrintLast Go.Proofs.YtndkaffkdjaaoaaW.PrintMore
set_option linter.unusedVariables false
set_option linter.unusedSimpArgs false

theorem info8 : (Try.prog.info? 5).map (fun i => (i.zero, i.size, i.bytes)) = some (some (.int .u8 0), 1, 1) := by kernel_rfl

theorem size8 : (Try.prog.info? 5).map (·.size) = some 1 := by kernel_rfl

def slices_Clone_byte_byte.f (l0 : List Int) : Option (List Int) := if l0.length < 140737488355328 then some l0 else none

set_option maxHeartbeats 800000 in
set_option maxRecDepth 100000 in
theorem slices_Clone_byte_byte.calls (A0 : Option Addr) (c0 : Nat) (l0 : List Int) (r : List Int) (w : World) (hr0 : Kd.C (Kd.int .u8) w A0 l0.length l0) (hc0 : l0.length ≤ c0) (h : slices_Clone_byte_byte.f l0 = some r) :
    Calls Try.prog 34 #[.slice A0 l0.length c0] w fun e w' => ∃ v0_ : Value, e = .returned (v0_) ∧ Kd.R (Kd.int .u8) 5 w' w.heap.size (fun _ => True) v0_ r ∧ Below w.heap.size w w' := by
  have hl : l0.length < 140737488355328 := by
    unfold slices_Clone_byte_byte.f at h
    by_cases c : l0.length < 140737488355328
    · exact c
    · rw [if_neg c] at h; cases h
  obtain rfl : l0 = r := by
    unfold slices_Clone_byte_byte.f at h
    rw [if_pos hl] at h
    exact Option.some.inj h
  clear h
  have heq : ∀ (W : World) (a : Option Addr) (n c n' c' : Nat), (binOp .eql 23 (.slice a n c) (.slice none n' c')).run Try.prog W = .ok (.bool a.isNone) W := fun W a n c n' c' => Lib.run_eql_slice_nil W _ _ a n c n' c' Try.underlying23
  rcases A0 with _ | ad
  · have h0 : l0 = [] := by
      rcases Nat.eq_zero_or_pos l0.length with h0 | h0
      · exact List.eq_nil_of_length_eq_zero h0
      · obtain ⟨ad, h, _⟩ := hr0.2.2 h0
        cases h
    subst h0
    go_enter Try.func34, Try.ntmps34
    go_wp2
    go_ret
    exact ⟨_, rfl, Kd.R_nil _ _ _ _ _, Below.refl _ _⟩
  · go_enter Try.func34, Try.ntmps34
    go_wp2_with (first | ((with_reducible refine gate_dst (N := 5) rfl ?_); refine Kd.R_lit (Kd.int .u8) (w0 := w) w.heap.size 5 ?hg (N := 5) ?hd (xs := ([] : List Int)) (inner := []) (ok := fun _ => True) (okp := fun _ => True) ?hr ?hp (fun _ hk => hk) trivial (Below.refl _ _) (Nat.le_refl _) (by simp) ?_; (case hd => rfl); (case hg => rfl); (case hr => first | (go_simp; done) | (go_simp; rfl)); (case hp => exact Reps.none _ _); intro v1 w1 ho1 hb1 hg_ hnew_; clear hg_ hnew_; obtain ⟨A1, c1, e1⟩ := Kd.R_slice ho1; subst e1) | ((with_reducible refine gate_builtin (b := .append) (xs := #[.tmp 5, .tmp 6]) rfl ?_); at_builtin; refine Kd.R_append_rows (Kd.int .u8) (w0 := w) w.heap.size rfl (.tmp 5) (.tmp 6) 23 5 (.int .u8 0) 1 rfl Try.underlying23 info8 rfl (by decide) (by omega) _ [] l0 _ _ _ (fun _ => True) (fun _ => False) rfl rfl ho1 (Kd.C_below hr0 hb1) (fun _ _ h => h) (fun _ h => h.elim) (fun _ _ => trivial) hb1 hb1.size (by simp; omega) ?_; intro v2 w2 ho2 hb2 hg_ hat_; clear hg_ hat_))
    go_ret
    exact ⟨_, rfl, by simpa using ho2, hb2⟩

set_option maxHeartbeats 800000 in
set_option maxRecDepth 100000 in
/-- slices.Grow of nil. -/
theorem slices_Grow_nil (n : Int) (w : World) (h0 : 0 ≤ n) (h1 : n ≤ 140737488355328) :
    Calls Try.prog 40 #[.slice none 0 0, .int .i64 n] w fun e w' => ∃ v0_ : Value, e = .returned (v0_) ∧ Kd.R (Kd.int .u8) 5 w' w.heap.size (fun _ => True) v0_ [] ∧ Below w.heap.size w w' := by
  have c0 : decide (n < 0) = false := by simpa using h0
  by_cases hp : 0 < n
  · have c1 : decide (0 < n) = true := by simpa using hp
    go_enter Try.func40, Try.ntmps40
    go_wp2_with (first | ((with_reducible refine gate_builtin (b := .append) (xs := #[.tmp 20, .tmp 21]) rfl ?_); at_builtin; refine Kd.R_append_zeros (Kd.int .u8) (w0 := w) w.heap.size rfl (.tmp 20) (.tmp 21) 23 3 5 (.int .u8 0) 1 rfl Try.underlying23 Try.underlying3 info8 rfl (by decide) (by omega) (.slice none 0 0) [] 0 n (fun _ => True) rfl rfl rfl (fun _ _ => trivial) (Kd.R_nil _ _ _ _ _) h0 (Below.refl _ _) (Nat.le_refl _) (by simp; omega) ?_; intro v1 w1 ho1 hb1 hg1 hat1; clear hat1 hg1; obtain ⟨A1, k1, e1⟩ := Kd.R_slice ho1; subst e1; have hk1 := (Kd.R_reads' ho1).2.1))
    go_ret
    exact ⟨_, rfl, by simpa using Kd.R_take (m := 0) ho1 (Nat.zero_le _), hb1⟩
  · have c1 : decide (0 < n) = false := by simpa using hp
    go_enter Try.func40, Try.ntmps40
    go_wp2
    go_ret
    exact ⟨_, rfl, Kd.R_nil _ _ _ _ _, Below.refl _ _⟩

def slices_Concat_byte_byte.f (l0 : List (List Int)) : Option (List Int) := if l0.flatten.length < 140737488355328 then some l0.flatten else none

/-- How long the first k rows are together. -/
def flen (l : List (List Int)) (k : Nat) : Nat := (l.take k).flatten.length
theorem flen_zero (l : List (List Int)) : flen l 0 = 0 := rfl
theorem flat_succ (l : List (List Int)) (i : Nat) (h : i < l.length) : (l.take (i + 1)).flatten = (l.take i).flatten ++ l[i] := by
  rw [List.take_succ_eq_append_getElem h, List.flatten_append, List.flatten_cons, List.flatten_nil, List.append_nil]
theorem flen_succ (l : List (List Int)) (i : Nat) (h : i < l.length) : flen l (i + 1) = flen l i + l[i].length := by
  unfold flen
  rw [flat_succ l i h, List.length_append]
theorem flen_all (l : List (List Int)) : flen l l.length = l.flatten.length := by unfold flen; rw [List.take_length]
theorem flen_le (l : List (List Int)) (i : Nat) : flen l i ≤ l.flatten.length := by
  unfold flen
  have h : (l.take i).flatten.length + (l.drop i).flatten.length = l.flatten.length := by
    rw [← List.length_append, ← List.flatten_append, List.take_append_drop]
  omega

/-- Element k of a row of rows that is read. -/
theorem row_at {e : Nat} {w : World} {A : Option Addr} {n : Nat} {xs : List (List Int)} (h : Kd.C (Kd.slice e (Kd.int .u8)) w A n xs) (k : Nat) (hk : k < xs.length) :
    ∃ ad A' c', A = some ad ∧ w.cell? (ad.add k) = some (.slice A' xs[k].length c') ∧ xs[k].length ≤ c' ∧ Kd.C (Kd.int .u8) w A' xs[k].length xs[k] := by
  have hn := Kd.C_len h
  obtain ⟨ad, c, rfl, hc1, hK, hcell⟩ := Kd.C_get h [] (k : Int) (by omega) (by omega)
  obtain ⟨A, cc, rfl, hcc, hC⟩ := hK
  have hc := hcell 0 _ rfl
  simp only [Int.toNat_natCast, List.getD_eq_getElem?_getD, List.getElem?_eq_getElem hk, Option.getD_some] at hc hcc hC
  refine ⟨ad, A, cc, rfl, ?_, hcc, hC⟩
  rw [← hc]
  congr 2
  show k = k * 1 + 0
  omega

set_option maxHeartbeats 1600000 in
set_option maxRecDepth 100000 in
theorem slices_Concat_byte_byte.calls (A0 : Option Addr) (c0 : Nat) (l0 : List (List Int)) (r : List Int) (w : World) (hr0 : Kd.C (Kd.slice 5 (Kd.int .u8)) w A0 l0.length l0) (hc0 : l0.length ≤ c0) (h : slices_Concat_byte_byte.f l0 = some r) :
    Calls Try.prog 22 #[.slice A0 l0.length c0] w fun e w' => ∃ v0_ : Value, e = .returned (v0_) ∧ Kd.R (Kd.int .u8) 5 w' w.heap.size (fun _ => True) v0_ r ∧ Below w.heap.size w w' := by
  have hl : l0.flatten.length < 140737488355328 := by
    unfold slices_Concat_byte_byte.f at h
    by_cases c : l0.flatten.length < 140737488355328
    · exact c
    · rw [if_neg c] at h; cases h
  obtain rfl : l0.flatten = r := by
    unfold slices_Concat_byte_byte.f at h
    rw [if_pos hl] at h
    exact Option.some.inj h
  clear h
  have hm : l0.length ≤ 9223372036854775807 := hr0.2.1
  go_enter Try.func22, Try.ntmps22
  go_wp2
  go_loop [3, 11] (fun s i => ∃ k : Nat, k ≤ l0.length ∧ i = .int .i64 k ∧ s = .int .i64 (flen l0 k)) (fun _ i => l0.length - (intOf i).toNat)
  case atStart => exact ⟨0, Nat.zero_le _, rfl, rfl⟩
  case round =>
    obtain ⟨k, hk, rfl, rfl⟩ := hrel
    have b1 := flen_le l0 k
    by_cases hlt : k < l0.length
    · obtain ⟨ad, A, cc, rfl, hc, hcc, hC⟩ := row_at hr0 k hlt
      have e3 := flen_succ l0 k hlt
      have b2 := flen_le l0 (k + 1)
      have b3 : flen l0 k + l0[k].length < 140737488355328 := by omega
      have E3 := Aside0.mk e3
      clear e3 hC b2
      go_wp2
      go_round
      case rel => exact ⟨k + 1, by omega, by go_num, by rw [E3.out]; go_num⟩
      case measure => simp [intOf]; omega
    · obtain rfl : k = l0.length := by omega
      go_wp2_with (go_at_call 40; (with_reducible refine (slices_Grow_nil _ _ (by omega) (by omega)).mono ?_); rintro e w1 ⟨v1, rfl, ho1, hb1⟩)
      go_loopw [6, 27] (fun v i W => ∃ k : Nat, k ≤ l0.length ∧ i = .int .i64 k ∧ Aside0 (Kd.R (Kd.int .u8) 5 W w.heap.size (fun _ => True) v (l0.take k).flatten) ∧ Aside0 (Below w.heap.size w W)) (fun _ i _ => l0.length - (intOf i).toNat)
      case atStart => exact ⟨0, Nat.zero_le _, rfl, ⟨ho1⟩, ⟨hb1⟩⟩
      case round =>
        obtain ⟨k, hk, rfl, HO, HB⟩ := hrel
        by_cases hlt : k < l0.length
        · obtain ⟨ad, A, cc, rfl, hc, hcc, hC⟩ := row_at hr0 k hlt
          have hc' := (HB.out.cell (World.block_lt_of_cell? w _ hc)).trans hc
          have e3 := flen_succ l0 k hlt
          have b2 := flen_le l0 (k + 1)
          have b3 : flen l0 k + l0[k].length < 140737488355328 := by omega
          have hC' := Aside0.mk (Kd.C_below hC HB.out)
          have e4 := Aside0.mk (flat_succ l0 k hlt)
          clear e3 hC b2 hc
          go_wp2_with (((with_reducible refine gate_builtin (b := .append) (xs := #[.tmp 31, .tmp 32]) rfl ?_); at_builtin; refine Kd.R_append_rows (Kd.int .u8) (w0 := w) w.heap.size rfl (.tmp 31) (.tmp 32) 23 5 (.int .u8 0) 1 rfl Try.underlying23 info8 rfl (by decide) (by omega) _ (l0.take k).flatten l0[k] _ _ _ (fun _ => True) (fun _ => False) rfl rfl HO.out hC'.out (fun _ _ h => h) (fun _ h => h.elim) (fun _ _ => trivial) HB.out HB.out.size (by have := b3; unfold flen at this; omega) ?_; intro v2 w2 ho2 hb2 hg_ hat_; clear hg_ hat_; have HO2 := Aside0.mk ho2; have HB2 := Aside0.mk hb2; clear ho2 hb2))
          go_roundw
          case rel => exact ⟨k + 1, by omega, by go_num, ⟨by rw [e4.out]; exact HO2.out⟩, HB2⟩
          case measure => simp [intOf]; omega
        · obtain rfl : k = l0.length := by omega
          go_wp2
          go_ret
          exact ⟨_, rfl, by have := HO.out; rwa [List.take_length] at this, HB.out⟩

end Go.Proofs.Ytndkaffkdjaaoaa.H
/- Plain sums of bytes: no program in sight. -/
namespace Go.Proofs.Ytndkaffkdjaaoaa.H
set_option linter.unusedVariables false
set_option linter.unusedSimpArgs false

/-- Are all bytes? -/
def Bytes (l : List Int) : Prop := ∀ x ∈ l, 0 ≤ x ∧ x < 256
instance (l : List Int) : Decidable (Bytes l) := by unfold Bytes; infer_instance
theorem Bytes.nil : Bytes [] := fun _ h => by cases h
theorem Bytes.append {a b : List Int} (ha : Bytes a) (hb : Bytes b) : Bytes (a ++ b) := fun x hx => (List.mem_append.1 hx).elim (ha x) (hb x)
theorem Bytes.take {a : List Int} (ha : Bytes a) (n : Nat) : Bytes (a.take n) := fun x hx => ha x (List.mem_of_mem_take hx)
theorem Bytes.drop {a : List Int} (ha : Bytes a) (n : Nat) : Bytes (a.drop n) := fun x hx => ha x (List.mem_of_mem_drop hx)
theorem Bytes.get {a : List Int} (ha : Bytes a) (i : Nat) (h : i < a.length) : 0 ≤ a[i] ∧ a[i] < 256 := ha _ (List.getElem_mem h)

/-- The words of a row of bytes, added up. -/
def psum : List Int → Int
  | [] => 0
  | [a] => 256 * a
  | a :: b :: t => 256 * a + b + psum t
theorem psum_append : ∀ (a b : List Int), a.length % 2 = 0 → psum (a ++ b) = psum a + psum b
  | [], b, _ => by simp [psum]
  | [_], _, h => by simp at h
  | x :: y :: t, b, h => by
    have := psum_append t b (by simp at h; omega)
    simp only [List.cons_append, psum, this]
    omega
theorem psum_le : ∀ (l : List Int), Bytes l → 0 ≤ psum l ∧ psum l ≤ 65535 * (((l.length + 1) / 2 : Nat) : Int)
  | [], _ => by simp [psum]
  | [a], h => by
    have := h a (by simp)
    simp only [psum, List.length_cons, List.length_nil]
    omega
  | x :: y :: t, h => by
    have h1 := h x (by simp)
    have h2 := h y (by simp)
    have h3 := psum_le t (fun z hz => h z (by simp [hz]))
    simp only [psum, List.length_cons]
    omega
/-- The words of the first i pairs. -/
def psumTo (l : List Int) (i : Nat) : Int := psum (l.take (2 * i))
theorem psumTo_zero (l : List Int) : psumTo l 0 = 0 := by simp [psumTo, psum]
theorem psumTo_all (l : List Int) (i : Nat) (h : l.length ≤ 2 * i) : psumTo l i = psum l := by unfold psumTo; rw [List.take_of_length_le h]
theorem psumTo_two (l : List Int) (i : Nat) (h : 2 * i + 1 < l.length) : psumTo l (i + 1) = psumTo l i + (256 * l[2 * i] + l[2 * i + 1]) := by
  unfold psumTo
  have e : l.take (2 * (i + 1)) = l.take (2 * i) ++ [l[2 * i], l[2 * i + 1]] := by
    rw [show 2 * (i + 1) = (2 * i + 1) + 1 from by omega, List.take_succ_eq_append_getElem h, List.take_succ_eq_append_getElem (by omega), List.append_assoc]
    rfl
  rw [e, psum_append _ _ (by rw [List.length_take]; omega)]
  simp [psum]
theorem psumTo_one (l : List Int) (i : Nat) (h : 2 * i + 1 = l.length) : psumTo l (i + 1) = psumTo l i + 256 * l[2 * i] := by
  unfold psumTo
  have e : l.take (2 * (i + 1)) = l.take (2 * i) ++ [l[2 * i]] := by
    rw [List.take_of_length_le (by omega), ← List.take_succ_eq_append_getElem (by omega), List.take_of_length_le (by omega)]
  rw [e, psum_append _ _ (by rw [List.length_take]; omega)]
  simp [psum]
theorem psumTo_le (l : List Int) (h : Bytes l) (i : Nat) : 0 ≤ psumTo l i ∧ psumTo l i ≤ 65535 * (i : Int) := by
  have := psum_le (l.take (2 * i)) (h.take _)
  unfold psumTo
  rw [List.length_take] at this
  omega

theorem psumTo_succ (l : List Int) (k : Nat) (h : 2 * k < l.length) : psumTo l (k + 1) = psumTo l k + (256 * l.getD (2 * k) 0 + l.getD (2 * k + 1) 0) := by
  rw [List.getD_eq_getElem?_getD, List.getElem?_eq_getElem h, Option.getD_some]
  by_cases h2 : 2 * k + 1 < l.length
  · rw [psumTo_two l k h2, List.getD_eq_getElem?_getD, List.getElem?_eq_getElem h2]; rfl
  · rw [psumTo_one l k (by omega), List.getD_eq_getElem?_getD, List.getElem?_eq_none (by omega)]; simp

/-- A sum, its carries added on. -/
def nrm (n : Int) : Int := if n = 0 then 0 else (n - 1) % 65535 + 1
theorem nrm_small (n : Int) (h0 : 0 ≤ n) (h : n < 65536) : nrm n = n := by unfold nrm; split <;> omega
theorem nrm_step (n : Int) (h : 65536 ≤ n) : nrm (n % 65536 + n / 65536) = nrm n := by
  unfold nrm
  rw [if_neg (by omega), if_neg (by omega)]
  omega
theorem nrm_range (n : Int) (h0 : 0 ≤ n) : 0 ≤ nrm n ∧ nrm n < 65536 := by unfold nrm; split <;> omega
/-- The checksum. -/
def csum (l : List Int) : Int := 65535 - nrm (psum l)
theorem csum_range (l : List Int) (h : Bytes l) : 0 ≤ csum l ∧ csum l < 65536 := by
  have := nrm_range (psum l) (psum_le l h).1
  unfold csum
  omega

/-- n bytes of a number, the lowest first. -/
def leN : Nat → Int → List Int
  | 0, _ => []
  | n + 1, x => x % 256 :: leN n (x / 256)
/-- The highest first. -/
def beN (n : Nat) (x : Int) : List Int := (leN n x).reverse
theorem leN_length : ∀ (n : Nat) (x : Int), (leN n x).length = n
  | 0, _ => rfl
  | n + 1, x => by simp [leN, leN_length n]
theorem beN_length (n : Nat) (x : Int) : (beN n x).length = n := by simp [beN, leN_length]
theorem leN_bytes : ∀ (n : Nat) (x : Int), Bytes (leN n x)
  | 0, _ => Bytes.nil
  | n + 1, x => fun y hy => by
    rcases List.mem_cons.1 hy with rfl | h
    · omega
    · exact leN_bytes n _ y h
theorem beN_bytes (n : Nat) (x : Int) : Bytes (beN n x) := fun y hy => leN_bytes n x y (List.mem_reverse.1 hy)
theorem leN_snoc : ∀ (n : Nat) (x : Int), leN (n + 1) x = leN n x ++ [x / 256 ^ n % 256]
  | 0, x => by simp [leN]
  | n + 1, x => by
    rw [leN, leN_snoc n (x / 256), leN, List.cons_append, Int.ediv_ediv_of_nonneg (by omega), Int.pow_succ, Int.mul_comm (256 ^ n) 256]
theorem pow256 (n : Nat) : (256 : Int) ^ n = 2 ^ (8 * n) := by rw [Int.pow_mul]; rfl
theorem leN_snoc2 (n : Nat) (x : Int) : leN (n + 1) x = leN n x ++ [x / 2 ^ (8 * n) % 256] := by rw [leN_snoc, pow256]
/-- A row whose i outer pairs have changed places. -/
def revTo (l : List Int) (i : Nat) : List Int := (List.range l.length).map fun j => if j < i ∨ l.length - 1 - j < i then l.getD (l.length - 1 - j) 0 else l.getD j 0
theorem revTo_length (l : List Int) (i : Nat) : (revTo l i).length = l.length := by simp [revTo]
theorem revTo_get (l : List Int) (i j : Nat) (h : j < l.length) : (revTo l i).getD j 0 = if j < i ∨ l.length - 1 - j < i then l.getD (l.length - 1 - j) 0 else l.getD j 0 := by
  unfold revTo
  rw [List.getD_eq_getElem?_getD, List.getElem?_map, List.getElem?_range h]
  rfl
theorem list_ext (a b : List Int) (hl : a.length = b.length) (h : ∀ j, j < a.length → a.getD j 0 = b.getD j 0) : a = b := by
  apply List.ext_getElem hl
  intro j h1 h2
  have := h j h1
  simpa [List.getD_eq_getElem?_getD, h1, h2] using this
theorem getD_set (l : List Int) (i j : Nat) (x : Int) (h : j < l.length) : (l.set i x).getD j 0 = if i = j then x else l.getD j 0 := by
  rw [List.getD_eq_getElem?_getD, List.getElem?_set]
  by_cases e : i = j
  · subst e; simp [h]
  · simp [e, List.getD_eq_getElem?_getD]
theorem revTo_zero (l : List Int) : revTo l 0 = l := by
  refine list_ext _ _ (revTo_length l 0) fun j h => ?_
  rw [revTo_length] at h
  rw [revTo_get l 0 j h, if_neg (by omega)]
theorem revTo_all (l : List Int) (i : Nat) (h : l.length ≤ 2 * i + 1) : revTo l i = l.reverse := by
  refine list_ext _ _ (by rw [revTo_length, List.length_reverse]) fun j hj => ?_
  rw [revTo_length] at hj
  have er : l.reverse.getD j 0 = l.getD (l.length - 1 - j) 0 := by
    rw [List.getD_eq_getElem?_getD, List.getElem?_reverse hj, ← List.getD_eq_getElem?_getD]
  rw [revTo_get l i j hj, er]
  split
  · rfl
  · rw [show l.length - 1 - j = j by omega]
theorem revTo_step (l : List Int) (i : Nat) (h : 2 * i + 1 < l.length) :
    ((revTo l i).set i ((revTo l i).getD (l.length - 1 - i) 0)).set (l.length - 1 - i) ((revTo l i).getD i 0) = revTo l (i + 1) := by
  refine list_ext _ _ (by simp [revTo_length]) fun j hj => ?_
  rw [List.length_set, List.length_set, revTo_length] at hj
  rw [getD_set _ _ _ _ (by rw [List.length_set, revTo_length]; exact hj), getD_set _ _ _ _ (by rw [revTo_length]; exact hj), revTo_get l i i (by omega), revTo_get l i (l.length - 1 - i) (by omega), revTo_get l i j hj, revTo_get l (i + 1) j hj]
  by_cases e1 : l.length - 1 - i = j
  · rw [if_pos e1, if_neg (by omega), if_pos (by omega)]
    congr 1; omega
  · rw [if_neg e1]
    by_cases e2 : i = j
    · rw [if_pos e2, if_neg (by omega), if_pos (by omega)]
      congr 1; omega
    · rw [if_neg e2]
      by_cases c : j < i ∨ l.length - 1 - j < i
      · rw [if_pos c, if_pos (by omega)]
      · rw [if_neg c, if_neg (by omega)]

theorem beN_zero (x : Int) : beN 0 x = [] := rfl
theorem beN_cons (n : Nat) (x : Int) : beN (n + 1) x = (x / 2 ^ (8 * n) % 256) :: beN n x := by unfold beN; rw [leN_snoc2, List.reverse_append]; rfl
/-- What bytes say, the highest first. -/
def beV : List Int → Int
  | [] => 0
  | a :: t => a * 256 ^ t.length + beV t
theorem beV_snoc : ∀ (l : List Int) (b : Int), beV (l ++ [b]) = beV l * 256 + b
  | [], b => by simp [beV]
  | a :: t, b => by
    rw [List.cons_append, beV, beV_snoc t b, beV, List.length_append, List.length_singleton, Int.pow_succ, Int.add_mul, ← Int.mul_assoc]
    omega
theorem beV_range : ∀ (l : List Int), Bytes l → 0 ≤ beV l ∧ beV l < 256 ^ l.length
  | [], _ => by simp [beV]
  | a :: t, h => by
    have h1 := beV_range t (fun x hx => h x (by simp [hx]))
    have h2 := h a (by simp)
    rw [beV, List.length_cons, Int.pow_succ]
    have h3 : (0 : Int) < 256 ^ t.length := Int.pow_pos (by omega)
    have h4 : 0 ≤ a * 256 ^ t.length := Int.mul_nonneg h2.1 (Int.le_of_lt h3)
    have h5 : a * 256 ^ t.length ≤ 255 * 256 ^ t.length := Int.mul_le_mul_of_nonneg_right (by omega) (Int.le_of_lt h3)
    omega

/-- What the last i bytes say. -/
def lastV (l : List Int) (i : Nat) : Int := beV (l.drop (l.length - i))
theorem lastV_zero (l : List Int) : lastV l 0 = 0 := by unfold lastV; rw [Nat.sub_zero, List.drop_length]; rfl
theorem lastV_all (l : List Int) : lastV l l.length = beV l := by unfold lastV; rw [Nat.sub_self]; rfl
theorem lastV_succ (l : List Int) (i : Nat) (h : i < l.length) : lastV l (i + 1) = l.getD (l.length - 1 - i) 0 * 2 ^ (8 * i) + lastV l i := by
  unfold lastV
  have hlt : l.length - (i + 1) < l.length := by omega
  rw [List.drop_eq_getElem_cons hlt, beV, List.length_drop, show l.length - (l.length - (i + 1) + 1) = i by omega, show l.length - (i + 1) + 1 = l.length - i by omega, pow256, List.getD_eq_getElem?_getD, show l.length - 1 - i = l.length - (i + 1) by omega, List.getElem?_eq_getElem hlt]
  rfl
theorem lastV_range (l : List Int) (h : Bytes l) (i : Nat) (hi : i ≤ l.length) : 0 ≤ lastV l i ∧ lastV l i < 2 ^ (8 * i) := by
  have := beV_range (l.drop (l.length - i)) (h.drop _)
  rw [List.length_drop, show l.length - (l.length - i) = i by omega, pow256] at this
  exact this
/-- A byte put ahead of a number of i bytes. -/
theorem u64_or_ahead (x b : Int) (i : Nat) (hi : i ≤ 7) (hx0 : 0 ≤ x) (hx : x < 2 ^ (8 * i)) (hb0 : 0 ≤ b) (hb : b < 256) : bits .or .u64 x (b * 2 ^ (8 * i)) = b * 2 ^ (8 * i) + x := by
  obtain ⟨X, rfl⟩ := Int.eq_ofNat_of_zero_le hx0
  obtain ⟨B, rfl⟩ := Int.eq_ofNat_of_zero_le hb0
  have hX : X < 2 ^ (8 * i) := by exact_mod_cast hx
  have hB : B < 256 := by omega
  have hp : 2 ^ (8 * i) ≤ 2 ^ 56 := Nat.pow_le_pow_right (by decide) (by omega)
  have h1 : B * 2 ^ (8 * i) ≤ 255 * 2 ^ (8 * i) := Nat.mul_le_mul_right _ (by omega)
  have h := (bits_nat .u64 64 (by decide) (fun n h0 h1 => by rw [show IntKind.u64.wrap n = n % 18446744073709551616 from by simp [IntKind.wrap, IntKind.bits, IntKind.signed]]; omega) X (B * 2 ^ (8 * i)) (by omega) (by omega)).2
  have e1 : ((B : Int) * 2 ^ (8 * i)) = ((B * 2 ^ (8 * i) : Nat) : Int) := by push_cast; rfl
  rw [e1, h]
  have e2 : X ||| B * 2 ^ (8 * i) = B * 2 ^ (8 * i) + X := by
    rw [Nat.or_comm, Nat.mul_comm B]
    exact (Nat.two_pow_add_eq_or_of_lt hX B).symm
  rw [e2]
  omega

/-- What the first i bytes say. -/
def firstV (l : List Int) (i : Nat) : Int := beV (l.take i)
theorem firstV_zero (l : List Int) : firstV l 0 = 0 := rfl
theorem firstV_all (l : List Int) : firstV l l.length = beV l := by unfold firstV; rw [List.take_length]
theorem firstV_succ (l : List Int) (i : Nat) (h : i < l.length) : firstV l (i + 1) = firstV l i * 256 + l.getD i 0 := by
  unfold firstV
  rw [List.take_succ_eq_append_getElem h, beV_snoc, List.getD_eq_getElem?_getD, List.getElem?_eq_getElem h]
  rfl
theorem firstV_range (l : List Int) (h : Bytes l) (i : Nat) (hi : i ≤ l.length) : 0 ≤ firstV l i ∧ firstV l i < 2 ^ (8 * i) := by
  have := beV_range (l.take i) (h.take _)
  rw [List.length_take, show min i l.length = i by omega, pow256] at this
  exact this
theorem Bytes.getD {l : List Int} (h : Bytes l) (i : Nat) : 0 ≤ l.getD i 0 ∧ l.getD i 0 < 256 := by
  rw [List.getD_eq_getElem?_getD]
  cases hq : l[i]? with
  | none => simp
  | some y => exact h y (List.mem_of_getElem? hq)
theorem nrm_add (p q : Int) (hp : 0 ≤ p) (hq : 0 ≤ q) (hq2 : q < 65536) : nrm (p + q) = if nrm p + q > 65535 then nrm p + q - 65535 else nrm p + q := by
  unfold nrm
  split <;> split <;> split <;> omega

/-- The Mss of options. -/
def mssF : Nat → List Int → Int → Bool → Int × Bool
  | 0, _, found, _ => (found, true)
  | k + 1, l, found, met =>
    if l.length = 0 then (found, true) else
    if l.getD 0 0 = 0 then (found, true) else
    if l.getD 0 0 = 1 then mssF k (l.drop 1) found met else
    if l.length < 2 ∨ l.getD 1 0 < 2 ∨ (l.length : Int) < l.getD 1 0 then (0, false) else
    if l.getD 0 0 = 2 ∧ l.getD 1 0 = 4 ∧ met = false then mssF k (l.drop (l.getD 1 0).toNat) (beV ((l.take 4).drop 2)) true else
    mssF k (l.drop (l.getD 1 0).toNat) found met
def mssO (l : List Int) : Int × Bool := mssF l.length l 0 false

theorem i64_and16 (n : Int) : bits .and .i64 n 65535 = n % 65536 := by
  have h127 : (BitVec.ofInt 64 65535).toNat = 2 ^ 16 - 1 := by decide
  have key : (BitVec.ofInt 64 n &&& BitVec.ofInt 64 65535).toNat = (n % ((2 ^ 64 : Nat) : Int)).toNat % 2 ^ 16 := by
    rw [BitVec.toNat_and, BitVec.toNat_ofInt, h127, Nat.and_two_pow_sub_one_eq_mod]
  show IntKind.i64.wrap ((BitVec.ofInt 64 n &&& BitVec.ofInt 64 65535).toNat : Nat) = n % 65536
  rw [key, IntKind.wrap_i64]
  omega
theorem nat_xor16 (a : Nat) (h : a < 65536) : a ^^^ 65535 = 65535 - a := by
  apply Nat.eq_of_testBit_eq
  intro i
  have e : 65535 - a = 2 ^ 16 - (a + 1) := by omega
  rw [e, Nat.testBit_two_pow_sub_succ (by omega), Nat.testBit_xor, show (65535 : Nat) = 2 ^ 16 - 1 from rfl, Nat.testBit_two_pow_sub_one]
  by_cases hi : i < 16
  · simp [hi]
  · have : a.testBit i = false := Nat.testBit_lt_two_pow (Nat.lt_of_lt_of_le (show a < 2 ^ 16 from h) (Nat.pow_le_pow_right (show 0 < 2 by decide) (show 16 ≤ i by omega)))
    simp [hi, this]
theorem i64_xor16 (n : Int) (h0 : 0 ≤ n) (h : n < 65536) : bits .xor .i64 n 65535 = 65535 - n := by
  obtain ⟨a, rfl⟩ := Int.eq_ofNat_of_zero_le h0
  have ha : a < 65536 := by omega
  show IntKind.i64.wrap ((BitVec.ofInt 64 (a : Int) ^^^ BitVec.ofInt 64 (65535 : Int)).toNat : Nat) = _
  have e1 : (BitVec.ofInt 64 (a : Int)).toNat = a := by
    rw [BitVec.ofInt_natCast, BitVec.toNat_ofNat]
    exact Nat.mod_eq_of_lt (by omega)
  have e2 : (BitVec.ofInt 64 (65535 : Int)).toNat = 65535 := by decide
  rw [BitVec.toNat_xor, e1, e2, nat_xor16 a ha, IntKind.wrap_i64]
  omega
theorem wraps_i64 (n : Int) (h₀ : 0 ≤ n) (h₁ : n < 2 ^ 63) : IntKind.i64.wrap n = n := by rw [IntKind.wrap_i64]; omega
theorem i64_or8 (x y : Int) (h0 : 0 ≤ x) (h1 : x < 256) (h2 : 0 ≤ y) (h3 : y < 256) : bits .or .i64 (x * 256) y = 256 * x + y := by
  obtain ⟨a, rfl⟩ := Int.eq_ofNat_of_zero_le h0
  obtain ⟨b, rfl⟩ := Int.eq_ofNat_of_zero_le h2
  have h := (bits_nat .i64 63 (by decide) wraps_i64 (a * 256) b (by omega) (by omega)).2
  rw [show ((a : Int) * 256) = ((a * 256 : Nat) : Int) by omega, h]
  have e : a * 256 ||| b = a * 256 + b := by
    rw [show a * 256 = 2 ^ 8 * a by omega]
    exact (Nat.two_pow_add_eq_or_of_lt (by omega) a).symm
  rw [e]
  omega

end Go.Proofs.Ytndkaffkdjaaoaa.H
/- Contracts of bits.Put, bits.Get and of their references, in the print's form. -/
namespace Go.Proofs.Ytndkaffkdjaaoaa.H
open Go.RowKit Go.Proofs.YtndkaffkdjaaoaaW.PrintWords Go.Proofs.YtndkaffkdjaaoaaW.PrintLast Go.Proofs.YtndkaffkdjaaoaaW.PrintMore
set_option linter.unusedVariables false
set_option linter.unusedSimpArgs false

def bits_Put.f (a0 : Int) (a1 : Int) (a2 : Bool) : Option (List Int) := if (0 ≤ a0 ∧ a0 < 18446744073709551616) ∧ (1 ≤ a1 ∧ a1 ≤ 8) ∧ a2 = true then some (beN a1.toNat a0) else none

/-- The first k bytes are written, the lowest first. -/
def upto (n k : Nat) (x : Int) : List Int := leN k x ++ List.replicate (n - k) 0
theorem upto_length (n k : Nat) (x : Int) (h : k ≤ n) : (upto n k x).length = n := by unfold upto; rw [List.length_append, leN_length, List.length_replicate]; omega
theorem upto_zero (n : Nat) (x : Int) : upto n 0 x = List.replicate n 0 := by simp [upto, leN]
theorem upto_all (n : Nat) (x : Int) : upto n n x = leN n x := by simp [upto]
theorem upto_set (n k : Nat) (x : Int) (h : k < n) : (upto n k x).set k (x / 2 ^ (8 * k) % 256) = upto n (k + 1) x := by
  unfold upto
  rw [List.set_append_right _ _ (by rw [leN_length]; exact Nat.le_refl _), leN_length, Nat.sub_self, leN_snoc2, List.append_assoc]
  congr 1
  rw [show n - k = (n - (k + 1)) + 1 by omega, List.replicate_succ]
  rfl

set_option maxHeartbeats 1600000 in
set_option maxRecDepth 100000 in
/-- slices.Reverse of a row of the call's own. -/
theorem slices_Reverse_own (w0 w : World) (g cap n : Nat) (l : List Int) (hn : n = l.length) (hp : 0 < n) (hb : Below w0.heap.size w0 w) (ho : Kd.R (Kd.int .u8) 5 w w0.heap.size (fun _ => True) (.slice (some ⟨g, 0, none⟩) n cap) l) (hgb : w0.heap.size ≤ g) :
    Calls Try.prog 39 #[.slice (some ⟨g, 0, none⟩) n cap] w fun e w' => e = .returned (.tuple #[]) ∧ Kd.R (Kd.int .u8) 5 w' w0.heap.size (fun _ => True) (.slice (some ⟨g, 0, none⟩) n cap) l.reverse ∧ Below w0.heap.size w0 w' := by
  have hm : n ≤ 9223372036854775807 := by rw [hn]; exact ((Kd.R_reads' ho).2.2).2.1
  have HN := Aside0.mk hn
  clear hn
  go_enter Try.func39, Try.ntmps39
  go_wp2
  go_loopw [2, 3] (fun i j W => ∃ k : Nat, 2 * k ≤ n ∧ i = .int .i64 k ∧ j = .int .i64 ((n : Int) - 1 - k) ∧ Aside0 (Kd.R (Kd.int .u8) 5 W w0.heap.size (fun _ => True) (.slice (some ⟨g, 0, none⟩) n cap) (revTo l k)) ∧ Aside0 (Below w0.heap.size w0 W)) (fun i _ _ => n - (intOf i).toNat)
  case atStart => exact ⟨0, by omega, rfl, by simp, ⟨by rw [revTo_zero]; exact ho⟩, ⟨hb⟩⟩
  case round =>
    obtain ⟨k, hk, rfl, rfl, HO, HB⟩ := hrel
    by_cases hlt : 2 * k + 1 < n
    · obtain ⟨hc, hf⟩ := Kd.R_celln (0 : Int) HO.out (k : Int) (by omega) (by omega)
      obtain ⟨hc2, hf2⟩ := Kd.R_celln (0 : Int) HO.out ((n : Int) - 1 - k) (by omega) (by omega)
      have ej : ((n : Int) - 1 - k).toNat = n - 1 - k := by omega
      rw [ej] at hc2 hf2
      simp only [Int.toNat_natCast] at hc hf
      have hi1 : (k : Int) ≤ (n : Int) - 1 := by omega
      have hi2 : (n : Int) - 1 - k < n := by omega
      have hst := Aside0.mk (revTo_step l k (by rw [← HN.out]; omega))
      have hO2 := Aside0.mk (Kd.R_putn (Kd.R_putn HO.out (k : Int) (rdOf 0 (revTo l k) ((n : Int) - 1 - k))) ((n : Int) - 1 - k) (rdOf 0 (revTo l k) (k : Int)))
      have hHB := Aside0.mk ((HB.out.setCell (p := ⟨g, k, none⟩) hgb (.int .u8 (rdOf 0 (revTo l k) ((n : Int) - 1 - k)))).setCell (p := ⟨g, n - 1 - k, none⟩) hgb (.int .u8 (rdOf 0 (revTo l k) (k : Int))))
      generalize hA : rdOf 0 (revTo l k) (k : Int) = A at *
      generalize hB : rdOf 0 (revTo l k) ((n : Int) - 1 - k) = B at *
      have HA := Aside0.mk hA
      have HB' := Aside0.mk hB
      rw [ej] at hO2
      simp only [Int.toNat_natCast] at hO2
      clear hA hB ej
      go_wp2
      go_region
      all_goals go_wp2
      all_goals go_roundw
      case rel =>
        have eA : (revTo l k).getD k 0 = A := by rw [← HA.out]; unfold rdOf; rw [Int.toNat_natCast]
        have eB : (revTo l k).getD (l.length - 1 - k) 0 = B := by
          rw [← HB'.out, ← HN.out]; unfold rdOf
          rw [show ((n : Int) - 1 - k).toNat = n - 1 - k by omega]
        have e3 := hst.out
        rw [eA, eB, ← HN.out] at e3
        exact ⟨k + 1, by omega, by go_num, by congr 1; omega, ⟨by rw [← e3]; exact Kd.R_drew hO2.out⟩, ⟨hHB.out.drew⟩⟩
      case measure => simp [intOf]; omega
    · have hge : ¬ ((k : Int) < (n : Int) - 1 - k) := by omega
      go_wp2
      go_end0
      exact ⟨rfl, by rw [← revTo_all l k (by rw [← HN.out]; omega)]; exact HO.out, HB.out⟩

set_option maxHeartbeats 1600000 in
set_option maxRecDepth 100000 in
theorem bits_Put_walk (x : Int) (n : Nat) (w : World) (h0 : 0 ≤ x) (h1 : x < 18446744073709551616) (hn0 : 1 ≤ n) (hn : n ≤ 8) :
    Calls Try.prog 20 #[.int .u64 x, .int .i64 n, .bool true] w fun e w' => ∃ v0_ : Value, e = .returned (v0_) ∧ Kd.R (Kd.int .u8) 5 w' w.heap.size (fun _ => True) v0_ (beN n x) ∧ Below w.heap.size w w' := by
  go_enter Try.func20, Try.ntmps20
  go_wp2_with (((with_reducible refine gate_dst (N := 12) rfl ?_); refine Kd.R_make (Kd.int .u8) (w0 := w) w.heap.size 5 rfl (N := 12) rfl 23 _ _ rfl n rfl rfl Try.underlying23 (.int .u8 0) 1 info8 rfl (by decide) (by omega) 0 (ok := fun _ => True) (okp := fun _ => True) rfl (fun _ hk => hk) trivial (by omega) (by omega) (Below.refl _ _) (Nat.le_refl _) ?_; intro v1 w1 ho1 hb1 hg1 hat1; clear hg1 hat1; simp only [Int.toNat_natCast] at ho1; obtain ⟨g, cap, e1, hgb, hgl⟩ := Kd.R_form ho1 (by simp; omega); rw [List.length_replicate] at e1; subst e1))
  go_loopw [15] (fun i W => ∃ k : Nat, k ≤ n ∧ i = .int .i64 k ∧ Aside0 (Kd.R (Kd.int .u8) 5 W w.heap.size (fun _ => True) (.slice (some ⟨g, 0, none⟩) n cap) (upto n k x)) ∧ Aside0 (Below w.heap.size w W)) (fun i _ => n - (intOf i).toNat)
  case atStart => exact ⟨0, Nat.zero_le _, rfl, ⟨by rw [upto_zero]; exact ho1⟩, ⟨hb1⟩⟩
  case round =>
    obtain ⟨k, hk, rfl, HO, HB⟩ := hrel
    by_cases hlt : k < n
    · obtain ⟨hc, hf⟩ := Kd.R_celln (0 : Int) HO.out (k : Int) (by omega) (by omega)
      simp only [Int.toNat_natCast] at hc hf
      have hO2 := Aside0.mk (Kd.R_putn HO.out (k : Int) (x / 2 ^ (8 * k) % 256))
      have hset := Aside0.mk (upto_set n k x hlt)
      go_wp2
      go_roundw
      case rel => exact ⟨k + 1, by omega, by go_num, ⟨by rw [← hset.out]; exact hO2.out⟩, ⟨HB.out.setCell hgb _⟩⟩
      case measure => simp [intOf]; omega
    · obtain rfl : k = n := by omega
      rw [upto_all] at HO
      go_wp2_with (go_at_call 39; (with_reducible refine (slices_Reverse_own w _ g cap k (leN k x) (leN_length k x).symm (by omega) HB.out HO.out hgb).mono ?_); rintro e w2 ⟨rfl, ho2, hb2⟩)
      go_ret
      exact ⟨_, rfl, ho2, hb2⟩

theorem bits_Put.calls (a0 : Int) (a1 : Int) (a2 : Bool) (r : List Int) (w : World) (h : bits_Put.f a0 a1 a2 = some r) :
    Calls Try.prog 20 #[.int .u64 a0, .int .i64 a1, .bool a2] w fun e w' => ∃ v0_ : Value, e = .returned (v0_) ∧ Kd.R (Kd.int .u8) 5 w' w.heap.size (fun _ => True) v0_ r ∧ Below w.heap.size w w' := by
  unfold bits_Put.f at h
  by_cases c : (0 ≤ a0 ∧ a0 < 18446744073709551616) ∧ (1 ≤ a1 ∧ a1 ≤ 8) ∧ a2 = true
  · rw [if_pos c] at h
    obtain ⟨⟨h0, h1⟩, ⟨h2, h3⟩, rfl⟩ := c
    obtain rfl := Option.some.inj h
    obtain ⟨n, rfl⟩ := Int.eq_ofNat_of_zero_le (show 0 ≤ a1 by omega)
    rw [Int.toNat_natCast]
    exact bits_Put_walk a0 n w h0 h1 (by omega) (by omega)
  · rw [if_neg c] at h
    cases h

def bits_Get.f (l0 : List Int) (a1 : Bool) : Option Int := if Bytes l0 ∧ l0.length ≤ 8 ∧ a1 = true then some (beV l0) else none

set_option maxHeartbeats 1600000 in
set_option maxRecDepth 100000 in
theorem bits_Get_walk (A0 : Option Addr) (c0 : Nat) (l0 : List Int) (w : World) (hr0 : Kd.C (Kd.int .u8) w A0 l0.length l0) (hc0 : l0.length ≤ c0) (hb : Bytes l0) (hl : l0.length ≤ 8) :
    Calls Try.prog 32 #[.slice A0 l0.length c0, .bool true] w fun e w' => e = .returned (.int .u64 (beV l0)) ∧ w = w' := by
  have HBy := Aside0.mk hb
  clear hb
  go_enter Try.func32, Try.ntmps32
  go_wp2
  go_loop [5, 13] (fun x i => ∃ k : Nat, k ≤ l0.length ∧ i = .int .i64 k ∧ x = .int .u64 (lastV l0 k)) (fun _ i => l0.length - (intOf i).toNat)
  case atStart => exact ⟨0, Nat.zero_le _, rfl, by rw [lastV_zero]⟩
  case round =>
    obtain ⟨k, hk, rfl, rfl⟩ := hrel
    by_cases hlt : k < l0.length
    · obtain ⟨ad, rfl, hc⟩ := Kd.at_int hr0 ((l0.length : Int) - 1 - k) (by omega) (by omega)
      have ej : ((l0.length : Int) - 1 - k).toNat = l0.length - 1 - k := by omega
      rw [ej] at hc
      have hB : 0 ≤ rd l0 ((l0.length : Int) - 1 - k) ∧ rd l0 ((l0.length : Int) - 1 - k) < 256 := by
        unfold rd
        rw [ej, List.getD_eq_getElem?_getD, List.getElem?_eq_getElem (by omega)]
        exact HBy.out.get _ (by omega)
      have hrg := lastV_range l0 HBy.out k hk
      have hs := lastV_succ l0 k hlt
      rw [show l0.getD (l0.length - 1 - k) 0 = rd l0 ((l0.length : Int) - 1 - k) from by unfold rd; rw [ej]] at hs
      generalize rd l0 ((l0.length : Int) - 1 - k) = B at *
      have hor := u64_or_ahead (lastV l0 k) B k (by omega) hrg.1 hrg.2 hB.1 hB.2
      have hp0 : (0 : Int) ≤ B * 2 ^ (8 * k) := Int.mul_nonneg hB.1 (Int.le_of_lt (Int.pow_pos (by omega)))
      have hp1 : B * 2 ^ (8 * k) < 18446744073709551616 := by
        have h1 : (2 : Int) ^ (8 * k) ≤ 2 ^ 56 := by exact_mod_cast Nat.pow_le_pow_right (show 0 < 2 by decide) (show 8 * k ≤ 56 by omega)
        have h2 : B * 2 ^ (8 * k) ≤ 255 * 2 ^ (8 * k) := Int.mul_le_mul_of_nonneg_right (by omega) (Int.le_of_lt (Int.pow_pos (by omega)))
        omega
      obtain ⟨hB0, hB1⟩ := hB
      have HS := Aside0.mk hs
      clear hs hrg ej
      go_wp2
      go_round
      case rel => exact ⟨k + 1, by omega, by go_num, by rw [HS.out]⟩
      case measure => simp [intOf]; omega
    · obtain rfl : k = l0.length := by omega
      rw [lastV_all]
      go_wp2
      go_ret
      exact ⟨rfl, rfl⟩

end Go.Proofs.Ytndkaffkdjaaoaa.H
/- Contracts of the references for bits and sums, in the print's form. -/
namespace Go.Proofs.Ytndkaffkdjaaoaa.H
open Go.RowKit Go.Proofs.YtndkaffkdjaaoaaW.PrintWords Go.Proofs.YtndkaffkdjaaoaaW.PrintLast Go.Proofs.YtndkaffkdjaaoaaW.PrintMore
set_option linter.unusedVariables false
set_option linter.unusedSimpArgs false

/-- A cell that does not stand first, as the walk spells it. -/
theorem cell_succ {w : World} {ad : Addr} {j : Nat} {v : Value} (h : w.cell? (ad.add (j + 1)) = some v) : w.cell? ⟨ad.block, ad.off + (j + 1), none⟩ = some v := h
theorem rd_nat (l : List Int) (i : Nat) : rd l (i : Int) = l.getD i 0 := by unfold rd; rw [Int.toNat_natCast]

set_option maxHeartbeats 1600000 in
set_option maxRecDepth 100000 in
theorem ref01_Get_walk (A0 : Option Addr) (c0 : Nat) (l0 : List Int) (w : World) (hr0 : Kd.C (Kd.int .u8) w A0 l0.length l0) (hc0 : l0.length ≤ c0) (hb : Bytes l0) (hl : l0.length ≤ 8) :
    Calls Try.prog 43 #[.slice A0 l0.length c0, .bool true] w fun e w' => e = .returned (.int .u64 (beV l0)) ∧ w = w' := by
  have HBy := Aside0.mk hb
  clear hb
  go_enter Try.func43, Try.ntmps43
  go_wp2
  go_loop [5, 7] (fun x i => ∃ k : Nat, k ≤ l0.length ∧ i = .int .i64 k ∧ x = .int .u64 (firstV l0 k)) (fun _ i => l0.length - (intOf i).toNat)
  case atStart => exact ⟨0, Nat.zero_le _, rfl, by rw [firstV_zero]⟩
  case round =>
    obtain ⟨k, hk, rfl, rfl⟩ := hrel
    by_cases hlt : k < l0.length
    · obtain ⟨ad, rfl, hc⟩ := Kd.at_int hr0 (k : Int) (by omega) (by omega)
      rw [Int.toNat_natCast, rd_nat] at hc
      have hB := HBy.out.getD k
      have hrg := firstV_range l0 HBy.out k hk
      have hs := firstV_succ l0 k hlt
      generalize l0.getD k 0 = B at *
      have hp1 : firstV l0 k < 72057594037927936 := by
        have h1 : (2 : Int) ^ (8 * k) ≤ 2 ^ 56 := by exact_mod_cast Nat.pow_le_pow_right (show 0 < 2 by decide) (show 8 * k ≤ 56 by omega)
        omega
      obtain ⟨hB0, hB1⟩ := hB
      have hF0 := hrg.1
      have HS := Aside0.mk hs
      clear hs hrg
      go_wp2
      go_round
      case rel => exact ⟨k + 1, by omega, by go_num, by rw [HS.out]⟩
      case measure => simp [intOf]; omega
    · obtain rfl : k = l0.length := by omega
      rw [firstV_all]
      go_wp2
      go_ret
      exact ⟨rfl, rfl⟩

set_option maxHeartbeats 1600000 in
set_option maxRecDepth 100000 in
theorem ref01_Put_walk (x : Int) (n : Nat) (w : World) (h0 : 0 ≤ x) (h1 : x < 18446744073709551616) (hn : n ≤ 8) :
    Calls Try.prog 42 #[.int .u64 x, .int .i64 n, .bool true] w fun e w' => ∃ v0_ : Value, e = .returned (v0_) ∧ Kd.R (Kd.int .u8) 5 w' w.heap.size (fun _ => True) v0_ (beN n x) ∧ Below w.heap.size w w' := by
  go_enter Try.func42, Try.ntmps42
  go_wp2
  go_loopw [7, 8] (fun b i W => ∃ k : Nat, k ≤ n ∧ i = .int .i64 k ∧ Aside0 (Kd.R (Kd.int .u8) 5 W w.heap.size (fun _ => True) b (beN k x)) ∧ Aside0 (Below w.heap.size w W)) (fun _ i _ => n - (intOf i).toNat)
  case atStart => exact ⟨0, by omega, rfl, ⟨Kd.R_nil _ _ _ _ _⟩, ⟨Below.refl _ _⟩⟩
  case round =>
    obtain ⟨k, hk, rfl, HO, HB⟩ := hrel
    by_cases hlt : k < n
    · have h8 : (k : Int) < 8 := by omega
      have hcons := Aside0.mk (beN_cons k x)
      obtain ⟨A7, c7, e7⟩ := Kd.R_slice HO.out
      subst e7
      have HL7 := Aside0.mk (beN_length k x)
      go_wp2_with (first | ((with_reducible refine gate_dst (N := 27) rfl ?_); refine Kd.R_lit (Kd.int .u8) (w0 := w) w.heap.size 5 ?hg (N := 27) ?hd (xs := [x / 2 ^ (8 * k) % 256]) (inner := [.int .u8 (x / 2 ^ (8 * k) % 256)]) (ok := fun _ => True) (okp := fun _ => True) ?hr ?hp (fun _ hk => hk) trivial HB.out HB.out.size (by simp) ?_; (case hd => rfl); (case hg => rfl); (case hr => first | (go_simp; done) | (go_simp; rfl)); (case hp => exact Reps.one rfl (Reps.none _ _)); intro v1 w1 ho1 hb1 hg1 hnew1; have HO1 := Aside0.mk ho1; have HB1 := Aside0.mk hb1; have HG1 := Aside0.mk hg1; clear ho1 hb1 hg1 hnew1; obtain ⟨A1, c1, e1⟩ := Kd.R_slice HO1.out; subst e1) | ((with_reducible refine gate_builtin (b := .append) (xs := #[.tmp 27, .tmp 28]) rfl ?_); at_builtin; refine Kd.R_append_rows (Kd.int .u8) (w0 := w) w.heap.size rfl (.tmp 27) (.tmp 28) 23 5 (.int .u8 0) 1 rfl Try.underlying23 info8 rfl (by decide) (by omega) _ [x / 2 ^ (8 * k) % 256] (beN k x) _ _ _ (fun _ => True) (fun _ => False) rfl rfl HO1.out (Kd.R_reads' (Kd.R_grown HO.out HG1.out (fun _ _ => by simp))).2.2 (fun _ _ h => h) (fun _ h => h.elim) (fun _ _ => trivial) HB1.out HB1.out.size (by have := HL7.out; simp only [List.length_singleton]; omega) ?_; intro v2 w2 ho2 hb2 hg_ hat_; clear hg_ hat_; have HO2 := Aside0.mk ho2; have HB2 := Aside0.mk hb2; clear ho2 hb2))
      go_roundw
      case rel => exact ⟨k + 1, by omega, by go_num, ⟨by rw [hcons.out]; exact HO2.out⟩, HB2⟩
      case measure => simp [intOf]; omega
    · obtain rfl : k = n := by omega
      go_wp2
      go_ret
      exact ⟨_, rfl, HO.out, HB.out⟩

def drawbridgeref15_Sum.f (l0 : List Int) : Option Int := if Bytes l0 ∧ l0.length < 140737488355328 then some (csum l0) else none

set_option maxHeartbeats 1600000 in
set_option maxRecDepth 100000 in
theorem ref15_Sum_walk (A0 : Option Addr) (c0 : Nat) (l0 : List Int) (w : World) (hr0 : Kd.C (Kd.int .u8) w A0 l0.length l0) (hc0 : l0.length ≤ c0) (hb : Bytes l0) (hl : l0.length < 140737488355328) :
    Calls Try.prog 27 #[.slice A0 l0.length c0] w fun e w' => e = .returned (.int .i64 (csum l0)) ∧ w = w' := by
  have HBy := Aside0.mk hb
  clear hb
  go_enter Try.func27, Try.ntmps27
  go_wp2
  go_loop [3, 4] (fun s i => ∃ k : Nat, 2 * k ≤ l0.length + 1 ∧ i = .int .i64 (2 * (k : Int)) ∧ s = .int .i64 (nrm (psumTo l0 k))) (fun _ i => l0.length + 1 - (intOf i).toNat)
  case atStart => exact ⟨0, by omega, rfl, by rw [psumTo_zero]; rfl⟩
  case round =>
    obtain ⟨k, hk, rfl, rfl⟩ := hrel
    by_cases hlt : 2 * k < l0.length
    · obtain ⟨ad, rfl, hc⟩ := Kd.at_int hr0 (2 * (k : Int)) (by omega) (by omega)
      have e2 : (2 * (k : Int)).toNat = 2 * k := by omega
      have er : rd l0 (2 * (k : Int)) = l0.getD (2 * k) 0 := by unfold rd; rw [e2]
      rw [e2, er] at hc
      have hx := HBy.out.getD (2 * k)
      have hy := HBy.out.getD (2 * k + 1)
      have hp := psumTo_le l0 HBy.out k
      have hs := psumTo_succ l0 k hlt
      have hn := nrm_range _ hp.1
      have ha := nrm_add (psumTo l0 k) (256 * l0.getD (2 * k) 0 + l0.getD (2 * k + 1) 0) hp.1 (by omega) (by omega)
      rw [← hs] at ha
      have HS := Aside0.mk ha
      clear hs ha hp
      by_cases h2 : 2 * k + 1 < l0.length
      · obtain ⟨ad2, e3, hc2⟩ := Kd.at_int hr0 (2 * (k : Int) + 1) (by omega) (by omega)
        obtain rfl := Option.some.inj e3
        have e4 : (2 * (k : Int) + 1).toNat = 2 * k + 1 := by omega
        have er2 : rd l0 (2 * (k : Int) + 1) = l0.getD (2 * k + 1) 0 := by unfold rd; rw [e4]
        rw [e4, er2] at hc2
        replace hc2 := cell_succ hc2
        generalize l0.getD (2 * k) 0 = x at *
        generalize l0.getD (2 * k + 1) 0 = y at *
        generalize nrm (psumTo l0 k) = m at *
        obtain ⟨hx0, hx1⟩ := hx
        obtain ⟨hy0, hy1⟩ := hy
        obtain ⟨hn0, hn1⟩ := hn
        clear e2 er e4 er2
        go_wp2
        all_goals go_round
        case rel => exact ⟨k + 1, by omega, by go_num, by rw [HS.out, if_pos (by omega)]; go_num⟩
        case measure => simp [intOf]; omega
        case rel => exact ⟨k + 1, by omega, by go_num, by rw [HS.out, if_neg (by omega)]; go_num⟩
        case measure => simp [intOf]; omega
      · have hy : l0.getD (2 * k + 1) 0 = 0 := by rw [List.getD_eq_getElem?_getD, List.getElem?_eq_none (by omega)]; rfl
        rw [hy] at HS
        clear hy
        generalize l0.getD (2 * k) 0 = x at *
        generalize nrm (psumTo l0 k) = m at *
        obtain ⟨hx0, hx1⟩ := hx
        obtain ⟨hn0, hn1⟩ := hn
        clear e2 er
        go_wp2
        all_goals go_round
        case rel => exact ⟨k + 1, by omega, by go_num, by rw [HS.out, if_pos (by omega)]; go_num⟩
        case measure => simp [intOf]; omega
        case rel => exact ⟨k + 1, by omega, by go_num, by rw [HS.out, if_neg (by omega)]; go_num⟩
        case measure => simp [intOf]; omega
    · have hall := psumTo_all l0 k (by omega)
      have hn := nrm_range _ (psum_le l0 HBy.out).1
      rw [hall]
      have HC := Aside0.mk (show csum l0 = 65535 - nrm (psum l0) from rfl)
      generalize nrm (psum l0) = m at *
      clear hall
      obtain ⟨hn0, hn1⟩ := hn
      have hge : ¬ (2 * (k : Int) < (l0.length : Int)) := by omega
      go_wp2
      go_ret
      exact ⟨by rw [HC.out]; rfl, rfl⟩

theorem drawbridgeref15_Sum.calls (A0 : Option Addr) (c0 : Nat) (l0 : List Int) (r : Int) (w : World) (hr0 : Kd.C (Kd.int .u8) w A0 l0.length l0) (hc0 : l0.length ≤ c0) (h : drawbridgeref15_Sum.f l0 = some r) :
    Calls Try.prog 27 #[.slice A0 l0.length c0] w fun e w' => e = .returned (.int .i64 r) ∧ Drawn0 w w' := by
  unfold drawbridgeref15_Sum.f at h
  by_cases c : Bytes l0 ∧ l0.length < 140737488355328
  · rw [if_pos c] at h
    obtain rfl := Option.some.inj h
    exact (ref15_Sum_walk A0 c0 l0 w hr0 hc0 c.1 c.2).mono fun _ _ ⟨he, hw⟩ => ⟨he, hw ▸ Drawn0.refl _⟩
  · rw [if_neg c] at h
    cases h

def drawbridgeref01_Get.f (l0 : List Int) (a1 : Bool) : Option Int := if Bytes l0 ∧ l0.length ≤ 8 ∧ a1 = true then some (beV l0) else none
theorem drawbridgeref01_Get.calls (A0 : Option Addr) (c0 : Nat) (l0 : List Int) (a1 : Bool) (r : Int) (w : World) (hr0 : Kd.C (Kd.int .u8) w A0 l0.length l0) (hc0 : l0.length ≤ c0) (h : drawbridgeref01_Get.f l0 a1 = some r) :
    Calls Try.prog 43 #[.slice A0 l0.length c0, .bool a1] w fun e w' => e = .returned (.int .u64 r) ∧ Drawn0 w w' := by
  unfold drawbridgeref01_Get.f at h
  by_cases c : Bytes l0 ∧ l0.length ≤ 8 ∧ a1 = true
  · rw [if_pos c] at h
    obtain ⟨h1, h2, rfl⟩ := c
    obtain rfl := Option.some.inj h
    exact (ref01_Get_walk A0 c0 l0 w hr0 hc0 h1 h2).mono fun _ _ ⟨he, hw⟩ => ⟨he, hw ▸ Drawn0.refl _⟩
  · rw [if_neg c] at h
    cases h
theorem bits_Get.calls (A0 : Option Addr) (c0 : Nat) (l0 : List Int) (a1 : Bool) (r : Int) (w : World) (hr0 : Kd.C (Kd.int .u8) w A0 l0.length l0) (hc0 : l0.length ≤ c0) (h : bits_Get.f l0 a1 = some r) :
    Calls Try.prog 32 #[.slice A0 l0.length c0, .bool a1] w fun e w' => e = .returned (.int .u64 r) ∧ Drawn0 w w' := by
  unfold bits_Get.f at h
  by_cases c : Bytes l0 ∧ l0.length ≤ 8 ∧ a1 = true
  · rw [if_pos c] at h
    obtain ⟨h1, h2, rfl⟩ := c
    obtain rfl := Option.some.inj h
    exact (bits_Get_walk A0 c0 l0 w hr0 hc0 h1 h2).mono fun _ _ ⟨he, hw⟩ => ⟨he, hw ▸ Drawn0.refl _⟩
  · rw [if_neg c] at h
    cases h
def drawbridgeref01_Put.f (a0 : Int) (a1 : Int) (a2 : Bool) : Option (List Int) := if (0 ≤ a0 ∧ a0 < 18446744073709551616) ∧ (0 ≤ a1 ∧ a1 ≤ 8) ∧ a2 = true then some (beN a1.toNat a0) else none
theorem drawbridgeref01_Put.calls (a0 : Int) (a1 : Int) (a2 : Bool) (r : List Int) (w : World) (h : drawbridgeref01_Put.f a0 a1 a2 = some r) :
    Calls Try.prog 42 #[.int .u64 a0, .int .i64 a1, .bool a2] w fun e w' => ∃ v0_ : Value, e = .returned (v0_) ∧ Kd.R (Kd.int .u8) 5 w' w.heap.size (fun _ => True) v0_ r ∧ Below w.heap.size w w' := by
  unfold drawbridgeref01_Put.f at h
  by_cases c : (0 ≤ a0 ∧ a0 < 18446744073709551616) ∧ (0 ≤ a1 ∧ a1 ≤ 8) ∧ a2 = true
  · rw [if_pos c] at h
    obtain ⟨⟨h0, h1⟩, ⟨h2, h3⟩, rfl⟩ := c
    obtain rfl := Option.some.inj h
    obtain ⟨n, rfl⟩ := Int.eq_ofNat_of_zero_le (show 0 ≤ a1 by omega)
    rw [Int.toNat_natCast]
    exact ref01_Put_walk a0 n w h0 h1 (by omega)
  · rw [if_neg c] at h
    cases h

end Go.Proofs.Ytndkaffkdjaaoaa.H
/- Rows of rows that are read; copy into a row of the call's own. -/
namespace Go.Proofs.Ytndkaffkdjaaoaa.H
open Go.RowKit Go.Proofs.YtndkaffkdjaaoaaW.PrintWords Go.Proofs.YtndkaffkdjaaoaaW.PrintLast Go.Proofs.YtndkaffkdjaaoaaW.PrintMore
set_option linter.unusedVariables false
set_option linter.unusedSimpArgs false

/-- Values that are slices of bytes, and what they read as. -/
inductive RowsOf (W : World) : List Value → List (List Int) → Prop
  | nil : RowsOf W [] []
  | cons {v : Value} {l : List Int} {vs : List Value} {ls : List (List Int)} (A : Option Addr) (c : Nat) (hv : v = .slice A l.length c) (hc : l.length ≤ c) (hr : Kd.C (Kd.int .u8) W A l.length l) (h : RowsOf W vs ls) : RowsOf W (v :: vs) (l :: ls)
theorem RowsOf.own {W : World} {e base : Nat} {ok : Nat → Prop} {v : Value} {l : List Int} {vs : List Value} {ls : List (List Int)} (ho : Kd.R (Kd.int .u8) e W base ok v l) (h : RowsOf W vs ls) : RowsOf W (v :: vs) (l :: ls) := by
  obtain ⟨A, c, hv, hl, hr⟩ := Kd.R_reads ho
  exact .cons A c hv hl hr h
theorem RowsOf.len {W : World} {vs : List Value} {ls : List (List Int)} (h : RowsOf W vs ls) : vs.length = ls.length := by
  induction h with
  | nil => rfl
  | cons _ _ _ _ _ _ ih => simp [ih]
theorem RowsOf.get {W : World} {vs : List Value} {ls : List (List Int)} (h : RowsOf W vs ls) : ∀ (i : Nat) (l : List Int), ls[i]? = some l → ∃ A c, vs[i]? = some (.slice A l.length c) ∧ l.length ≤ c ∧ Kd.C (Kd.int .u8) W A l.length l := by
  induction h with
  | nil => intro i l h; simp at h
  | cons A c hv hc hr h ih =>
    intro i l hl
    cases i with
    | zero =>
      simp at hl
      subst hl
      exact ⟨A, c, by simp [hv], hc, hr⟩
    | succ i => simpa using ih i l (by simpa using hl)
/-- A literal of such values, read. -/
theorem RowsOf.read {W : World} {vs : List Value} {ls : List (List Int)} (h : RowsOf W vs ls) (e t : Nat) (hm : ls.length ≤ 9223372036854775807) :
    Kd.C (Kd.slice e (Kd.int .u8)) (W.alloc (.cells vs.toArray t)) (some ⟨W.heap.size, 0, none⟩) ls.length ls := by
  refine ⟨rfl, hm, fun _ => ⟨_, rfl, fun j l hj => ?_⟩⟩
  obtain ⟨A, c, hv, hl, hr⟩ := h.get j l hj
  refine ⟨[.slice A l.length c], rfl, ⟨A, c, rfl, hl, Kd.C_alloc hr _⟩, fun i u hu => ?_⟩
  have hi : i = 0 := by
    rcases Nat.eq_zero_or_pos i with h0 | h0
    · exact h0
    · rw [List.getElem?_eq_none (by simp; omega)] at hu; cases hu
  subst hi
  have hu' : Value.slice A l.length c = u := by simpa using hu
  subst hu'
  have hadd : (⟨W.heap.size, 0, none⟩ : Addr).add (j * (Kd.slice e (Kd.int .u8)).sz + 0) = ⟨W.heap.size, j, none⟩ := by
    show (⟨W.heap.size, 0, none⟩ : Addr).add (j * 1 + 0) = _
    rw [Nat.mul_one, Nat.add_zero, add_plain]
  rw [hadd]
  have hb : (W.alloc (.cells vs.toArray t)).heap[W.heap.size]? = some (.cells vs.toArray t (0, 0)) := heap_alloc_new W _
  rw [blk_cell hb j]
  simpa using hv

/-- ys laid over xs from place off on. -/
def laid (xs : List Int) (off : Nat) (ys : List Int) : List Int := xs.take off ++ (ys ++ xs.drop (off + ys.length))
theorem laid_length (xs : List Int) (off : Nat) (ys : List Int) (h : off + ys.length ≤ xs.length) : (laid xs off ys).length = xs.length := by simp [laid]; omega
theorem R_splice {e base g n cap off : Nat} {ok : Nat → Prop} {w w' : World} {xs ys : List Int} (HO : Kd.R (Kd.int .u8) e w base ok (.slice (some ⟨g, 0, none⟩) n cap) xs) (hn : off + ys.length ≤ xs.length) :
    ∃ cur : List Value, w.heap[g]? = some (.cells cur.toArray e (0, 0)) ∧ base ≤ g ∧ off + (ys.map (Value.int .u8)).length ≤ cur.length ∧
      (w'.heap[g]? = some (.cells (splice cur off (ys.map (Value.int .u8))).toArray e (0, 0)) → Kd.R (Kd.int .u8) e w' base ok (.slice (some ⟨g, 0, none⟩) n cap) (laid xs off ys)) := by
  have hnl := (Kd.R_reads' HO).1
  have hok := HO.1
  have hown := Kd.own_of_R (enc := Value.int .u8) (h1 := fun _ => rfl) HO
  rcases hown.2 with ⟨h, _⟩ | ⟨g', cap', cur, he, hb, hh, hnc, hcm, hsz, htk⟩
  · cases h
  · injection he with h1 h2 h3
    injection h1 with h1
    injection h1 with h1
    subst h1; subst h3
    have hcl : cur.toList.length = cap := by rw [Array.length_toList, hsz, Nat.mul_one]
    refine ⟨cur.toList, by simpa using hh, hb, by rw [List.length_map, hcl]; omega, fun hw' => ?_⟩
    refine Kd.R_of_own (enc := Value.int .u8) (h1 := fun _ => rfl) ⟨by simp [encs, laid_length xs off ys hn], .inr ⟨g, cap, (splice cur.toList off (ys.map (Value.int .u8))).toArray, ?_, hb, hw', by rw [laid_length xs off ys hn]; omega, hcm, ?_, ?_⟩⟩ (fun k hk => hok k (by simpa [Value.ownBlock] using hk))
    · rw [laid_length xs off ys hn, hnl]
    · rw [List.size_toArray, length_splice _ _ _ (by rw [List.length_map, hcl]; omega), hcl, Nat.mul_one]
    · rw [laid_length xs off ys hn, Nat.mul_one]
      have ht : cur.toList.take xs.length = encs (Value.int .u8) xs := by rw [← htk, Nat.mul_one]
      have e1 : (splice cur.toList off (ys.map (Value.int .u8))).take xs.length = splice (cur.toList.take xs.length) off (ys.map (Value.int .u8)) := by
        unfold splice
        rw [List.take_append, List.take_append, List.take_take, List.length_take, List.length_map, hcl, List.take_take, Nat.min_eq_right (by omega : off ≤ xs.length), Nat.min_eq_left (by omega : off ≤ xs.length), Nat.min_eq_left (by omega : off ≤ cap), List.take_of_length_le (show (ys.map (Value.int .u8)).length ≤ xs.length - off by rw [List.length_map]; omega), List.drop_take, show xs.length - off - ys.length = xs.length - (off + ys.length) by omega]
      show (splice cur.toList off (ys.map (Value.int .u8))).take xs.length = _
      rw [e1, ht]
      simp [splice, laid, encs, List.map_take, List.map_drop]

section
variable {P : Program} {ops : Array Oper} {o : Oper} {a : Act} {w : World} {K : Act → World → Prop} {Q : Exit → Act → World → Prop} {E : Prop}
/-- 'copy(b[off:], ys)' in a region, b a row of the call's own. -/
theorem R_copy_step (hgd : o.guard = none) (d s : Operand) (dT sT : TypeId)
    (ho : o.op = .call { callee := .builtin .copy, args := #[d, s], argTypes := #[dT, sT] }) (e : TypeId) (hu : P.underlying dT = some (.slice e)) (hsz : (P.info? e).map (·.size) = some 1)
    (dp sp : Option Addr) (dLen dCap sLen sCap : Nat) (hd : a.eval d = .slice dp dLen dCap) (hs : a.eval s = .slice sp sLen sCap)
    {base g n cap off : Nat} {ok : Nat → Prop} {xs ys : List Int} (HO : Kd.R (Kd.int .u8) e w base ok (.slice (some ⟨g, 0, none⟩) n cap) xs) (HR : Kd.C (Kd.int .u8) w sp sLen ys)
    (hn : off + ys.length ≤ xs.length) (hdl : ys.length ≤ dLen) (hdp : 0 < ys.length → dp = some ⟨g, off, none⟩) (w0 : World) (HB : Below base w0 w)
    (h : ∀ w', Kd.R (Kd.int .u8) e w' base ok (.slice (some ⟨g, 0, none⟩) n cap) (laid xs off ys) → Below base w0 w' → K (a.put o.dst (goInt ys.length)) w') :
    if Region.wanted o (yielded ops a.tmps) = true then Oper.wp P o a w K Q else E := by
  have hsl : ys.length = sLen := HR.1
  obtain ⟨cur, hg, hb, hfit, _⟩ := R_splice (w' := w) HO hn
  have hrd := Kd.reads_of_C (enc := Value.int .u8) (d := (0 : Int)) (h1 := fun _ => rfl) HR
  refine step_copy_splice (P := P) (ops := ops) (E := E) hgd d s dT sT ho e hu hsz dp sp dLen dCap sLen sCap hd hs g off cur e hg (ys.map (Value.int .u8)) ?_ ?_ hfit ?_ base w0 HB hb ?_
  · rw [List.length_map, hsl]
    exact (Nat.min_eq_left (by omega)).symm
  · intro hp
    rw [List.length_map] at hp
    obtain ⟨_, _, h3⟩ := hrd
    obtain ⟨ad, he, hcell⟩ := h3 (by omega)
    refine ⟨hdp hp, ad, he, fun j v hj => ?_⟩
    rw [List.getElem?_map] at hj
    cases hq : ys[j]? with
    | none => rw [hq] at hj; cases hj
    | some y =>
      rw [hq] at hj
      have hjl := (List.getElem?_eq_some_iff.1 hq).1
      have := hcell j (by omega)
      rw [this, List.getD_eq_getElem?_getD, hq]
      exact hj
  · intro v hv
    obtain ⟨x, _, rfl⟩ := List.mem_map.1 hv
    rfl
  · intro w' hw' hb'
    obtain ⟨cur', hg', _, _, hfin⟩ := R_splice (w' := w') HO hn
    have hcc : cur = cur' := by
      rw [hg] at hg'
      have := Option.some.inj hg'
      injection this with h1
      simpa using congrArg Array.toList h1
    have := h w' (hfin (by rw [← hcc]; exact hw'.out)) hb'
    rwa [List.length_map]
end

end Go.Proofs.Ytndkaffkdjaaoaa.H
