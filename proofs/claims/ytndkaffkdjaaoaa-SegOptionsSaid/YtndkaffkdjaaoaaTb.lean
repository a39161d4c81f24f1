/- Steps of a walk over rows of bytes of the call's own: a literal, an append, rows apart. -/
import Derived.ChangeArms
import Derived.ChangeSlices
import Derived.ChangeShapes
import Derived.WideShapes
import Derived.ChangeOld
import Derived.Deep.Fields
import Derived.WalkMore
import Derived.Deep.LoopGhost
import Derived.Laws.CopyOwn
import Derived.Deep.RegionLaw
import Derived.RegionTactic
import Derived.Test.YtndkaffkdjaaoaaProg
import Derived.Below
import Derived.Deep.Draws
import Derived.Deep.AppendLies
import Derived.Maps.AppendAt
import Derived.OwnWalk
import Derived.Laws.BytesArg
import Derived.Laws.MakeOwn
import Derived.Laws.OwnMore
import Derived.Deep.OwnRows
import Derived.Tactics
import Derived.Lib.ConvBytes
import Derived.Laws.Slices
import Derived.WalkKit
import Derived.KernelRfl
import Derived.RowKit3
import Derived.Deep.QuietTactic
import Derived.BigQuiet
import Derived.WideLaws
import Derived.Deep.DeepCutAuto
import Derived.Deep.CutBlock
import Derived.Deep.RegionHeld3
import Derived.Laws.Rows
import Derived.Lib.AppendStr
import Derived.ArgAppend
import Derived.Laws.IdiomCopy
import Derived.OrdersHeld
import Derived.Laws.BitsLemmas
import Derived.RowKit
import Derived.Test.YtndkaffkdjaaoaaWWords
import Derived.Test.YtndkaffkdjaaoaaWLast
import Derived.Test.YtndkaffkdjaaoaaWTab
import Derived.Test.YtndkaffkdjaaoaaWFour
import Derived.Test.YtndkaffkdjaaoaaWQPut
import Derived.Test.YtndkaffkdjaaoaaWApart
import Derived.Test.YtndkaffkdjaaoaaWArr
import Derived.Test.YtndkaffkdjaaoaaWZeros
import Derived.Test.YtndkaffkdjaaoaaWFoot
import Derived.Test.YtndkaffkdjaaoaaWKept
import Derived.Test.YtndkaffkdjaaoaaWShare
import Derived.Test.YtndkaffkdjaaoaaWN
import Derived.Test.YtndkaffkdjaaoaaWFootNe
import Derived.Test.YtndkaffkdjaaoaaWAt
import Derived.Test.YtndkaffkdjaaoaaWEqStruct
import Derived.Test.YtndkaffkdjaaoaaWRepsOne
import Derived.Test.YtndkaffkdjaaoaaWInv
import Derived.Test.YtndkaffkdjaaoaaWInvWords
import Derived.Test.YtndkaffkdjaaoaaWGuard
import Derived.Test.YtndkaffkdjaaoaaWNEv
import Derived.Test.YtndkaffkdjaaoaaWMore
import Derived.Test.YtndkaffkdjaaoaaTa
namespace Go.Proofs.Ytndkaffkdjaaoaa.H
open Go.RowKit Go.Proofs.YtndkaffkdjaaoaaW.PrintWords Go.Proofs.YtndkaffkdjaaoaaW.PrintLast Go.Proofs.YtndkaffkdjaaoaaW.PrintMore
set_option linter.unusedVariables false
set_option linter.unusedSimpArgs false

/-- A row of bytes of the call's own. -/
abbrev RowAt (base : Nat) (W : World) (A : Option Addr) (c : Nat) (l : List Int) : Prop := Kd.R (Kd.int .u8) 5 W base (fun _ => True) (.slice A l.length c) l
/-- Two values that own no common block. -/
def Apart (u v : Value) : Prop := ∀ k, u.ownBlock = some k → v.ownBlock ≠ some k
theorem apart_symm {u v : Value} (h : Apart u v) : Apart v u := fun k hk hu => h k hu hk
theorem apart_new {b : Nat} {W W1 : World} {u v : Value} {xs ys : List Int} {ok ok' : Nat → Prop} (ho : Kd.R (Kd.int .u8) 5 W1 W.heap.size ok u xs) (h : Kd.R (Kd.int .u8) 5 W b ok' v ys) : Apart u v := fun k hk hv => by
  have h1 := Kd.R_base ho k hk
  have h2 := Kd.R_lt h k hv
  omega
theorem apart_after {b : Nat} {W : World} {u u1 v : Value} {ys : List Int} {ok : Nat → Prop} (h : Apart u v) (hat : u1.ownBlock = u.ownBlock ∨ ∃ k, u1.ownBlock = some k ∧ W.heap.size ≤ k) (hv : Kd.R (Kd.int .u8) 5 W b ok v ys) : Apart u1 v := fun k hk hvk => by
  rcases hat with e | ⟨k', e, hle⟩
  · exact h k (e ▸ hk) hvk
  · have h2 := Kd.R_lt hv k hvk
    rw [hk] at e
    injection e with e
    omega
theorem R_off {b : Nat} {W W1 : World} {u v : Value} {ys : List Int} {ok : Nat → Prop} (h : Kd.R (Kd.int .u8) 5 W b ok v ys) (hg : W.grownBy W1 u.ownBlock) (ha : Apart u v) : Kd.R (Kd.int .u8) 5 W1 b ok v ys :=
  Kd.R_grown2 h rfl hg (fun k hk hv => ha k hk hv.symm)

theorem reps_bytes {W : World} {b : Nat} {ok : Nat → Prop} : ∀ xs : List Int, Reps ((Kd.int .u8).M W b ok) (Kd.int .u8).sz xs (xs.map (Value.int .u8))
  | [] => Reps.none _ _
  | x :: xs => Reps.one (show Kd.M (Kd.int .u8) _ _ _ x [.int .u8 x] from rfl) (reps_bytes xs)
/-- A literal that a region has made by itself. -/
theorem R_lit_new (W : World) (e : Nat) (xs : List Int) (hm : xs.length ≤ 9223372036854775807) : Kd.R (Kd.int .u8) e (W.alloc (.cells (xs.map (Value.int .u8)).toArray e)) W.heap.size (fun _ => True) (.slice (some ⟨W.heap.size, 0, none⟩) xs.length xs.length) xs := by
  refine ⟨fun _ _ => trivial, xs.map (Value.int .u8), ?_, ?_⟩
  · have h2 := World.ownsRow_lit (base := W.heap.size) (e := e) (size := 1) W (xs.map (Value.int .u8)).toArray xs.length (Nat.le_refl _) (by simpa [maxLen] using hm) (by simp)
    have h3 := h2
    simp only [List.toList_toArray] at h3
    exact h3
  · exact reps_bytes xs
theorem cell_al {W : World} {b i : Nat} {v : Value} {o : Obj} (h : W.cell? ⟨b, i, none⟩ = some v) : (W.alloc o).cell? ⟨b, i, none⟩ = some v := (World.cell?_alloc_past _ _ _ (World.block_lt_of_cell? W _ h)).trans h
theorem cell_ad {W : World} {b i : Nat} {v : Value} {o : Obj} (h : W.drew.cell? ⟨b, i, none⟩ = some v) : (W.alloc o).drew.cell? ⟨b, i, none⟩ = some v := cell_al (W := W) h
/-- 'b[:m]' of a row that is read. -/
theorem cut_to (A : Option Addr) (c : Nat) (l : List Int) (m : Nat) (z : Int) (hz : z = m) (hm : m ≤ l.length) (hc : l.length ≤ c) :
    (∀ W : World, (Instr.slice 23 (.slice A l.length c) none (some (.int .i64 z)) none).run Try.prog W = .ok (.slice A m c) W) ∧
      (∀ w : World, Kd.C (Kd.int .u8) w A l.length l → Kd.C (Kd.int .u8) w A m (l.take m)) ∧ (l.take m).length = m ∧ m ≤ c := by
  subst hz
  have hl : (l.take m).length = m := by rw [List.length_take]; omega
  obtain ⟨h1, h2, h3⟩ := print_take_int (P := Try.prog) (k := .u8) 23 5 Try.underlying23 (i := Try.t5) rfl rfl A c l (m : Int) (by omega) (by omega) hc
  simp only [Int.toNat_natCast] at h1 h2 h3
  rw [hl] at h1 h2 h3
  exact ⟨h1, fun w h => Kd.C_of_reads (d := (0 : Int)) (h1 := fun _ => rfl) (h2 w (Kd.reads_of_C (d := (0 : Int)) (h1 := fun _ => rfl) h)), hl, h3⟩
theorem new_at {W : World} {o : Obj} {n : Nat} (h : W.heap.size = n) : (W.alloc o).heap[n]? = some o := h ▸ blk_new W o
theorem two_fst (W : World) (o1 o2 : Obj) : ((W.alloc o1).alloc o2).drew.heap[W.heap.size]? = some o1 := blk_alloc (blk_new W o1) o2
theorem two_snd (W : World) (o1 o2 : Obj) : ((W.alloc o1).alloc o2).drew.heap[W.heap.size + 1]? = some o2 := by
  have h : ((W.alloc o1).alloc o2).heap[W.heap.size + 1]? = some o2 := by have := blk_new (W.alloc o1) o2; rwa [show (W.alloc o1).heap.size = W.heap.size + 1 from by simp] at this
  exact h
theorem two_below {w W : World} (h : Below w.heap.size w W) (o1 o2 : Obj) : Below w.heap.size w ((W.alloc o1).alloc o2).drew := (below_alloc (below_alloc h _) _).drew
/-- What holds of every world above one. -/
def KeepAll (W : World) (S : World → Prop) : Prop := ∀ W', Below W.heap.size W W' → S W'
theorem kept_cell {W W' : World} {b i : Nat} {v : Value} (h : W.cell? ⟨b, i, none⟩ = some v) (hb : Below W.heap.size W W') : W'.cell? ⟨b, i, none⟩ = some v := (hb.cell (World.block_lt_of_cell? W _ h)).trans h
theorem below_new (W : World) (o : Obj) : Below W.heap.size W (W.alloc o) := below_alloc (Below.refl _ _) _

section
variable {P : Program} {ops : Array Oper} {rest : List Oper} {o : Oper} {a : Act} {W : World} {Q : Exit → Act → World → Prop} {K : Act → World → Prop} {E : Prop}
/-- '[]byte{..}' in a region that draws its order. -/
theorem R_lit_E (hgd : o.guard = none) (e : Nat) {N : Tmp} (hd : o.dst = some N) {xs : List Int}
    (hrun : (execOp a.eval o).run P W = .ok (.value (.slice (some ⟨W.heap.size, 0, none⟩) xs.length xs.length)) (W.alloc (.cells (xs.map (Value.int .u8)).toArray e))) (hm : xs.length ≤ 9223372036854775807)
    (h : ∀ A c w1, Kd.R (Kd.int .u8) e w1 W.heap.size (fun _ => True) (.slice A xs.length c) xs → Below W.heap.size W w1 → K (a.put o.dst (.slice A xs.length c)) w1) : if Region.wanted o (yielded ops a.tmps) = true then Oper.wp P o a W K Q else E := by
  have hw : Region.wanted o (yielded ops a.tmps) = true := by simp [Region.wanted, hgd]
  have := Kd.R_lit_step (P := P) (ops := ops) (o := o) (a := a) (W := W) (Kc := K) (Q := Q) (Kd.int .u8) (w0 := W) W.heap.size e hw hd (xs := xs) (inner := xs.map (Value.int .u8)) (ok := fun _ => True) (okp := fun _ => True) hrun (reps_bytes xs) (fun _ hk => hk) trivial (Below.refl _ _) (Nat.le_refl _) hm (fun v1 w1 ho hb _ _ => by
    obtain ⟨A, c, rfl⟩ := Kd.R_slice ho
    exact h A c w1 ho hb)
  rw [if_pos hw] at this ⊢
  exact this
theorem R_lit_W (e : Nat) (hgd : o.guard = none) {N : Tmp} (hd : o.dst = some N) {xs : List Int}
    (hrun : (execOp a.eval o).run P W = .ok (.value (.slice (some ⟨W.heap.size, 0, none⟩) xs.length xs.length)) (W.alloc (.cells (xs.map (Value.int .u8)).toArray e))) (hm : xs.length ≤ 9223372036854775807)
    (h : ∀ A c w1, Kd.R (Kd.int .u8) e w1 W.heap.size (fun _ => True) (.slice A xs.length c) xs → Below W.heap.size W w1 → wpList P ops Q rest (a.put o.dst (.slice A xs.length c)) w1) : wpList P ops Q (o :: rest) a W :=
  Kd.R_lit (Kd.int .u8) (w0 := W) W.heap.size e hgd hd (xs := xs) (inner := xs.map (Value.int .u8)) (ok := fun _ => True) (okp := fun _ => True) hrun (reps_bytes xs) (fun _ hk => hk) trivial (Below.refl _ _) (Nat.le_refl _) hm (fun v1 w1 ho hb _ _ => by
    obtain ⟨A, c, rfl⟩ := Kd.R_slice ho
    exact h A c w1 ho hb)
theorem len_ok {a b x y : Nat} (h1 : a ≤ x) (h2 : b ≤ y) (h : x + y ≤ 140737488355328) : a + b ≤ 140737488355328 := by omega
theorem len_app {ls l m : List Int} {x y : Nat} (h : ls = l ++ m) (h1 : l.length ≤ x) (h2 : m.length ≤ y) : ls.length ≤ x + y := by rw [h, List.length_append]; omega
theorem gateE {N : Tmp} (_hN : o.dst = some N) (h : if Region.wanted o (yielded ops a.tmps) = true then Oper.wp P o a W K Q else E) : if Region.wanted o (yielded ops a.tmps) = true then Oper.wp P o a W K Q else E := h
/-- 'append(l, m...)', l a row of the call's own. -/
theorem R_append_E {e : Nat} {w0 : World} (hgd : o.guard = none) (s x : Operand) (t e' : TypeId) (ho : o.op = .call { callee := .builtin .append, args := #[s, x], argTypes := #[t, t] })
    (ht : P.underlying t = some (.slice e)) (hinfo : (P.info? e).map (fun i => (i.zero, i.size, i.bytes)) = some (some (.int .u8 0), 1, 1)) {A B : Option Addr} {c n k : Nat} {l m : List Int} (hs : a.eval s = .slice A l.length c) (hx : a.eval x = .slice B n k)
    (HO : Kd.R (Kd.int .u8) e W w0.heap.size (fun _ => True) (.slice A l.length c) l) (HC : Kd.C (Kd.int .u8) W B n m) (HB : Below w0.heap.size w0 W) (hl : l.length + n ≤ 140737488355328)
    (h : ∀ A1 c1 (ls : List Int) w1, Aside0 (ls = l ++ m) → Kd.R (Kd.int .u8) e w1 w0.heap.size (fun _ => True) (.slice A1 ls.length c1) ls → Below w0.heap.size w0 w1 → W.grownBy w1 (Value.slice A l.length c).ownBlock → ((Value.slice A1 ls.length c1).ownBlock = (Value.slice A l.length c).ownBlock ∨ ∃ b, (Value.slice A1 ls.length c1).ownBlock = some b ∧ W.heap.size ≤ b) → K (a.put o.dst (.slice A1 ls.length c1)) w1) :
    if Region.wanted o (yielded ops a.tmps) = true then Oper.wp P o a W K Q else E := by
  have hw : Region.wanted o (yielded ops a.tmps) = true := by simp [Region.wanted, hgd]
  have := Kd.R_append_rows_step (P := P) (ops := ops) (o := o) (a := a) (W := W) (Kc := K) (Q := Q) (Kd.int .u8) (w0 := w0) w0.heap.size hw s x t e (.int .u8 0) 1 ho ht hinfo rfl (by decide) (by omega) _ l m B n k (fun _ => True) (fun _ => False) hs hx HO HC (fun _ _ h => h) (fun _ h => h.elim) (fun _ _ => trivial) HB HB.size (by omega) (fun v1 w1 ho hb hg hat => by
    obtain ⟨A1, c1, rfl⟩ := Kd.R_slice ho
    exact h A1 c1 _ w1 ⟨rfl⟩ ho hb hg hat)
  rw [if_pos hw] at this ⊢
  exact this
theorem R_append_W {e : Nat} {w0 : World} (hgd : o.guard = none) (s x : Operand) (t e' : TypeId) (ho : o.op = .call { callee := .builtin .append, args := #[s, x], argTypes := #[t, t] }) (ht : P.underlying t = some (.slice e)) (hinfo : (P.info? e).map (fun i => (i.zero, i.size, i.bytes)) = some (some (.int .u8 0), 1, 1))
    {A B : Option Addr} {c n k : Nat} {l m : List Int} (hs : a.eval s = .slice A l.length c) (hx : a.eval x = .slice B n k)
    (HO : Kd.R (Kd.int .u8) e W w0.heap.size (fun _ => True) (.slice A l.length c) l) (HC : Kd.C (Kd.int .u8) W B n m) (HB : Below w0.heap.size w0 W) (hl : l.length + n ≤ 140737488355328)
    (h : ∀ A1 c1 (ls : List Int) w1, Aside0 (ls = l ++ m) → Kd.R (Kd.int .u8) e w1 w0.heap.size (fun _ => True) (.slice A1 ls.length c1) ls → Below w0.heap.size w0 w1 → W.grownBy w1 (Value.slice A l.length c).ownBlock → ((Value.slice A1 ls.length c1).ownBlock = (Value.slice A l.length c).ownBlock ∨ ∃ b, (Value.slice A1 ls.length c1).ownBlock = some b ∧ W.heap.size ≤ b) → wpList P ops Q rest (a.put o.dst (.slice A1 ls.length c1)) w1) :
    wpList P ops Q (o :: rest) a W :=
  Kd.R_append_rows (Kd.int .u8) (w0 := w0) w0.heap.size hgd s x t e (.int .u8 0) 1 ho ht hinfo rfl (by decide) (by omega) _ l m B n k (fun _ => True) (fun _ => False) hs hx HO HC (fun _ _ h => h) (fun _ h => h.elim) (fun _ _ => trivial) HB HB.size (by omega) (fun v1 w1 ho hb hg hat => by
    obtain ⟨A1, c1, rfl⟩ := Kd.R_slice ho
    exact h A1 c1 _ w1 ⟨rfl⟩ ho hb hg hat)
end

end Go.Proofs.Ytndkaffkdjaaoaa.H
/- Arguments of a law, opened: a struct of one-cell fields, a slice of bytes. -/
namespace Go.Proofs.Ytndkaffkdjaaoaa.H
open Go.RowKit Go.ChangeShapes Go.WideShapes Go.Deep Go.Proofs.YtndkaffkdjaaoaaW.PrintWords Go.Proofs.YtndkaffkdjaaoaaW.PrintLast Go.Proofs.YtndkaffkdjaaoaaW.PrintMore
set_option linter.unusedVariables false
set_option linter.unusedSimpArgs false
section
variable {H : Type} {enc : TypeId × Value → H} {P : Program} {w : World} {base : Nat} {spare : Nat → Bool} {held : Bool}

/-- A struct of one-cell fields, by value: its fields' readings. -/
theorem open_agg {r : Reach} {b0 : Nat} {t : TypeId} {fs : Array Field} {v : Value} {d : DataW H} {p : List MemPlace} (hs : P.underlying t = some (.struct fs)) (hone : oneCellFields P fs = true) (hC : P.cellsOf t = fs.size)
    (hv : Value.okWide P w r b0 t v) (h : DataW.Trod enc P w base spare held t v d p) :
    ∃ (cs : List Value) (n : Nat), v = .agg cs.toArray ∧ cs.length = fs.size ∧ ∀ (j : Nat) (f : Field), fs[j]? = some f → ∃ u y, cs[j]? = some u ∧ DataW.trod enc P w base spare held n f.type [u] = some y := by
  obtain ⟨cs, rfl, hsz⟩ := okWide_struct hs hv
  obtain ⟨l⟩ := cs
  have hll : l.length = fs.size := by simpa using hsz.trans hC
  obtain ⟨fuel, hf⟩ := h
  obtain ⟨xs, n, _, hx, _, hlen, hg⟩ := DataW.trod_struct hs hf
  refine ⟨l, n, rfl, hll, fun j f hj => ?_⟩
  obtain ⟨o, k⟩ := hone_of hone j f hj
  have hjl : j < fs.size := (Array.getElem?_eq_some_iff.1 hj).1
  have h1 := hg j f hj
  rw [o, k] at h1
  have hd : ((Value.agg l.toArray).cells.toList.drop j).take 1 = [l[j]'(by omega)] := by
    show (l.drop j).take 1 = _
    rw [List.drop_eq_getElem_cons (by omega)]
    rfl
  rw [hd] at h1
  have hy : xs[j]? = some (xs[j]'(by omega)) := List.getElem?_eq_getElem (by omega)
  exact ⟨_, _, List.getElem?_eq_getElem (by omega), h1.trans hy⟩

theorem u8_wf {n : Int} (h : (Lit.int .u8 n).wf = true) : 0 ≤ n ∧ n < 256 := by
  simp [Lit.wf, IntKind.min, IntKind.max, IntKind.bits, IntKind.signed] at h
  omega
theorem u32_wf {n : Int} (h : (Lit.int .u32 n).wf = true) : 0 ≤ n ∧ n < 4294967296 := by
  simp [Lit.wf, IntKind.min, IntKind.max, IntKind.bits, IntKind.signed] at h
  omega
theorem u64_wf {n : Int} (h : (Lit.int .u64 n).wf = true) : 0 ≤ n ∧ n < 18446744073709551616 := by
  simp [Lit.wf, IntKind.min, IntKind.max, IntKind.bits, IntKind.signed] at h
  omega
theorem i64_wf {n : Int} (h : (Lit.int .i64 n).wf = true) : -9223372036854775808 ≤ n ∧ n < 9223372036854775808 := by
  simp [Lit.wf, IntKind.min, IntKind.max, IntKind.bits, IntKind.signed] at h
  omega
/-- A slice of bytes, read. -/
theorem bytes_arg {t e : TypeId} {fuel : Nat} {cs : List Value} {x : DataW H × List MemPlace} (ht : P.underlying t = some (.slice e)) (he : P.underlying e = some (.int .u8)) (hc : P.cellsOf e = 1)
    (h : DataW.trod enc P w base spare held fuel t cs = some x) :
    ∃ (a : Option Addr) (l : List Int) (cap : Nat), cs = [.slice a l.length cap] ∧ l.length ≤ cap ∧ Kd.C (Kd.int .u8) w a l.length l ∧ Bytes l := by
  rcases open_ints ht he hc h with ⟨hcs, _⟩ | ⟨a, len, cap, zs, hcs, _, hl, hm, hz, _, hcell, hw⟩
  · exact ⟨none, [], 0, hcs, Nat.le_refl 0, Kd.C_of_reads (enc := Value.int .u8) (d := (0 : Int)) (h1 := fun _ => rfl) ⟨rfl, by simp, fun h => absurd h (by simp)⟩, Bytes.nil⟩
  · have hlz : len ≤ zs.length := by rw [hz]; split <;> omega
    have hll : (zs.take len).length = len := by rw [List.length_take]; omega
    refine ⟨some a, zs.take len, cap, by rw [hll]; exact hcs, by omega, ?_, fun n hn => u8_wf (hw n (List.mem_of_mem_take hn))⟩
    refine Kd.C_of_reads (enc := Value.int .u8) (d := (0 : Int)) (h1 := fun _ => rfl) ⟨rfl, by rw [hll]; unfold maxLen at hm; omega, fun _ => ⟨a, rfl, fun i hi => ?_⟩⟩
    rw [hll] at hi
    rw [hcell i (by omega)]
    congr 2
    simp [List.getD_eq_getElem?_getD, List.getElem?_take, hi]
end

end Go.Proofs.Ytndkaffkdjaaoaa.H
/- Contract of seg.mss, in the print's form. -/
namespace Go.Proofs.Ytndkaffkdjaaoaa.H
open Go.RowKit Go.Proofs.YtndkaffkdjaaoaaW.PrintWords Go.Proofs.YtndkaffkdjaaoaaW.PrintLast Go.Proofs.YtndkaffkdjaaoaaW.PrintMore
set_option linter.unusedVariables false
set_option linter.unusedSimpArgs false

theorem mssF_nil (k : Nat) (l : List Int) (found : Int) (met : Bool) (h : l.length = 0) : mssF k l found met = (found, true) := by
  cases k with
  | zero => rfl
  | succ k => rw [mssF, if_pos h]
theorem mssF_end (k : Nat) (l : List Int) (found : Int) (met : Bool) (h : ¬ l.length = 0) (h0 : l.getD 0 0 = 0) : mssF (k + 1) l found met = (found, true) := by rw [mssF, if_neg h, if_pos h0]
theorem mssF_nop (k : Nat) (l : List Int) (found : Int) (met : Bool) (h : ¬ l.length = 0) (h0 : l.getD 0 0 = 1) : mssF (k + 1) l found met = mssF k (l.drop 1) found met := by rw [mssF, if_neg h, if_neg (by omega), if_pos h0]
theorem mssF_bad (k : Nat) (l : List Int) (found : Int) (met : Bool) (h : ¬ l.length = 0) (h0 : ¬ l.getD 0 0 = 0) (h1 : ¬ l.getD 0 0 = 1) (hb : l.length < 2 ∨ l.getD 1 0 < 2 ∨ (l.length : Int) < l.getD 1 0) : mssF (k + 1) l found met = (0, false) := by rw [mssF, if_neg h, if_neg h0, if_neg h1, if_pos hb]
theorem mssF_mss (k : Nat) (l : List Int) (found : Int) (met : Bool) (h : ¬ l.length = 0) (h0 : ¬ l.getD 0 0 = 0) (h1 : ¬ l.getD 0 0 = 1) (hb : ¬ (l.length < 2 ∨ l.getD 1 0 < 2 ∨ (l.length : Int) < l.getD 1 0)) (hm : l.getD 0 0 = 2 ∧ l.getD 1 0 = 4 ∧ met = false) :
    mssF (k + 1) l found met = mssF k (l.drop (l.getD 1 0).toNat) (beV ((l.take 4).drop 2)) true := by rw [mssF, if_neg h, if_neg h0, if_neg h1, if_neg hb, if_pos hm]
theorem mssF_skip (k : Nat) (l : List Int) (found : Int) (met : Bool) (h : ¬ l.length = 0) (h0 : ¬ l.getD 0 0 = 0) (h1 : ¬ l.getD 0 0 = 1) (hb : ¬ (l.length < 2 ∨ l.getD 1 0 < 2 ∨ (l.length : Int) < l.getD 1 0)) (hm : ¬ (l.getD 0 0 = 2 ∧ l.getD 1 0 = 4 ∧ met = false)) :
    mssF (k + 1) l found met = mssF k (l.drop (l.getD 1 0).toNat) found met := by rw [mssF, if_neg h, if_neg h0, if_neg h1, if_neg hb, if_neg hm]

/-- The first cell of a row that is read, as the walk spells it. -/
theorem cell_first {w : World} {A : Option Addr} {l : List Int} (h : Kd.C (Kd.int .u8) w A l.length l) (hp : 0 < l.length) : ∃ ad, A = some ad ∧ w.cell? ad = some (.int .u8 (l.getD 0 0)) := by
  obtain ⟨ad, e, hc⟩ := Kd.at_int h (0 : Int) (by omega) (by omega)
  exact ⟨ad, e, hc⟩
theorem cell_at {w : World} {ad : Addr} {l : List Int} (h : Kd.C (Kd.int .u8) w (some ad) l.length l) (i : Nat) (hp : i + 1 < l.length) : w.cell? ⟨ad.block, ad.off + (i + 1), none⟩ = some (.int .u8 (l.getD (i + 1) 0)) := by
  obtain ⟨ad2, e, hc⟩ := Kd.at_int h ((i + 1 : Nat) : Int) (by omega) (by omega)
  obtain rfl := Option.some.inj e
  rw [Int.toNat_natCast, rd_nat] at hc
  exact hc

/-- 'b[m:]' of a row that is read, m a number of the kind kl: a letter for where it lies, and what it reads as. -/
theorem cut_from (kl : IntKind) (A : Option Addr) (c : Nat) (l : List Int) (m : Nat) (z : Int) (hz : z = m) (hm : m ≤ l.length) (hc : l.length ≤ c) :
    ∃ A' : Option Addr, (∀ W : World, (Instr.slice 23 (.slice A l.length c) (some (.int kl z)) none none).run Try.prog W = .ok (.slice A' (l.length - m) (c - m)) W) ∧
      (∀ w : World, Kd.C (Kd.int .u8) w A l.length l → Kd.C (Kd.int .u8) w A' (l.drop m).length (l.drop m)) ∧ (l.drop m).length ≤ c - m := by
  subst hz
  obtain ⟨A', h1, h2⟩ := print_cut (P := Try.prog) 23 5 kl Try.underlying23 (i := Try.t5) rfl rfl A l.length c m hm
  refine ⟨A', h1, fun w h => ?_, by rw [List.length_drop]; omega⟩
  have h3 := h2 w .u8 l hc (Kd.reads_of_C (d := (0 : Int)) (h1 := fun _ => rfl) h)
  rw [List.length_drop]
  exact Kd.C_of_reads (d := (0 : Int)) (h1 := fun _ => rfl) h3

/-- 'b[lo:hi]' of a row that is read. -/
theorem cut_mid (A : Option Addr) (c : Nat) (l : List Int) (lo hi : Nat) (zl zh : Int) (hzl : zl = lo) (hzh : zh = hi) (h1 : lo ≤ hi) (hm : hi ≤ l.length) (hc : l.length ≤ c) :
    ∃ A' : Option Addr, (∀ W : World, (Instr.slice 23 (.slice A l.length c) (some (.int .i64 zl)) (some (.int .i64 zh)) none).run Try.prog W = .ok (.slice A' (hi - lo) (c - lo)) W) ∧
      (∀ w : World, Kd.C (Kd.int .u8) w A l.length l → Kd.C (Kd.int .u8) w A' ((l.take hi).drop lo).length ((l.take hi).drop lo)) ∧ ((l.take hi).drop lo).length = hi - lo ∧ hi - lo ≤ c - lo := by
  subst hzl hzh
  obtain ⟨A', h2, h3, h4⟩ := print_mid_int (P := Try.prog) (k := .u8) 23 5 Try.underlying23 (i := Try.t5) rfl rfl A c l (lo : Int) (hi : Int) (by omega) (by omega) (by omega) hc
  simp only [Int.toNat_natCast] at h2 h3 h4
  have hl : ((l.take hi).drop lo).length = hi - lo := by rw [List.length_drop, List.length_take]; omega
  rw [hl] at h2 h4
  refine ⟨A', h2, fun w h => ?_, hl, h4⟩
  exact Kd.C_of_reads (d := (0 : Int)) (h1 := fun _ => rfl) (h3 w (Kd.reads_of_C (d := (0 : Int)) (h1 := fun _ => rfl) h))

set_option maxHeartbeats 3200000 in
set_option maxRecDepth 100000 in
theorem seg_mss_walk (A0 : Option Addr) (c0 : Nat) (l0 : List Int) (w : World) (hr0 : Kd.C (Kd.int .u8) w A0 l0.length l0) (hc0 : l0.length ≤ c0) (hb : Bytes l0) :
    Calls Try.prog 30 #[.slice A0 l0.length c0] w fun e w' => e = .returned (.tuple #[.int .i64 (mssO l0).1, .bool (mssO l0).2]) ∧ w = w' := by
  have HBy := Aside0.mk hb
  have Hr := Aside0.mk hr0
  have Hc := Aside0.mk hc0
  clear hb hr0 hc0
  go_enter Try.func30, Try.ntmps30
  go_wp2
  go_step3
  go_wp2
  go_step3
  go_wp2
  go_loopg [0, 4, 5] l0.length (fun kq b fo me W => ∃ (A : Option Addr) (l : List Int) (c : Nat) (found : Int) (met : Bool), b = .slice A l.length c ∧ fo = .int .i64 found ∧ me = .bool met ∧ W = w ∧ Aside0 (l.length ≤ kq) ∧ Aside0 (Kd.C (Kd.int .u8) w A l.length l) ∧ Aside0 (l.length ≤ c) ∧ Aside0 (Bytes l) ∧ Aside0 (mssF kq l found met = mssO l0))
  case atStart => exact ⟨A0, l0, c0, 0, false, rfl, rfl, rfl, rfl, ⟨Nat.le_refl _⟩, Hr, Hc, HBy, ⟨rfl⟩⟩
  case round =>
    obtain ⟨A, l, c, found, met, rfl, rfl, rfl, rfl, HK, HR, HC, HBl, HM⟩ := hrel
    clear HBy Hr Hc
    by_cases hp : l.length = 0
    · have HE := Aside0.mk ((mssF_nil gk l found met hp).symm.trans HM.out)
      go_wp2
      (try rw [Exit.noGoto_ret])
      go_ret2
      exact ⟨by rw [← HE.out]; rfl, rfl⟩
    · obtain ⟨k, rfl⟩ : ∃ k, gk = k + 1 := ⟨gk - 1, by have := HK.out; omega⟩
      obtain ⟨ad, rfl, hc1⟩ := cell_first HR.out (by omega)
      have hlen : 0 < l.length := by omega
      by_cases h0 : l.getD 0 0 = 0
      · have HE := Aside0.mk ((mssF_end k l found met hp h0).symm.trans HM.out)
        rw [h0] at hc1
        clear h0
        go_wp2
        (try rw [Exit.noGoto_ret])
        go_ret2
        exact ⟨by rw [← HE.out]; rfl, rfl⟩
      · by_cases h1 : l.getD 0 0 = 1
        · have HE := Aside0.mk ((mssF_nop k l found met hp h1).symm.trans HM.out)
          rw [h1] at hc1
          obtain ⟨A1, hs1, hr1, hc2⟩ := cut_from .i64 (some ad) c l 1 1 rfl hlen HC.out
          have HR1 := Aside0.mk (hr1 _ HR.out)
          have HC1 := Aside0.mk hc2
          clear h0 h1 hr1 hc2
          go_wp2
          go_roundg k
          case measure => omega
          case rel => exact ⟨A1, l.drop 1, c - 1, found, met, by rw [List.length_drop], rfl, rfl, rfl, ⟨by have := HK.out; rw [List.length_drop]; omega⟩, HR1, HC1, ⟨HBl.out.drop 1⟩, HE⟩
        · have hx := HBl.out.getD 0
          have b0 : (l.getD 0 0 == 0) = false := beq_eq_false_iff_ne.2 h0
          have b1 : (l.getD 0 0 == 1) = false := beq_eq_false_iff_ne.2 h1
          by_cases h2 : l.length < 2
          · have HE := Aside0.mk ((mssF_bad k l found met hp h0 h1 (.inl h2)).symm.trans HM.out)
            have d2 : decide ((l.length : Int) < 2) = true := by simp; omega
            generalize l.getD 0 0 = x at *
            clear h0 h1
            go_wp2
            (try rw [Exit.noGoto_ret])
            go_ret2
            exact ⟨by rw [← HE.out]; rfl, rfl⟩
          · have d2 : decide ((l.length : Int) < 2) = false := by simp; omega
            have hc2 := cell_at HR.out 0 (by omega)
            have hy := HBl.out.getD 1
            by_cases h3 : l.getD 1 0 < 2
            · have HE := Aside0.mk ((mssF_bad k l found met hp h0 h1 (.inr (.inl h3))).symm.trans HM.out)
              have d3 : decide (l.getD 1 0 < 2) = true := decide_eq_true h3
              generalize l.getD 0 0 = x at *
              generalize l.getD 1 0 = y at *
              clear h0 h1
              go_wp2
              (try rw [Exit.noGoto_ret])
              go_ret2
              exact ⟨by rw [← HE.out]; rfl, rfl⟩
            · by_cases h4 : (l.length : Int) < l.getD 1 0
              · have HE := Aside0.mk ((mssF_bad k l found met hp h0 h1 (.inr (.inr h4))).symm.trans HM.out)
                have d3 : decide (l.getD 1 0 < 2) = false := decide_eq_false (by omega)
                have d4 : decide ((l.length : Int) < l.getD 1 0) = true := decide_eq_true h4
                generalize l.getD 0 0 = x at *
                generalize l.getD 1 0 = y at *
                obtain ⟨hy0, hy1⟩ := hy
                clear h0 h1
                go_wp2
                (try rw [Exit.noGoto_ret])
                go_ret2
                exact ⟨by rw [← HE.out]; rfl, rfl⟩
              · have hgood : ¬ (l.length < 2 ∨ l.getD 1 0 < 2 ∨ (l.length : Int) < l.getD 1 0) := by omega
                have d3 : decide (l.getD 1 0 < 2) = false := decide_eq_false (by omega)
                have d4 : decide ((l.length : Int) < l.getD 1 0) = false := decide_eq_false (by omega)
                obtain ⟨m, hm⟩ : ∃ m : Nat, l.getD 1 0 = m := ⟨(l.getD 1 0).toNat, by omega⟩
                obtain ⟨A1, hs1, hr1, hcc⟩ := cut_from .u8 (some ad) c l m (l.getD 1 0) hm (by omega) HC.out
                have HR1 := Aside0.mk (hr1 _ HR.out)
                have HC1 := Aside0.mk hcc
                have HL1 := Aside0.mk (show (l.drop m).length ≤ k from by have := HK.out; rw [List.length_drop]; omega)
                have HB1 := Aside0.mk (HBl.out.drop m)
                by_cases hmss : l.getD 0 0 = 2 ∧ l.getD 1 0 = 4 ∧ met = false
                · have HE := Aside0.mk ((mssF_mss k l found met hp h0 h1 hgood hmss).symm.trans HM.out)
                  obtain ⟨hx2, hy4, rfl⟩ := hmss
                  obtain rfl : m = 4 := by omega
                  rw [hy4] at HE hs1 hc2 d3 d4
                  rw [hx2] at hc1
                  obtain ⟨A2, hs2, hr2, hl2, hcm⟩ := cut_mid (some ad) c l 2 4 2 4 rfl rfl (by omega) (by omega) HC.out
                  have HR2 := Aside0.mk (hr2 _ HR.out)
                  have HL2 := Aside0.mk hl2
                  have hV := beV_range _ ((HBl.out.take 4).drop 2)
                  rw [hl2] at hV
                  have hV0 := hV.1
                  have hV1 : beV ((l.take 4).drop 2) < 65536 := hV.2
                  have HV := Aside0.mk (bits_Get_walk A2 (c - 2) ((l.take 4).drop 2) _ HR2.out (by rw [hl2]; exact hcm) ((HBl.out.take 4).drop 2) (by rw [hl2]; omega))
                  rw [hl2] at HV
                  clear h0 h1 hr1 hcc hr2 hl2 hcm hgood hx hy hx2 hy4 b0 b1 hm h3 h4 hV
                  go_wp2_with (go_at_call 32; (with_reducible refine HV.out.mono ?_); rintro e w' ⟨rfl, rfl⟩)
                  go_roundg k
                  case measure => omega
                  case rel => exact ⟨A1, l.drop 4, c - 4, _, true, by rw [List.length_drop], rfl, rfl, rfl, HL1, HR1, HC1, HB1, HE⟩
                · have HE := Aside0.mk ((mssF_skip k l found met hp h0 h1 hgood hmss).symm.trans HM.out)
                  have hmt : (l.getD 1 0).toNat = m := by omega
                  rw [hmt] at HE
                  by_cases e1 : l.getD 0 0 = 2
                  · have b2 : (l.getD 0 0 == 2) = true := beq_iff_eq.2 e1
                    by_cases e2 : l.getD 1 0 = 4
                    · obtain rfl : met = true := by
                        cases met
                        · exact absurd ⟨e1, e2, rfl⟩ hmss
                        · rfl
                      rw [e1] at hc1
                      rw [e2] at hs1 hc2 d3 d4
                      clear h0 h1 hr1 hcc hgood hx hy b0 b1 b2 hm h3 h4 hmss e1 e2 hmt
                      go_wp2
                      go_roundg k
                      case measure => omega
                      case rel => exact ⟨A1, l.drop m, c - m, _, true, by rw [List.length_drop], rfl, rfl, rfl, HL1, HR1, HC1, HB1, HE⟩
                    · have b4 : (l.getD 1 0 == 4) = false := beq_eq_false_iff_ne.2 e2
                      rw [e1] at hc1
                      generalize l.getD 1 0 = y at *
                      obtain ⟨hy0, hy1⟩ := hy
                      clear h0 h1 hr1 hcc hgood hx b0 b1 b2 hm h3 h4 hmss e1 e2 hmt
                      go_wp2
                      go_roundg k
                      case measure => omega
                      case rel => exact ⟨A1, l.drop m, c - m, _, met, by rw [List.length_drop], rfl, rfl, rfl, HL1, HR1, HC1, HB1, HE⟩
                  · have b2 : (l.getD 0 0 == 2) = false := beq_eq_false_iff_ne.2 e1
                    generalize l.getD 0 0 = x at *
                    generalize l.getD 1 0 = y at *
                    obtain ⟨hy0, hy1⟩ := hy
                    clear h0 h1 hr1 hcc hgood hx hm h3 h4 hmss e1 hmt
                    go_wp2
                    go_roundg k
                    case measure => omega
                    case rel => exact ⟨A1, l.drop m, c - m, _, met, by rw [List.length_drop], rfl, rfl, rfl, HL1, HR1, HC1, HB1, HE⟩

def seg_mss.f (l0 : List Int) : Option (Int × Bool) := if Bytes l0 then some (mssO l0) else none
theorem seg_mss.calls (A0 : Option Addr) (c0 : Nat) (l0 : List Int) (r1 : Int) (r2 : Bool) (w : World) (hr0 : Kd.C (Kd.int .u8) w A0 l0.length l0) (hc0 : l0.length ≤ c0) (h : seg_mss.f l0 = some (r1, r2)) :
    Calls Try.prog 30 #[.slice A0 l0.length c0] w fun e w' => e = .returned (.tuple #[.int .i64 r1, .bool r2]) ∧ Drawn0 w w' := by
  unfold seg_mss.f at h
  by_cases c : Bytes l0
  · rw [if_pos c] at h
    have e := Option.some.inj h
    have h1 : (mssO l0).1 = r1 := by rw [e]
    have h2 : (mssO l0).2 = r2 := by rw [e]
    rw [← h1, ← h2]
    exact (seg_mss_walk A0 c0 l0 w hr0 hc0 c).mono fun _ _ ⟨he, hw⟩ => ⟨he, hw ▸ Drawn0.refl _⟩
  · rw [if_neg c] at h
    cases h

end Go.Proofs.Ytndkaffkdjaaoaa.H
/- Contract of sum.Sum, in the print's form. -/
namespace Go.Proofs.Ytndkaffkdjaaoaa.H
open Go.RowKit Go.Proofs.YtndkaffkdjaaoaaW.PrintWords Go.Proofs.YtndkaffkdjaaoaaW.PrintLast Go.Proofs.YtndkaffkdjaaoaaW.PrintMore
set_option linter.unusedVariables false
set_option linter.unusedSimpArgs false

def sum_Sum.f (l0 : List Int) : Option Int := if Bytes l0 ∧ l0.length < 140737488355328 then some (csum l0) else none

/-- The cells that 'copy(pair[:], b[2*i:])' brings. -/
def two (l : List Int) (k : Nat) : List Value := ((l.drop (2 * k)).take 2).map (Value.int .u8)
theorem two_length (l : List Int) (k : Nat) : (two l k).length = Nat.min (l.length - 2 * k) 2 := by
  unfold two
  rw [List.length_map, List.length_take, List.length_drop]
  exact Nat.min_comm _ _
theorem two_one (l : List Int) (k : Nat) : ∀ v ∈ two l k, v.oneCell' = true := by
  intro v hv
  obtain ⟨x, _, rfl⟩ := List.mem_map.1 hv
  rfl
theorem two_get (l : List Int) (k j : Nat) (v : Value) (h : (two l k)[j]? = some v) : j < l.length - 2 * k ∧ v = .int .u8 ((l.drop (2 * k)).getD j 0) := by
  unfold two at h
  rw [List.getElem?_map, List.getElem?_take] at h
  split at h
  · rename_i hj
    cases hx : (l.drop (2 * k))[j]? with
    | none => rw [hx] at h; cases h
    | some x =>
      rw [hx] at h
      have hlt := (List.getElem?_eq_some_iff.1 hx).1
      rw [List.length_drop] at hlt
      refine ⟨hlt, ?_⟩
      rw [List.getD_eq_getElem?_getD, hx]
      exact (Option.some.inj h).symm
  · cases h
theorem splice_two (l : List Int) (k : Nat) (h : 2 * k < l.length) : splice [Value.int .u8 0, Value.int .u8 0] 0 (two l k) = [.int .u8 (l[2 * k]), .int .u8 (l.getD (2 * k + 1) 0)] := by
  have e : l.drop (2 * k) = l[2 * k] :: l.drop (2 * k + 1) := List.drop_eq_getElem_cons h
  by_cases h2 : 2 * k + 1 < l.length
  · have e2 : l.drop (2 * k + 1) = l[2 * k + 1] :: l.drop (2 * k + 2) := List.drop_eq_getElem_cons h2
    unfold two splice
    rw [e, e2, List.getD_eq_getElem?_getD, List.getElem?_eq_getElem h2]
    rfl
  · have e2 : l.drop (2 * k + 1) = [] := List.drop_eq_nil_of_le (by omega)
    unfold two splice
    rw [e, e2, List.getD_eq_getElem?_getD, List.getElem?_eq_none (by omega)]
    rfl
set_option maxHeartbeats 1600000 in
set_option maxRecDepth 100000 in
theorem sum_Sum.calls (A0 : Option Addr) (c0 : Nat) (l0 : List Int) (r : Int) (w : World) (hr0 : Kd.C (Kd.int .u8) w A0 l0.length l0) (hc0 : l0.length ≤ c0) (h : sum_Sum.f l0 = some r) :
    Calls Try.prog 23 #[.slice A0 l0.length c0] w fun e w' => e = .returned (.int .i64 r) ∧ Below w.heap.size w w' := by
  have hc : Bytes l0 ∧ l0.length < 140737488355328 := by
    unfold sum_Sum.f at h
    by_cases c : Bytes l0 ∧ l0.length < 140737488355328
    · exact c
    · rw [if_neg c] at h; cases h
  obtain rfl : csum l0 = r := by
    unfold sum_Sum.f at h
    rw [if_pos hc] at h
    exact Option.some.inj h
  clear h
  obtain ⟨hb, hl⟩ := hc
  have HBy := Aside0.mk hb
  clear hb
  go_enter Try.func23, Try.ntmps23
  go_wp2
  go_loopw [3, 10] (fun s i W => ∃ k : Nat, 2 * k ≤ l0.length + 1 ∧ i = .int .i64 k ∧ s = .int .i64 (psumTo l0 k) ∧ Aside0 (Below w.heap.size w W)) (fun _ i _ => l0.length - (intOf i).toNat)
  case atStart => exact ⟨0, by omega, rfl, rfl, ⟨Below.refl _ _⟩⟩
  case round =>
    obtain ⟨k, hk, rfl, rfl, HB⟩ := hrel
    have b1 := psumTo_le l0 HBy.out k
    by_cases hlt : 2 * k < l0.length
    · have hcut := print_cut_int (P := Try.prog) (k := .u8) 23 5 Try.underlying23 (i := Try.t5) rfl rfl A0 c0 l0 (2 * (k : Int)) (by omega) (by omega) hc0
      obtain ⟨A1, hs1, hr1, hc1⟩ := hcut
      have hw2 : IntKind.i64.wrap (2 * (k : Int)) = 2 * (k : Int) := by rw [IntKind.wrap_i64]; omega
      have hg0 := Aside0.mk (show (wr.alloc (.cells #[.int .u8 0, .int .u8 0] 69)).drew.heap[wr.heap.size]? = some (.cells [Value.int .u8 0, Value.int .u8 0].toArray 69 (0, 0)) from heap_alloc_new wr _)
      have hB0 := Aside0.mk ((HB.out.alloc (o := .cells #[.int .u8 0, .int .u8 0] 69) HB.out.size).drew)
      have hn := Aside0.mk (show (two l0 k).length = Nat.min (l0.length - (2 * (k : Int)).toNat) 2 from by rw [two_length]; congr 1)
      have hpos := Aside0.mk (show 0 < (two l0 k).length → ∃ ad, A1 = some ad ∧ ∀ j v, (two l0 k)[j]? = some v → (wr.alloc (.cells #[.int .u8 0, .int .u8 0] 69)).drew.cell? (ad.add j) = some v from fun hp => by
        obtain ⟨h1, h2, h3⟩ := hr1 w (Kd.reads_of_C (d := (0 : Int)) (h1 := fun _ => rfl) hr0)
        obtain ⟨ad, e, hcell⟩ := h3 (by rw [List.length_drop]; omega)
        refine ⟨ad, e, fun j v hj => ?_⟩
        obtain ⟨hj1, rfl⟩ := two_get l0 k j v hj
        have hcj := hcell j (by rw [List.length_drop]; omega)
        simp only [show (2 * (k : Int)).toNat = 2 * k from by omega] at hcj
        exact (hB0.out.cell (World.block_lt_of_cell? w _ hcj)).trans hcj)
      have hfit := Aside0.mk (show 0 + (two l0 k).length ≤ [Value.int .u8 0, Value.int .u8 0].length from by
        have := hn.out
        have h2 : Nat.min (l0.length - (2 * (k : Int)).toNat) 2 ≤ 2 := Nat.min_le_right _ _
        simp only [List.length_cons, List.length_nil]
        omega)
      go_wp2
      go_region_law (refine step_copy_splice rfl (.tmp 14) (.tmp 18) 23 23 rfl 5 Try.underlying23 size8 _ _ _ _ _ _ rfl rfl wr.heap.size 0 [.int .u8 0, .int .u8 0] 69 hg0.out (two l0 k) hn.out (fun hp => ⟨rfl, hpos.out hp⟩) hfit.out (two_one l0 k) w.heap.size w hB0.out HB.out.size ?_; intro w2 hw2 hb2)
      have hsp := splice_two l0 k hlt
      have hw3 : w2.heap[wr.heap.size]? = some (.cells #[Value.int .u8 (l0[2 * k]), .int .u8 (l0.getD (2 * k + 1) 0)] 69 (0, 0)) := by
        have := hw2.out
        rwa [hsp] at this
      clear hsp hw2 hpos hn hfit hg0 hB0
      have hx := HBy.out.get (2 * k) hlt
      have hy : 0 ≤ l0.getD (2 * k + 1) 0 ∧ l0.getD (2 * k + 1) 0 < 256 := by
        rw [List.getD_eq_getElem?_getD]
        cases hq : l0[2 * k + 1]? with
        | none => simp
        | some y => exact HBy.out y (List.mem_of_getElem? hq)
      have hs := Aside0.mk (show psumTo l0 (k + 1) = psumTo l0 k + (256 * l0[2 * k] + l0.getD (2 * k + 1) 0) from by rw [psumTo_succ l0 k hlt, List.getD_eq_getElem?_getD, List.getElem?_eq_getElem hlt]; rfl)
      have b2 := psumTo_le l0 HBy.out (k + 1)
      rw [hs.out] at b2
      generalize l0.getD (2 * k + 1) 0 = y at *
      obtain ⟨x, hxx⟩ : ∃ x, l0[2 * k] = x := ⟨_, rfl⟩
      rw [hxx] at hw3 hx hs b2
      clear hxx
      obtain ⟨hx0, hx1⟩ := hx
      obtain ⟨hy0, hy1⟩ := hy
      have hor := i64_or8 x y hx0 hx1 hy0 hy1
      have hc1 : w2.cell? ⟨wr.heap.size, 0, none⟩ = some (.int .u8 x) := (blk_cell hw3 0).trans rfl
      have hc2 : w2.cell? ⟨wr.heap.size, 1, none⟩ = some (.int .u8 y) := (blk_cell hw3 1).trans rfl
      clear hw3
      have HB2 := Aside0.mk hb2
      clear hb2 HB
      go_wp2
      go_roundw
      case rel => exact ⟨k + 1, by omega, by go_num, by rw [hs.out], HB2⟩
      case measure => simp [intOf]; omega
    · have hall := psumTo_all l0 k (by omega)
      have hge : ¬ ((k : Int) < ((l0.length : Int) + 1) / 2) := by omega
      have hps := psum_le l0 HBy.out
      rw [hall]
      clear hall b1
      obtain ⟨q, hq⟩ : ∃ q, psum l0 = q := ⟨_, rfl⟩
      have HR := Aside0.mk (show csum l0 = 65535 - nrm q from by rw [← hq]; rfl)
      rw [hq] at hps
      rw [hq]
      clear hq
      go_wp2
      go_loop [3] (fun s => ∃ n : Int, 0 ≤ n ∧ n ≤ 9223372036854775807 ∧ Aside0 (nrm n = nrm q) ∧ s = .int .i64 n) (fun s => (intOf s).toNat)
      case atStart => exact ⟨q, by omega, by omega, ⟨rfl⟩, rfl⟩
      case round =>
        obtain ⟨n, hn0, hn1, hnq, rfl⟩ := hrel
        have ha := i64_and16 n
        by_cases hb : 65536 ≤ n
        · have hs := Aside0.mk (nrm_step n hb)
          have hd : decide (0 < n / 65536) = true := by simp; omega
          go_wp2
          go_round
          case rel => exact ⟨n % 65536 + n / 65536, by omega, by omega, ⟨hs.out.trans hnq.out⟩, by first | rfl | go_num⟩
          case measure => simp [intOf]; omega
        · have hd : decide (0 < n / 65536) = false := by simp; omega
          have hx := i64_xor16 n hn0 (by omega)
          have he := Aside0.mk ((nrm_small n hn0 (by omega)).symm.trans hnq.out)
          go_wp2
          go_ret
          exact ⟨by rw [HR.out, ← he.out]; rfl, HB.out⟩

end Go.Proofs.Ytndkaffkdjaaoaa.H
namespace Go.Proofs.Ytndkaffkdjaaoaa.QSeg
open Go.RowKit Go.Proofs.Ytndkaffkdjaaoaa.H Go.Proofs.YtndkaffkdjaaoaaW.PrintWords Go.Proofs.YtndkaffkdjaaoaaW.PrintLast Go.Proofs.YtndkaffkdjaaoaaW.PrintMore
attribute [local go_sem] max2_int min2_int max_two min_two max_three min_three max_four min_four   -- for this text's walks alone
set_option linter.unusedVariables false
set_option linter.unusedSimpArgs false



def errW : Option Int → Value
  | none => .nilIface
  | some c => .iface 0 (.int .i64 c)
theorem errW_none : errW none = .nilIface := rfl
theorem errW_some (c : Int) : errW (some c) = .iface 0 (.int .i64 c) := rfl

theorem info5 : (Try.prog.info? 5).map (fun i => (i.zero, i.size, i.bytes)) = some (some (.int .u8 0), 1, 1) := by kernel_rfl
theorem info23 : (Try.prog.info? 23).map (fun i => (i.zero, i.size, i.bytes)) = some (some (.slice none 0 0), 1, 24) := by kernel_rfl
theorem info25 : (Try.prog.info? 25).map (fun i => (i.zero, i.size, i.bytes)) = some (some (.agg #[(.int .i64 0), (.int .i64 0), (.int .u32 0), (.int .u32 0), (.int .i64 0), (.int .i64 0), (.int .i64 0), (.slice none 0 0)]), 8, 72) := by kernel_rfl
-- the values' own types
def rd_L1 (xs : List (List Int)) (i : Int) : (List Int) := xs.getD i.toNat ([] : List Int)
theorem at_L1 {w : World} {A : Option Addr} {n : Nat} {xs : List (List Int)} (h : Kd.C (Kd.slice 5 (Kd.int .u8)) w A n xs) (i : Int) (h0 : 0 ≤ i) (h1 : i < n) : ∃ ad A0 c0, A = some ad ∧ w.cell? (ad.add i.toNat) = some (.slice A0 (rd_L1 xs i).length c0) ∧ (rd_L1 xs i).length ≤ c0 ∧ (Kd.int .u8).C w A0 (rd_L1 xs i).length (rd_L1 xs i) := by
  obtain ⟨ad, c, e, _, hK, hc0⟩ := Kd.C_get h ([] : List Int) i h0 h1
  have hc : ∀ j u, c[j]? = some u → w.cell? (ad.add (i.toNat * 1 + j)) = some u := hc0
  obtain ⟨A0, c0, rfl, l0, g0⟩ := hK
  exact ⟨ad, A0, c0, e, by have hq := hc 0 _ rfl; rwa [Nat.mul_one, Nat.add_zero] at hq, l0, g0⟩

def rd_L2 (xs : List (List (List Int))) (i : Int) : (List (List Int)) := xs.getD i.toNat ([] : List (List Int))
theorem at_L2 {w : World} {A : Option Addr} {n : Nat} {xs : List (List (List Int))} (h : Kd.C (Kd.slice 23 (Kd.slice 5 (Kd.int .u8))) w A n xs) (i : Int) (h0 : 0 ≤ i) (h1 : i < n) : ∃ ad A0 c0, A = some ad ∧ w.cell? (ad.add i.toNat) = some (.slice A0 (rd_L2 xs i).length c0) ∧ (rd_L2 xs i).length ≤ c0 ∧ (Kd.slice 5 (Kd.int .u8)).C w A0 (rd_L2 xs i).length (rd_L2 xs i) := by
  obtain ⟨ad, c, e, _, hK, hc0⟩ := Kd.C_get h ([] : List (List Int)) i h0 h1
  have hc : ∀ j u, c[j]? = some u → w.cell? (ad.add (i.toNat * 1 + j)) = some u := hc0
  obtain ⟨A0, c0, rfl, l0, g0⟩ := hK
  exact ⟨ad, A0, c0, e, by have hq := hc 0 _ rfl; rwa [Nat.mul_one, Nat.add_zero] at hq, l0, g0⟩

/-! #### struct type 25 -/
structure S25 where
  f0 : Int
  f1 : Int
  f2 : Int
  f3 : Int
  f4 : Int
  f5 : Int
  f6 : Int
  f7 : (List Int)
def z25 : S25 := ⟨(0 : Int), (0 : Int), (0 : Int), (0 : Int), (0 : Int), (0 : Int), (0 : Int), ([] : List Int)⟩
def k25 : Kd S25 := Kd.iso (Kd.pair (Kd.int .i64) (Kd.pair (Kd.int .i64) (Kd.pair (Kd.int .u32) (Kd.pair (Kd.int .u32) (Kd.pair (Kd.int .i64) (Kd.pair (Kd.int .i64) (Kd.pair (Kd.int .i64) (Kd.slice 5 (Kd.int .u8))))))))) (fun x : S25 => (x.f0, x.f1, x.f2, x.f3, x.f4, x.f5, x.f6, x.f7))
theorem k25_heap : Kd.Heap k25 := Kd.heap_iso _ (Kd.heap_pair (Kd.heap_int .i64) (Kd.heap_pair (Kd.heap_int .i64) (Kd.heap_pair (Kd.heap_int .u32) (Kd.heap_pair (Kd.heap_int .u32) (Kd.heap_pair (Kd.heap_int .i64) (Kd.heap_pair (Kd.heap_int .i64) (Kd.heap_pair (Kd.heap_int .i64) (Kd.heap_slice 5 (Kd.heap_int .u8)))))))))
theorem k25_open {w : World} {x : S25} {cs : List Value} (h : k25.K w x cs) : ∃ A7 c7, cs = [.int .i64 x.f0, .int .i64 x.f1, .int .u32 x.f2, .int .u32 x.f3, .int .i64 x.f4, .int .i64 x.f5, .int .i64 x.f6, .slice A7 x.f7.length c7] ∧ x.f7.length ≤ c7 ∧ (Kd.int .u8).C w A7 x.f7.length x.f7 := by
  obtain ⟨_, _, rfl, rfl, ⟨_, _, rfl, rfl, ⟨_, _, rfl, rfl, ⟨_, _, rfl, rfl, ⟨_, _, rfl, rfl, ⟨_, _, rfl, rfl, ⟨_, _, rfl, rfl, ⟨A7, c7, rfl, l7, g7⟩⟩⟩⟩⟩⟩⟩⟩ := h
  exact ⟨A7, c7, rfl, l7, g7⟩
theorem k25_openM {w : World} {base : Nat} {ok : Nat → Prop} {x : S25} {cs : List Value} (h : k25.M w base ok x cs) : ∃ v7, cs = [.int .i64 x.f0, .int .i64 x.f1, .int .u32 x.f2, .int .u32 x.f3, .int .i64 x.f4, .int .i64 x.f5, .int .i64 x.f6, v7] ∧ (Kd.int .u8).R 5 w base ok v7 x.f7 := by
  obtain ⟨_, _, rfl, rfl, ⟨_, _, rfl, rfl, ⟨_, _, rfl, rfl, ⟨_, _, rfl, rfl, ⟨_, _, rfl, rfl, ⟨_, _, rfl, rfl, ⟨_, _, rfl, rfl, ⟨v7, rfl, g7⟩⟩⟩⟩⟩⟩⟩⟩ := h
  exact ⟨v7, rfl, g7⟩
theorem k25_mk (w : World) (x : S25) {A7 : Option Addr} {c7 : Nat} (l7 : x.f7.length ≤ c7) (g7 : (Kd.int .u8).C w A7 x.f7.length x.f7) : k25.K w x [.int .i64 x.f0, .int .i64 x.f1, .int .u32 x.f2, .int .u32 x.f3, .int .i64 x.f4, .int .i64 x.f5, .int .i64 x.f6, .slice A7 x.f7.length c7] := ⟨[.int .i64 x.f0], [.int .i64 x.f1, .int .u32 x.f2, .int .u32 x.f3, .int .i64 x.f4, .int .i64 x.f5, .int .i64 x.f6, .slice A7 x.f7.length c7], rfl, rfl, ⟨[.int .i64 x.f1], [.int .u32 x.f2, .int .u32 x.f3, .int .i64 x.f4, .int .i64 x.f5, .int .i64 x.f6, .slice A7 x.f7.length c7], rfl, rfl, ⟨[.int .u32 x.f2], [.int .u32 x.f3, .int .i64 x.f4, .int .i64 x.f5, .int .i64 x.f6, .slice A7 x.f7.length c7], rfl, rfl, ⟨[.int .u32 x.f3], [.int .i64 x.f4, .int .i64 x.f5, .int .i64 x.f6, .slice A7 x.f7.length c7], rfl, rfl, ⟨[.int .i64 x.f4], [.int .i64 x.f5, .int .i64 x.f6, .slice A7 x.f7.length c7], rfl, rfl, ⟨[.int .i64 x.f5], [.int .i64 x.f6, .slice A7 x.f7.length c7], rfl, rfl, ⟨[.int .i64 x.f6], [.slice A7 x.f7.length c7], rfl, rfl, ⟨A7, c7, rfl, l7, g7⟩⟩⟩⟩⟩⟩⟩⟩
theorem k25_mkM (w : World) (base : Nat) (ok : Nat → Prop) (x : S25) {v7 : Value} (g7 : (Kd.int .u8).R 5 w base ok v7 x.f7) : k25.M w base ok x [.int .i64 x.f0, .int .i64 x.f1, .int .u32 x.f2, .int .u32 x.f3, .int .i64 x.f4, .int .i64 x.f5, .int .i64 x.f6, v7] := ⟨[.int .i64 x.f0], [.int .i64 x.f1, .int .u32 x.f2, .int .u32 x.f3, .int .i64 x.f4, .int .i64 x.f5, .int .i64 x.f6, v7], rfl, rfl, ⟨[.int .i64 x.f1], [.int .u32 x.f2, .int .u32 x.f3, .int .i64 x.f4, .int .i64 x.f5, .int .i64 x.f6, v7], rfl, rfl, ⟨[.int .u32 x.f2], [.int .u32 x.f3, .int .i64 x.f4, .int .i64 x.f5, .int .i64 x.f6, v7], rfl, rfl, ⟨[.int .u32 x.f3], [.int .i64 x.f4, .int .i64 x.f5, .int .i64 x.f6, v7], rfl, rfl, ⟨[.int .i64 x.f4], [.int .i64 x.f5, .int .i64 x.f6, v7], rfl, rfl, ⟨[.int .i64 x.f5], [.int .i64 x.f6, v7], rfl, rfl, ⟨[.int .i64 x.f6], [v7], rfl, rfl, ⟨v7, rfl, g7⟩⟩⟩⟩⟩⟩⟩⟩
theorem k25_openF {W : World} {ok : Nat → Prop} {x : S25} {cs : List Value} (h : Kd.FK k25 W ok x cs) : ∃ A7 c7, cs = [.int .i64 x.f0, .int .i64 x.f1, .int .u32 x.f2, .int .u32 x.f3, .int .i64 x.f4, .int .i64 x.f5, .int .i64 x.f6, .slice A7 x.f7.length c7] ∧ x.f7.length ≤ c7 ∧ Kd.F (Kd.int .u8) W ok A7 x.f7.length x.f7 := by
  obtain ⟨A7, c7, rfl, l7, _⟩ := k25_open (Kd.FK_now h)
  exact ⟨A7, c7, rfl, l7, (fun W' hW => by obtain ⟨A7_, c7_, he, l7_, g7_⟩ := k25_open (h W' hW); injection (Option.some.inj (show some (Value.slice A7 x.f7.length c7) = some (Value.slice A7_ x.f7.length c7_) from congrArg (fun l => l[7]?) he)) with ha_ _ _; rw [ha_]; exact g7_)⟩
theorem k25_mkF (W : World) (ok : Nat → Prop) (x : S25) {A7 : Option Addr} {c7 : Nat} (l7 : x.f7.length ≤ c7) (g7 : Kd.F (Kd.int .u8) W ok A7 x.f7.length x.f7) : Kd.FK k25 W ok x [.int .i64 x.f0, .int .i64 x.f1, .int .u32 x.f2, .int .u32 x.f3, .int .i64 x.f4, .int .i64 x.f5, .int .i64 x.f6, .slice A7 x.f7.length c7] := fun W2 hW => k25_mk W2 x l7 (g7 W2 hW)
def rd_T25 (xs : List S25) (i : Int) : S25 := xs.getD i.toNat z25
theorem at_T25 {w : World} {A : Option Addr} {n : Nat} {xs : List S25} (h : Kd.C k25 w A n xs) (i : Int) (h0 : 0 ≤ i) (h1 : i < n) : ∃ ad A7 c7, A = some ad ∧ w.cell? (ad.add (i.toNat * 8)) = some (.int .i64 (rd_T25 xs i).f0) ∧ w.cell? ⟨(ad.add (i.toNat * 8)).block, (ad.add (i.toNat * 8)).off + 1, none⟩ = some (.int .i64 (rd_T25 xs i).f1) ∧ w.cell? ⟨(ad.add (i.toNat * 8)).block, (ad.add (i.toNat * 8)).off + 2, none⟩ = some (.int .u32 (rd_T25 xs i).f2) ∧ w.cell? ⟨(ad.add (i.toNat * 8)).block, (ad.add (i.toNat * 8)).off + 3, none⟩ = some (.int .u32 (rd_T25 xs i).f3) ∧ w.cell? ⟨(ad.add (i.toNat * 8)).block, (ad.add (i.toNat * 8)).off + 4, none⟩ = some (.int .i64 (rd_T25 xs i).f4) ∧ w.cell? ⟨(ad.add (i.toNat * 8)).block, (ad.add (i.toNat * 8)).off + 5, none⟩ = some (.int .i64 (rd_T25 xs i).f5) ∧ w.cell? ⟨(ad.add (i.toNat * 8)).block, (ad.add (i.toNat * 8)).off + 6, none⟩ = some (.int .i64 (rd_T25 xs i).f6) ∧ w.cell? ⟨(ad.add (i.toNat * 8)).block, (ad.add (i.toNat * 8)).off + 7, none⟩ = some (.slice A7 (rd_T25 xs i).f7.length c7) ∧ (rd_T25 xs i).f7.length ≤ c7 ∧ (Kd.int .u8).C w A7 (rd_T25 xs i).f7.length (rd_T25 xs i).f7 := by
  obtain ⟨ad, c, e, _, hK, hc0⟩ := Kd.C_get h z25 i h0 h1
  have hc : ∀ j u, c[j]? = some u → w.cell? (ad.add (i.toNat * 8 + j)) = some u := hc0
  obtain ⟨A7, c7, rfl, l7, g7⟩ := k25_open hK
  exact ⟨ad, A7, c7, e, hc 0 _ rfl, by rw [← add_field _ _ 1 (by omega)]; exact hc 1 _ rfl, by rw [← add_field _ _ 2 (by omega)]; exact hc 2 _ rfl, by rw [← add_field _ _ 3 (by omega)]; exact hc 3 _ rfl, by rw [← add_field _ _ 4 (by omega)]; exact hc 4 _ rfl, by rw [← add_field _ _ 5 (by omega)]; exact hc 5 _ rfl, by rw [← add_field _ _ 6 (by omega)]; exact hc 6 _ rfl, by rw [← add_field _ _ 7 (by omega)]; exact hc 7 _ rfl, l7, g7⟩

def rd_L6 (xs : List (List S25)) (i : Int) : (List S25) := xs.getD i.toNat ([] : List S25)
theorem at_L6 {w : World} {A : Option Addr} {n : Nat} {xs : List (List S25)} (h : Kd.C (Kd.slice 25 k25) w A n xs) (i : Int) (h0 : 0 ≤ i) (h1 : i < n) : ∃ ad A0 c0, A = some ad ∧ w.cell? (ad.add i.toNat) = some (.slice A0 (rd_L6 xs i).length c0) ∧ (rd_L6 xs i).length ≤ c0 ∧ k25.C w A0 (rd_L6 xs i).length (rd_L6 xs i) := by
  obtain ⟨ad, c, e, _, hK, hc0⟩ := Kd.C_get h ([] : List S25) i h0 h1
  have hc : ∀ j u, c[j]? = some u → w.cell? (ad.add (i.toNat * 1 + j)) = some u := hc0
  obtain ⟨A0, c0, rfl, l0, g0⟩ := hK
  exact ⟨ad, A0, c0, e, by have hq := hc 0 _ rfl; rwa [Nat.mul_one, Nat.add_zero] at hq, l0, g0⟩

end Go.Proofs.Ytndkaffkdjaaoaa.QSeg
