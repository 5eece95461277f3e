/- Package limbs: Back, of a number from 0 on of two parts at most. No further condition. -/
import Derived.Test.YtdamegaedmckbaaGreatDoorX5
import Derived.RangeFuncBox
import Derived.RangeFuncNested
import Derived.RangeFuncBound
import Derived.RangeFuncCalls
import Derived.RangeFuncLeaves
import Derived.Shelf.Abstract
import Derived.Shelf.RegionOpen
import Derived.WalkKit
import Derived.OwnWalkIn
import Derived.TacticsInMore
import Derived.LoopNIn
import Derived.LoopIn
set_option linter.unusedSimpArgs false
set_option linter.unusedVariables false
section
namespace Go.Proofs.YtdamegaedmckbaaGreatDoor
open Go.RowKit Go.Shelf

attribute [local go_sem] Oper.semAt_some

/-- What has come when k rounds are over. -/
def upto {α : Type} (f : Nat → α) (k : Nat) : List α := (List.range k).map f
theorem upto_succ {α : Type} (f : Nat → α) (k : Nat) : upto f (k + 1) = upto f k ++ [f k] := by simp [upto, List.range_succ]
theorem upto_length {α : Type} (f : Nat → α) (k : Nat) : (upto f k).length = k := by simp [upto]
/-- The parts from the last one on, each with its place. -/
def backs (d : List Nat) (n : Nat) (j : Nat) : Nat × Int := (n - 1 - j, lim d (n - 1 - j))
/-- What a round keeps: what lay below n₀, and the box of the slice. -/
def KpB (n₀ Bs : Nat) (A B : World) : Prop := Below n₀ A B ∧ B.cell? ⟨Bs, 0, none⟩ = A.cell? ⟨Bs, 0, none⟩
theorem KpB.refl (n₀ Bs : Nat) (A : World) : KpB n₀ Bs A A := ⟨Below.refl _ _, rfl⟩
theorem KpB.trans {n₀ Bs : Nat} {A B C : World} (h : KpB n₀ Bs A B) (h' : KpB n₀ Bs B C) : KpB n₀ Bs A C := ⟨h.1.trans h'.1, h'.2.trans h.2⟩
set_option maxRecDepth 100000 in
set_option maxHeartbeats 2000000 in
theorem backward1_in (F : Fence) (m : Nat) (h7 : F.fn 297) (hro : F.round = none) (hm : 1 ≤ m) (l Bs n₀ b off n cap : Nat) (d : List Nat) (hreach : n ≤ 35184372088832) (hb : b < n₀) (J Jx : List (Nat × Int) → World → Prop)
    (hY : ∀ pre x W, J pre W → pre.length < n → YieldAt F (m - 1) Tryz.prog l #[.int .i64 (x.1 : Int), .int .u32 x.2] W fun e W' =>
      (e = .returned (.bool true) ∧ J (pre ++ [x]) W' ∧ KpB n₀ Bs W W') ∨ (e = .returned (.bool false) ∧ Jx (pre ++ [x]) W'))
    (W : World) (hBs : W.cell? ⟨Bs, 0, none⟩ = some (.slice (some ⟨b, off, none⟩) n cap)) (hc : ∀ j, j < n → W.cell? ⟨b, off + j, none⟩ = some (.int .u32 (lim d j))) (h0 : J [] W) :
    CallsIn F m Tryz.prog 297 #[.func (.yield l) #[] #[], .pointer (some ⟨Bs, 0, none⟩)] W fun e W' => (∃ v, e = .returned v) ∧
      ((∃ ys, ys = upto (backs d n) n ∧ J ys W') ∨ (∃ pre, (∃ k, k ≤ n ∧ pre = upto (backs d n) k) ∧ Jx pre W')) := by
  have HC := Lib.hid hc
  clear hc
  refine callsIn_of_wp Tryz.func297 rfl h7 ?_ hro
  simp only [Tryz.ntmps297, List.size_toArray, List.length_cons, List.length_nil, Nat.reduceAdd, Nat.reduceSub, Array.replicate_succ, Array.replicate_zero, List.push_toArray, List.append_toArray, List.nil_append, List.cons_append]
  gi_wp2
  gi_loopw [3] (fun i wr => ∃ k : Nat, k ≤ n ∧ i = .int .i64 ((n : Int) - 1 - k) ∧ J (upto (backs d n) k) wr ∧ KpB n₀ Bs W wr)
    (fun i _ => (intOf i + 1).toNat)
  case atStart => exact ⟨0, Nat.zero_le _, by first | rfl | (simp; done) | (rw [IntWalk.i64_in _ (by omega)]; simp), h0, KpB.refl _ _ _⟩
  case round =>
    obtain ⟨k, hk, rfl, hJs, hnx⟩ := hrel
    have hBk : wr.cell? ⟨Bs, 0, none⟩ = some (.slice (some ⟨b, off, none⟩) n cap) := hnx.2.trans hBs
    by_cases hlt : k < n
    · obtain ⟨fn, tmps, assign, body, hy, hR⟩ := hY _ (backs d n k) wr hJs (by rw [upto_length]; exact hlt)
      dsimp only [backs] at hy
      obtain ⟨j, hj⟩ : ∃ j, n = k + 1 + j := ⟨n - 1 - k, by omega⟩
      have hj1 : n - 1 - k = j := by omega
      rw [hj1] at hy
      have hcx : wr.cell? ⟨b, off + j, none⟩ = some (.int .u32 (lim d j)) := (hnx.1.cell (p := ⟨b, off + j, none⟩) hb).trans (HC.out j (by omega))
      have hj2 : ((n : Int) - 1 - k) = (j : Int) := by omega
      rw [hj2]
      have hjn : j < n := by omega
      have HJ := Lib.hid hj
      clear hj hj1 hj2
      gi_wp2
      refine hR.mono ?_
      rintro e W3 (⟨rfl, hJ3, hk3⟩ | ⟨rfl, hJx3⟩)
      · gi_wp2
        go_roundw
        case rel => exact ⟨k + 1, by omega, by have := HJ.out; simp; omega, by rw [upto_succ]; exact hJ3, hnx.trans hk3⟩
        case measure => simp [intOf]
      · gi_wp2
        refine bodyPost_ret (results_none rfl _ _ _) rfl ?_
        exact ⟨⟨_, rfl⟩, .inr ⟨_, ⟨k + 1, by omega, (upto_succ _ _).symm⟩, hJx3⟩⟩
    · obtain rfl : k = n := by omega
      have hm1 : ((k : Int) - 1 - k) = -1 := by omega
      rw [hm1]
      gi_wp2
      go_end0
      exact ⟨⟨_, rfl⟩, .inl ⟨_, rfl, hJs⟩⟩
set_option maxRecDepth 100000 in
set_option maxHeartbeats 1000000 in
theorem backward1_nil_in (F : Fence) (m : Nat) (h7 : F.fn 297) (hro : F.round = none) (l Bs c : Nat) (a : Option Addr) (J : List (Nat × Int) → World → Prop) (W : World) (hBs : W.cell? ⟨Bs, 0, none⟩ = some (.slice a 0 c)) (h0 : J [] W) :
    CallsIn F m Tryz.prog 297 #[.func (.yield l) #[] #[], .pointer (some ⟨Bs, 0, none⟩)] W fun e W' => (∃ v, e = .returned v) ∧ J [] W' := by
  refine callsIn_of_wp Tryz.func297 rfl h7 ?_ hro
  simp only [Tryz.ntmps297, List.size_toArray, List.length_cons, List.length_nil, Nat.reduceAdd, Nat.reduceSub, Array.replicate_succ, Array.replicate_zero, List.push_toArray, List.append_toArray, List.nil_append, List.cons_append]
  gi_wp2
  gi_loopw [3] (fun i wr => i = .int .i64 (-1) ∧ J [] wr) (fun _ _ => 0)
  case atStart => exact ⟨rfl, h0⟩
  case round =>
    obtain ⟨rfl, hJs⟩ := hrel
    gi_wp2
    go_end0
    exact ⟨⟨_, rfl⟩, hJs⟩
set_option maxHeartbeats 1000000 in
/-- slices.Backward: the slice value is boxed; the function value captures the box. -/
theorem Backward_c (a : Option Addr) (n c : Nat) (w : World) :
    Calls Tryz.prog 257 #[.slice a n c] w fun e w' => e = .returned (.func (.func 297) #[] #[.pointer (some ⟨w.heap.size, 0, none⟩)]) ∧ w' = w.alloc (.cells #[.slice a n c] 57) := by
  go_enter Tryz.func257, Tryz.ntmps257
  go_wp2
  go_ret
  exact ⟨rfl, rfl⟩
/-- slices.Backward's value: all parts from the last one on. -/
theorem backward_stops (F : Fence) (m : Nat) (h7 : F.fn 297) (hro : F.round = none) (hm : 1 ≤ m) (Bs n₀ : Nat) (a : Option Addr) (n c : Nat) (d : List Nat) (w : World) (hBs : Bs < w.heap.size) (hn₀ : n₀ ≤ w.heap.size)
    (hc : w.cell? ⟨Bs, 0, none⟩ = some (.slice a n c)) (hd : RdL w a n c d) (hlow : n = 0 ∨ ∃ b o, a = some ⟨b, o, none⟩ ∧ b < n₀) :
    SeqStopsK F m Tryz.prog 297 #[.pointer (some ⟨Bs, 0, none⟩)] (fun x : Nat × Int => #[Value.int .i64 (x.1 : Int), Value.int .u32 x.2]) (KpB n₀ Bs) (fun ys => ys = upto (backs d n) n)
      (fun pre => ∃ k, k ≤ n ∧ pre = upto (backs d n) k) n w := fun l J Jx W hW _ _ hY h0 => by
  have hc' := (hW.cell (p := ⟨Bs, 0, none⟩) hBs).trans hc
  rcases hlow with rfl | ⟨b, o, rfl, hb⟩
  · exact (backward1_nil_in F m h7 hro l Bs c a J W hc' h0).mono fun e W' ⟨he, hj⟩ => ⟨he, .inl ⟨_, rfl, hj⟩⟩
  · exact backward1_in F m h7 hro hm l Bs n₀ b o n c d hd.few hb J Jx hY W hc' (fun j hj => (hd.keep hW).at hj) h0
/-- What Back has reckoned when the parts of pre have come; f: how a number is brought into range. -/
def bkW (f : Int → Int) : List (Nat × Int) → Int := List.foldl (fun s x => f (f (s * 1000000000) - f x.2)) 0
theorem bkW_one (f : Int → Int) (x : Nat) : bkW f (upto (backs [x] 1) 1) = f (f (0 * 1000000000) - f x) := rfl
theorem bkW_two (f : Int → Int) (x y : Nat) : bkW f (upto (backs [x, y] 2) 2) = f (f (f (f (0 * 1000000000) - f y) * 1000000000) - f x) := rfl
theorem bkW_none (f : Int → Int) (d : List Nat) : bkW f (upto (backs d 0) 0) = 0 := rfl
theorem val_one (x : Nat) : val [x] = x := by rw [val, val, Nat.mul_zero, Nat.add_zero]
theorem val_two (x y : Nat) : val [x, y] = x + 1000000000 * y := by rw [val, val_one]
def bk (pre : List (Nat × Int)) : Int := bkW wrap64 pre
theorem bk_snoc (pre : List (Nat × Int)) (x : Nat × Int) : bk (pre ++ [x]) = wrap64 (wrap64 (bk pre * 1000000000) - wrap64 x.2) := by simp [bk, bkW]
theorem bk_two (x y : Int) (hx : 0 ≤ x) (hx' : x < 1000000000) (hy : 0 ≤ y) (hy' : y < 1000000000) :
    wrap64 (wrap64 (wrap64 (wrap64 (0 * 1000000000) - wrap64 y) * 1000000000) - wrap64 x) = -(x + 1000000000 * y) := by
  rw [Int.zero_mul, IntWalk.wrap64_in 0 (by omega), IntWalk.wrap64_in y (by omega), IntWalk.wrap64_in x (by omega), IntWalk.wrap64_in (0 - y) (by omega), IntWalk.wrap64_in ((0 - y) * 1000000000) (by omega), IntWalk.wrap64_in _ (by omega)]
  omega
theorem bk_one (x : Int) (hx : 0 ≤ x) (hx' : x < 1000000000) :
    wrap64 (wrap64 (0 * 1000000000) - wrap64 x) = -x := by
  rw [Int.zero_mul, IntWalk.wrap64_in 0 (by omega), IntWalk.wrap64_in x (by omega), IntWalk.wrap64_in (0 - x) (by omega)]
  omega
theorem bk_val1 (x : Nat) (hx : x < 1000000000) : bk (upto (backs [x] 1) 1) = -(val [x] : Int) := by
  rw [bk, bkW_one, bk_one x (by omega) (by omega), val_one]
theorem bk_val2 (x y : Nat) (hx : x < 1000000000) (hy : y < 1000000000) : bk (upto (backs [x, y] 2) 2) = -(val [x, y] : Int) := by
  rw [bk, bkW_two, bk_two x y (by omega) (by omega) (by omega) (by omega), val_two]
  rw [Int.natCast_add, Int.natCast_mul]
  rfl
theorem bk_val (d : List Nat) (hd : ∀ x ∈ d, x < 1000000000) {n : Nat} (hl : d.length = n) (h2 : n ≤ 2) : bk (upto (backs d n) n) = -(val d : Int) := by
  subst hl
  match d with
  | [] => rw [bk, show ([] : List Nat).length = 0 from rfl, bkW_none]; rfl
  | [x] => exact bk_val1 x (hd x (by simp))
  | [x, y] => exact bk_val2 x y (hd x (by simp)) (hd y (by simp))
  | x :: y :: t :: l => simp at h2
def RetBack (w : World) (z : Int) (e : Ending) (w' : World) : Prop := e = .returned (.tuple #[.int .i64 z, .int .i64 0]) ∧ Below w.heap.size w w'
set_option maxRecDepth 100000 in
set_option maxHeartbeats 2000000 in
theorem Back_c (w : World) (g : Bool) (a : Option Addr) (n c : Nat) (z : Int) (h : NumAt w g a n c z) (h0 : 0 ≤ z) (h2 : n ≤ 2) :
    Calls Tryz.prog 210 #[.agg #[.bool g, .slice a n c]] w (RetBack w z) := by
  have HB := Below.refl w.heap.size w
  have ho := Lib.hid h.okay
  refine (callsIn_wide (n := 3)).1 ?_
  refine callsIn_of_wp_marks Tryz.func210 rfl trivial ?_ rfl
  refine wpIn_wide.2 ?_
  simp only [Tryz.ntmps210, List.size_toArray, List.length_cons, List.length_nil, Nat.reduceAdd, Nat.reduceSub, Array.replicate_succ, Array.replicate_zero, List.push_toArray, List.append_toArray, List.nil_append, List.cons_append]
  have hzb : z < 1000000000000000000 := by
    have h3 := val_lt (dg z.natAbs) (dg_lt _)
    have h4 := h.rd.len
    have h5 := Nat.pow_le_pow_right (show 0 < 1000000000 by omega) (show (dg z.natAbs).length ≤ 2 by omega)
    rw [val_dg] at h3
    omega
  have hg : g = false := by rw [h.neg]; simp; omega
  subst hg
  have hcm1 : cmpI z (-9223372036854775808) = 1 := cmpI_gt (by omega)
  have hcm2 : cmpI z 9223372036854775807 = -1 := cmpI_lt (by omega)
  go_wp2_with fail
  refine (Check_c _ _ _ _ _ (dg z.natAbs) (h.rd.keep (by go_grown)) true ⟨fun _ => rfl, fun _ => ho.out⟩).mono ?_
  rintro e w1 ⟨rfl, hb⟩
  obtain ⟨hc, hf⟩ := bcell hb; have hz := hb.size; (try simp only [World.size_alloc, World.size_drew] at hz)
  replace HB : Below w.heap.size w w1 := Below.trans (by go_grown) (hb.mono (by go_size))
  have s0_0 : w1.cell? ⟨w.heap.size, 0, none⟩ = some (.bool false) := (hc _ _ (by go_size)).trans (by first | assumption | (simp [go_sem]; done)); have s0_1 : w1.cell? ⟨w.heap.size, 1, none⟩ = some (.slice a n c) := (hc _ _ (by go_size)).trans (by first | assumption | (simp [go_sem]; done))
  clear hc hf hb
  go_wp2_with fail
  go_region_held3 (fun W => W.cell? ⟨w.heap.size, 0, none⟩ = some (.bool false) ∧ W.cell? ⟨w.heap.size, 1, none⟩ = some (.slice a n c)) (first | ((try dsimp only); (repeat' apply And.intro); all_goals (first | (with_reducible assumption) | (go_keep; done) | (simp [*, go_sem]; done)))) (first
    | (go_at_call 27; (with_reducible refine (Of_c _ (-9223372036854775808) (by omega) (by omega)).mono ?_); rintro e w2 ⟨g2, a2, n2, c2, rfl, hm, _, hb⟩; have hB2 := Below.trans (by go_grown : Below w1.heap.size w1 _) (hb.mono (by go_size)); have s0_0 := cell_keep hB2 s0_0; have s0_1 := cell_keep hB2 s0_1; replace HB := Below.trans HB (hB2.mono HB.size); have hz2 := hB2.size)
    | (go_at_call 27; (with_reducible refine (Of_c _ 9223372036854775807 (by omega) (by omega)).mono ?_); rintro e w2 ⟨g2, a2, n2, c2, rfl, hm2, _, hb⟩; have hB2 := Below.trans (by go_grown : Below w3.heap.size w3 _) (hb.mono (by go_size)); have s0_0 := cell_keep hB2 s0_0; have s0_1 := cell_keep hB2 s0_1; replace HB := Below.trans HB (hB2.mono HB.size); have hz2 := hB2.size)
    | (go_at_call 175; (with_reducible refine (Cmp_c _ _ _ _ _ _ (h.keep (by go_grown)) _ _ _ _ (-9223372036854775808) (hm.keep (by go_grown))).mono ?_); rintro e w3 ⟨rfl, hb⟩; clear hm; rw [hcm1]; have hB2 := Below.trans (by go_grown : Below w2.heap.size w2 _) (hb.mono (by go_size)); have s0_0 := cell_keep hB2 s0_0; have s0_1 := cell_keep hB2 s0_1; replace HB := Below.trans HB (hB2.mono HB.size); have hz3 := hB2.size)
    | (go_at_call 175; (with_reducible refine (Cmp_c _ _ _ _ _ _ (h.keep (by go_grown)) _ _ _ _ 9223372036854775807 (hm2.keep (by go_grown))).mono ?_); rintro e w4 ⟨rfl, hb⟩; rw [hcm2]; have hB2 := Below.trans (by go_grown : Below w2.heap.size w2 _) (hb.mono (by go_size)); have s0_0 := cell_keep hB2 s0_0; have s0_1 := cell_keep hB2 s0_1; replace HB := Below.trans HB (hB2.mono HB.size); have hz3 := hB2.size))
  have hk0 : w.heap.size < w4.heap.size := by omega
  go_wp2_with fail
  refine (Backward_c _ _ _ _).mono ?_
  rintro e w5 ⟨rfl, rfl⟩
  go_wp2_with fail
  have hlow : n = 0 ∨ ∃ b o, a = some ⟨b, o, none⟩ ∧ b < w4.heap.size := by
    rcases h.rd.cell with h1 | ⟨b, o, h1, h3⟩
    · exact .inl h1
    · rcases Nat.eq_zero_or_pos n with h5 | h5
      · exact .inl h5
      · refine .inr ⟨b, o, h1, ?_⟩
        have : b < w.heap.size := World.block_lt_of_cell? w ⟨b, o + 0, none⟩ (h3 0 h5)
        omega
  have bP := Boxed.new w4 2 (.int .i64 0)
  have bS := Boxed.new (w4.alloc (.cells #[.int .i64 0] 2)) 57 (.slice a n c)
  rw [World.size_alloc] at bS
  have hB0 : Below w4.heap.size w4 ((w4.alloc (.cells #[.int .i64 0] 2)).alloc (.cells #[.slice a n c] 57)) := ((Below.refl _ w4).alloc (Nat.le_refl _) _).alloc (by simp) _
  have hrd := h.rd.keep (HB.trans (hB0.mono HB.size))
  have bPc : ((w4.alloc (.cells #[.int .i64 0] 2)).alloc (.cells #[.slice a n c] 57)).cell? ⟨w4.heap.size, 0, none⟩ = some (.int .i64 0) := (bP.alloc _).cell
  have bPf : ((w4.alloc (.cells #[.int .i64 0] 2)).alloc (.cells #[.slice a n c] 57)).frozen? ⟨w4.heap.size, 0, none⟩ = false := (bP.alloc _).frozen
  have bSc := bS.cell
  have hsz0 : ((w4.alloc (.cells #[.int .i64 0] 2)).alloc (.cells #[.slice a n c] 57)).heap.size = w4.heap.size + 2 := by simp
  generalize ((w4.alloc (.cells #[.int .i64 0] 2)).alloc (.cells #[.slice a n c] 57)) = w5 at *
  clear bP bS
  refine (wpIn_wide (n := 3)).1 ?_
  refine wpIn_rangeFunc_ownG (F := Fence.wide) rfl (by omega) (gf := 297) (lb := #[.pointer (some ⟨w4.heap.size + 1, 0, none⟩)]) rfl trivial (enters_of Tryz.func297 (by kernel_rfl) rfl)
    (backward_stops Fence.wide 2 trivial rfl (by omega) (w4.heap.size + 1) w4.heap.size a n c (dg z.natAbs) w5 (by omega) (by omega) bSc hrd hlow)
    (fun h1 h2 => KpB.trans h1 h2)
    (fun W l o o' hl ho hc1 hc2 => ⟨belowK_b (by omega) W l o o' hl ho hc1 hc2, World.cell?_of_block (World.putObj_heap_other (fun e => by have e : w4.heap.size + 1 = l := e; omega))⟩)
    (Below.refl _ _) (fun _ => rfl)
    (fun pre W => (W.cell? ⟨w4.heap.size, 0, none⟩ = some (.int .i64 (bk pre)) ∧ W.frozen? ⟨w4.heap.size, 0, none⟩ = false) ∧ Below w4.heap.size w4 W)
    (fun _ _ _ => False)
    (OwnFrom.and (Own.from (fun s A B row hs hg hr => ⟨cell_kept hs.1 hg hr, (frozen_kept hs.1 hg hr).trans hs.2⟩) _) (ownFrom_below (by omega) (by omega)))
    (fun _ _ _ _ _ hs _ _ => hs)
    ⟨⟨bPc, bPf⟩, hB0⟩ ?a1 ?assign ?body ?done ?stop
  case assign =>
    intro l x W K hK
    gi_wp2
    exact hK
  case body =>
    rintro l pre x W ⟨⟨hc, hf⟩, hB⟩ _
    gi_wp2
    exact ⟨(KeepsOthers.setCell _ _ _).from _, ⟨(Below.refl _ W).setCell (p := ⟨w4.heap.size, 0, none⟩) (Nat.le_refl _) _, World.cell?_setCell_far _ _ _ _ (by show w4.heap.size ≠ w4.heap.size + 1; omega)⟩, ⟨by rw [bk_snoc]; exact World.cell?_setCell_same' _ _ _ (by rw [hc]; rfl), by rw [World.frozen?_setCell]; exact hf⟩, hB.setCell (p := ⟨w4.heap.size, 0, none⟩) (Nat.le_refl _) _⟩
  case done =>
    rintro D ys W hD rfl ⟨⟨hc, hf⟩, hB⟩ hK
    rw [bk_val _ (dg_lt _) h.rd.len h2, val_dg] at hc
    have hneg : -(-((z.natAbs : Nat) : Int)) = z := by omega
    have hnw : IntKind.i64.wrap z = z := IntWalk.i64_in _ (by omega)
    have s0 := cell_keep hB s0_0
    go_wp2_with fail
    have hza : ((z.natAbs : Nat) : Int) = z := by omega
    rw [hza]
    refine ⟨by simp, .inl ⟨_, _, rfl, run_takeDeferred ((KeepsOthers.setCell W ⟨w4.heap.size, 0, none⟩ _).same D _ hK rfl), ?_⟩⟩
    refine ⟨.tuple #[.int .i64 z, .int .i64 0], ?_, rfl, ?_⟩
    · simp [results, Tryz.results210, go_sem]
    · exact (HB.trans (hB.mono HB.size) |>.setCell (p := ⟨w4.heap.size, 0, none⟩) (by show w.heap.size ≤ w4.heap.size; omega) _).trans (belowK_b (w := w) (Nat.le_refl _) _ D _ _ (by omega) ((KeepsOthers.setCell W ⟨w4.heap.size, 0, none⟩ _).same D _ hK rfl) rfl rfl)
  case stop =>
    rintro D c pre W _ _ h _
    exact h.elim
end Go.Proofs.YtdamegaedmckbaaGreatDoor
end
