/- Package limbs: Back, of a number from 0 on of two parts at most. -/
import Derived.Test.YtdamegaedmckbaaGreatDoorQP5
set_option linter.unusedSimpArgs false
set_option linter.unusedVariables false
set_option maxRecDepth 100000
set_option maxHeartbeats 4000000
section
namespace Go.Proofs.YtdamegaedmckbaaGreatDoor
open Go.RowKit Go.Shelf
attribute [local go_sem] Oper.semAt_some
def J9 {α : Type} (f : Nat → α) (k : Nat) : List α := (List.range k).map f
theorem Po {α : Type} (f : Nat → α) (k : Nat) : J9 f (k + 1) = J9 f k ++ [f k] := by simp [J9, List.range_succ]
theorem Sy {α : Type} (f : Nat → α) (k : Nat) : (J9 f k).length = k := by simp [J9]
def H6 (d : List Nat) (n : Nat) (j : Nat) : Nat × Int := (n - 1 - j, lim d (n - 1 - j))
def KpB (n₀ Bs : Nat) (A B : World) : Prop := Below n₀ A B ∧ B.cell? ⟨Bs, 0, none⟩ = A.cell? ⟨Bs, 0, none⟩
theorem KpB.refl (n₀ Bs : Nat) (A : World) : KpB n₀ Bs A A := ⟨Ac _ _, rfl⟩
theorem KpB.trans {n₀ Bs : Nat} {A B C : World} (h : KpB n₀ Bs A B) (h' : KpB n₀ Bs B C) : KpB n₀ Bs A C := ⟨h.1.trans h'.1, h'.2.trans h.2⟩
theorem Qo (F : Fence) (m : Nat) (h7 : F.fn 297) (hro : F.round = none) (hm : 1 ≤ m) (l Bs n₀ b off n cap : Nat) (d : List Nat) (hreach : n ≤ 35184372088832) (hb : b < n₀) (J Jx : List (Nat × Int) → World → Prop)
  (hY : ∀ pre x W, J pre W → pre.length < n → YieldAt F (m - 1) Tryz.prog l #[.int .i64 (x.1 : Int), .int .u32 x.2] W fun e W' =>
   (e = .returned (.bool true) ∧ J (pre ++ [x]) W' ∧ KpB n₀ Bs W W') ∨ (e = .returned (.bool false) ∧ Jx (pre ++ [x]) W'))
  (W : World) (hBs : W.cell? ⟨Bs, 0, none⟩ = some (.slice (some ⟨b, off, none⟩) n cap)) (hc : ∀ j, j < n → W.cell? ⟨b, off + j, none⟩ = some (.int .u32 (lim d j))) (h0 : J [] W) :
  CallsIn F m Tryz.prog 297 #[.func (.yield l) #[] #[], .pointer (some ⟨Bs, 0, none⟩)] W fun e W' => (∃ v, e = .returned v) ∧
   ((∃ ys, ys = J9 (H6 d n) n ∧ J ys W') ∨ (∃ pre, (∃ k, k ≤ n ∧ pre = J9 (H6 d n) k) ∧ Jx pre W')) := by
 have HC := Ae hc
 clear hc
 refine callsIn_of_wp Tryz.func297 rfl h7 ?_ hro
 simp only [Tryz.ntmps297, List.size_toArray, List.length_cons, List.length_nil, Nat.reduceAdd, Nat.reduceSub, Array.replicate_succ, Array.replicate_zero, List.push_toArray, List.append_toArray, List.nil_append, List.cons_append]
 gi_wp2
 gi_loopw [3] (fun i wr => ∃ k : Nat, k ≤ n ∧ i = .int .i64 ((n : Int) - 1 - k) ∧ J (J9 (H6 d n) k) wr ∧ KpB n₀ Bs W wr)
  (fun i _ => (intOf i + 1).toNat)
 case atStart => exact ⟨0, Nat.zero_le _, by first | rfl | (simp; done) | (rw [IntWalk.i64_in _ qB]; simp), h0, KpB.refl _ _ _⟩
 case round =>
  obtain ⟨k, hk, rfl, hJs, hnx⟩ := hrel
  have hBk : wr.cell? ⟨Bs, 0, none⟩ = some (.slice (some ⟨b, off, none⟩) n cap) := hnx.2.trans hBs
  by_cases hlt : k < n
  ·obtain ⟨fn, tmps, assign, body, hy, hR⟩ := hY _ (H6 d n k) wr hJs (by rw [Sy]; exact hlt)
   dsimp only [H6] at hy
   obtain ⟨j, hj⟩ : ∃ j, n = k + 1 + j := ⟨n - 1 - k, by omega⟩
   have hj1 : n - 1 - k = j := by omega
   rw [hj1] at hy
   have hcx : wr.cell? ⟨b, off + j, none⟩ = some (.int .u32 (lim d j)) := (hnx.1.cell (p := ⟨b, off + j, none⟩) hb).trans (HC.out j qB)
   have hj2 : ((n : Int) - 1 - k) = (j : Int) := by omega
   rw [hj2]
   have hjn : j < n := by omega
   have HJ := Ae hj
   clear hj hj1 hj2
   gi_wp2
   refine hR.mono ?_
   rintro e W3 (⟨rfl, hJ3, hk3⟩ | ⟨rfl, hJx3⟩)
   ·gi_wp2
    go_roundw
    case rel => exact ⟨k + 1, by omega, by have := HJ.out; simp; omega, by rw [Po]; exact hJ3, hnx.trans hk3⟩
    case measure => simp [intOf]
   ·gi_wp2
    refine bodyPost_ret (results_none rfl _ _ _) rfl ?_
    exact ⟨⟨_, rfl⟩, .inr ⟨_, ⟨k + 1, by omega, (Po _ _).symm⟩, hJx3⟩⟩
  ·obtain rfl : k = n := by omega
   have hm1 : ((k : Int) - 1 - k) = -1 := by omega
   rw [hm1]
   gi_wp2
   go_end0
   exact ⟨⟨_, rfl⟩, .inl ⟨_, rfl, hJs⟩⟩
theorem Ma (F : Fence) (m : Nat) (h7 : F.fn 297) (hro : F.round = none) (l Bs c : Nat) (a : Option Addr) (J : List (Nat × Int) → World → Prop) (W : World) (hBs : W.cell? ⟨Bs, 0, none⟩ = some (.slice a 0 c)) (h0 : J [] W) :
  CallsIn F m Tryz.prog 297 #[.func (.yield l) #[] #[], .pointer (some ⟨Bs, 0, none⟩)] W fun e W' => (∃ v, e = .returned v) ∧ J [] W' := by
 refine callsIn_of_wp Tryz.func297 rfl h7 ?_ hro
 simp only [Tryz.ntmps297, List.size_toArray, List.length_cons, List.length_nil, Nat.reduceAdd, Nat.reduceSub, Array.replicate_succ, Array.replicate_zero, List.push_toArray, List.append_toArray, List.nil_append, List.cons_append]
 gi_wp2
 gi_loopw [3] (fun i wr => i = .int .i64 (-1) ∧ J [] wr) (fun _ _ => 0)
 case atStart => exact ⟨rfl, h0⟩
 case round =>
  obtain ⟨rfl, hJs⟩ := hrel
  gi_wp2
  go_end0
  exact ⟨⟨_, rfl⟩, hJs⟩
theorem Vu (a : Option Addr) (n c : Nat) (w : World) :
  Calls Tryz.prog 257 #[.slice a n c] w fun e w' => e = .returned (.func (.func 297) #[] #[.pointer (some ⟨w.heap.size, 0, none⟩)]) ∧ w' = w.alloc (.cells #[.slice a n c] 57) := by
 go_enter Tryz.func257, Tryz.ntmps257
 go_wp2
 go_ret
 exact ⟨rfl, rfl⟩
theorem N7 (F : Fence) (m : Nat) (h7 : F.fn 297) (hro : F.round = none) (hm : 1 ≤ m) (Bs n₀ : Nat) (a : Option Addr) (n c : Nat) (d : List Nat) (w : World) (hBs : Bs < w.heap.size) (hn₀ : n₀ ≤ w.heap.size)
  (hc : w.cell? ⟨Bs, 0, none⟩ = some (.slice a n c)) (hd : RdL w a n c d) (hlow : n = 0 ∨ ∃ b o, a = some ⟨b, o, none⟩ ∧ b < n₀) :
  SeqStopsK F m Tryz.prog 297 #[.pointer (some ⟨Bs, 0, none⟩)] (fun x : Nat × Int => #[Value.int .i64 (x.1 : Int), Value.int .u32 x.2]) (KpB n₀ Bs) (fun ys => ys = J9 (H6 d n) n)
   (fun pre => ∃ k, k ≤ n ∧ pre = J9 (H6 d n) k) n w := fun l J Jx W hW _ _ hY h0 => by
 have hc' := (hW.cell (p := ⟨Bs, 0, none⟩) hBs).trans hc
 rcases hlow with rfl | ⟨b, o, rfl, hb⟩
 ·exact (Ma F m h7 hro l Bs c a J W hc' h0).mono fun e W' ⟨he, hj⟩ => ⟨he, .inl ⟨_, rfl, hj⟩⟩
 ·exact Qo F m h7 hro hm l Bs n₀ b o n c d hd.few hb J Jx hY W hc' (fun j hj => (hd.keep hW).at hj) h0
def bkW (f : Int → Int) : List (Nat × Int) → Int := List.foldl (fun s x => f (f (s * 1000000000) - f x.2)) 0
theorem eB (f : Int → Int) (x : Nat) : bkW f (J9 (H6 [x] 1) 1) = f (f (0 * 1000000000) - f x) := rfl
theorem dV (f : Int → Int) (x y : Nat) : bkW f (J9 (H6 [x, y] 2) 2) = f (f (f (f (0 * 1000000000) - f y) * 1000000000) - f x) := rfl
theorem aO (f : Int → Int) (d : List Nat) : bkW f (J9 (H6 d 0) 0) = 0 := rfl
theorem Wd (x : Nat) : val [x] = x := by rw [val, val, Nat.mul_zero, Nat.add_zero]
theorem dX (x y : Nat) : val [x, y] = x + 1000000000 * y := by rw [val, Wd]
def bk (pre : List (Nat × Int)) : Int := bkW wrap64 pre
theorem bQ (pre : List (Nat × Int)) (x : Nat × Int) : bk (pre ++ [x]) = wrap64 (wrap64 (bk pre * 1000000000) - wrap64 x.2) := by simp [bk, bkW]
theorem gF (x y : Int) (hx : 0 ≤ x) (hx' : x < 1000000000) (hy : 0 ≤ y) (hy' : y < 1000000000) :
  wrap64 (wrap64 (wrap64 (wrap64 (0 * 1000000000) - wrap64 y) * 1000000000) - wrap64 x) = -(x + 1000000000 * y) := by
 rw [Int.zero_mul, IntWalk.wrap64_in 0 qB, IntWalk.wrap64_in y qB, IntWalk.wrap64_in x qB, IntWalk.wrap64_in (0 - y) qB, IntWalk.wrap64_in ((0 - y) * 1000000000) qB, IntWalk.wrap64_in _ qB]
 omega
theorem eU (x : Int) (hx : 0 ≤ x) (hx' : x < 1000000000) :
  wrap64 (wrap64 (0 * 1000000000) - wrap64 x) = -x := by
 rw [Int.zero_mul, IntWalk.wrap64_in 0 qB, IntWalk.wrap64_in x qB, IntWalk.wrap64_in (0 - x) qB]
 omega
theorem bK (x : Nat) (hx : x < 1000000000) : bk (J9 (H6 [x] 1) 1) = -(val [x] : Int) := by
 rw [bk, eB, eU x qB qB, Wd]
theorem bO (x y : Nat) (hx : x < 1000000000) (hy : y < 1000000000) : bk (J9 (H6 [x, y] 2) 2) = -(val [x, y] : Int) := by
 rw [bk, dV, gF x y qB qB qB qB, dX]
 rw [Int.natCast_add, Int.natCast_mul]
 rfl
theorem gE (d : List Nat) (hd : ∀ x ∈ d, x < 1000000000) {n : Nat} (hl : d.length = n) (h2 : n ≤ 2) : bk (J9 (H6 d n) n) = -(val d : Int) := by
 subst hl
 match d with
 | [] => rw [bk, show ([] : List Nat).length = 0 from rfl, aO]; rfl
 | [x] => exact bK x (hd x qH)
 | [x, y] => exact bO x y (hd x qH) (hd y qH)
 | x :: y :: t :: l => simp at h2
def bM (w : World) (z : Int) (e : Ending) (w' : World) : Prop := e = .returned (.tuple #[.int .i64 z, .int .i64 0]) ∧ Below w.heap.size w w'
theorem aF (w : World) (g : Bool) (a : Option Addr) (n c : Nat) (z : Int) (h : A4 w g a n c z) (h0 : 0 ≤ z) (h2 : n ≤ 2) :
  Calls Tryz.prog 210 #[.agg #[.bool g, .slice a n c]] w (bM w z) := by
 have HB := Ac w.heap.size w
 have ho := Ae h.okay
 refine (callsIn_wide (n := 3)).1 ?_
 refine callsIn_of_wp_marks Tryz.func210 rfl trivial ?_ rfl
 refine wpIn_wide.2 ?_
 simp only [Tryz.ntmps210, List.size_toArray, List.length_cons, List.length_nil, Nat.reduceAdd, Nat.reduceSub, Array.replicate_succ, Array.replicate_zero, List.push_toArray, List.append_toArray, List.nil_append, List.cons_append]
 have hzb : z < 1000000000000000000 := by
  have h3 := Eg (dg z.natAbs) (Dj _)
  have h4 := h.rd.len
  have h5 := Nat.pow_le_pow_right (show 0 < 1000000000 by omega) (show (dg z.natAbs).length ≤ 2 by omega)
  rw [Ba] at h3
  omega
 have hg : g = false := by rw [h.neg]; simp; omega
 subst hg
 have hcm1 : Br z (-9223372036854775808) = 1 := Ct qB
 have hcm2 : Br z 9223372036854775807 = -1 := Dm qB
 go_wp2_with fail
 refine (C1 _ _ _ _ _ (dg z.natAbs) (h.rd.keep qF) true ⟨fun _ => rfl, fun _ => ho.out⟩).mono ?_
 rintro e w1 ⟨rfl, hb⟩
 obtain ⟨hc, hf⟩ := Ax hb; have hz := hb.size; (try simp only [Aj, Ak] at hz)
 replace HB := zD w hb
 obtain ⟨s0_0, s0_1⟩ := qX hc (w.heap.size) (.bool false) (.slice a n c)
 clear hc hf hb
 go_wp2_with fail
 go_region_held3 (fun W => W.cell? ⟨w.heap.size, 0, none⟩ = some (.bool false) ∧ W.cell? ⟨w.heap.size, 1, none⟩ = some (.slice a n c)) (first | ((try dsimp only); (repeat' apply And.intro); all_goals (first | (with_reducible assumption) | (go_keep; done) | (simp [*, go_sem]; done)))) (first
  | (go_at_call 27; (with_reducible refine (Sz _ (-9223372036854775808) qB qB).mono ?_); rintro e w2 ⟨g2, a2, n2, c2, rfl, hm, _, hb⟩; have hB2 := Al (by go_grown : Below w1.heap.size w1 _) (hb.mono qA); have s0_0 := Au hB2 s0_0; have s0_1 := Au hB2 s0_1; replace HB := Al HB (hB2.mono HB.size); have hz2 := hB2.size)
  | (go_at_call 27; (with_reducible refine (Sz _ 9223372036854775807 qB qB).mono ?_); rintro e w2 ⟨g2, a2, n2, c2, rfl, hm2, _, hb⟩; have hB2 := Al (by go_grown : Below w3.heap.size w3 _) (hb.mono qA); have s0_0 := Au hB2 s0_0; have s0_1 := Au hB2 s0_1; replace HB := Al HB (hB2.mono HB.size); have hz2 := hB2.size)
  | (go_at_call 175; (with_reducible refine (Wf _ _ _ _ _ _ (h.keep qF) _ _ _ _ (-9223372036854775808) (hm.keep qF)).mono ?_); rintro e w3 ⟨rfl, hb⟩; clear hm; rw [hcm1]; have hB2 := Al (by go_grown : Below w2.heap.size w2 _) (hb.mono qA); have s0_0 := Au hB2 s0_0; have s0_1 := Au hB2 s0_1; replace HB := Al HB (hB2.mono HB.size); have hz3 := hB2.size)
  | (go_at_call 175; (with_reducible refine (Wf _ _ _ _ _ _ (h.keep qF) _ _ _ _ 9223372036854775807 (hm2.keep qF)).mono ?_); rintro e w4 ⟨rfl, hb⟩; rw [hcm2]; have hB2 := Al (by go_grown : Below w2.heap.size w2 _) (hb.mono qA); have s0_0 := Au hB2 s0_0; have s0_1 := Au hB2 s0_1; replace HB := Al HB (hB2.mono HB.size); have hz3 := hB2.size))
 have hk0 : w.heap.size < w4.heap.size := by omega
 go_wp2_with fail
 refine (Vu _ _ _ _).mono ?_
 rintro e w5 ⟨rfl, rfl⟩
 go_wp2_with fail
 have hlow : n = 0 ∨ ∃ b o, a = some ⟨b, o, none⟩ ∧ b < w4.heap.size := by
  rcases h.rd.cell with h1 | ⟨b, o, h1, h3⟩
  ·exact .inl h1
  ·rcases Aq n with h5 | h5
   ·exact .inl h5
   ·refine .inr ⟨b, o, h1, ?_⟩
    have : b < w.heap.size := Aa w ⟨b, o + 0, none⟩ (h3 0 h5)
    omega
 have bP := Boxed.new w4 2 (.int .i64 0)
 have bS := Boxed.new (w4.alloc (.cells #[.int .i64 0] 2)) 57 (.slice a n c)
 rw [Aj] at bS
 have hB0 : Below w4.heap.size w4 ((w4.alloc (.cells #[.int .i64 0] 2)).alloc (.cells #[.slice a n c] 57)) := ((Ac _ w4).alloc (Ad _) _).alloc qH _
 have hrd := h.rd.keep (HB.trans (hB0.mono HB.size))
 have bPc : ((w4.alloc (.cells #[.int .i64 0] 2)).alloc (.cells #[.slice a n c] 57)).cell? ⟨w4.heap.size, 0, none⟩ = some (.int .i64 0) := (bP.alloc _).cell
 have bPf : ((w4.alloc (.cells #[.int .i64 0] 2)).alloc (.cells #[.slice a n c] 57)).frozen? ⟨w4.heap.size, 0, none⟩ = false := (bP.alloc _).frozen
 have bSc := bS.cell
 have hsz0 : ((w4.alloc (.cells #[.int .i64 0] 2)).alloc (.cells #[.slice a n c] 57)).heap.size = w4.heap.size + 2 := by simp
 generalize ((w4.alloc (.cells #[.int .i64 0] 2)).alloc (.cells #[.slice a n c] 57)) = w5 at *
 clear bP bS
 refine (wpIn_wide (n := 3)).1 ?_
 refine wpIn_rangeFunc_ownG (F := Fence.wide) rfl qB (gf := 297) (lb := #[.pointer (some ⟨w4.heap.size + 1, 0, none⟩)]) rfl trivial (enters_of Tryz.func297 qG rfl)
  (N7 Fence.wide 2 trivial rfl qB (w4.heap.size + 1) w4.heap.size a n c (dg z.natAbs) w5 qB qB bSc hrd hlow)
  (fun h1 h2 => KpB.trans h1 h2)
  (fun W l o o' hl ho hc1 hc2 => ⟨belowK_b qB W l o o' hl ho hc1 hc2, Af (World.putObj_heap_other (fun e => by have e : w4.heap.size + 1 = l := e; omega))⟩)
  (Ac _ _) (fun _ => rfl)
  (fun pre W => (W.cell? ⟨w4.heap.size, 0, none⟩ = some (.int .i64 (bk pre)) ∧ W.frozen? ⟨w4.heap.size, 0, none⟩ = false) ∧ Below w4.heap.size w4 W)
  (fun _ _ _ => False)
  (OwnFrom.and (Own.from (fun s A B row hs hg hr => ⟨cell_kept hs.1 hg hr, (frozen_kept hs.1 hg hr).trans hs.2⟩) _) (ownFrom_below qB qB))
  (fun _ _ _ _ _ hs _ _ => hs)
  ⟨⟨bPc, bPf⟩, hB0⟩ ?a1 ?assign ?body ?done ?stop
 case assign =>
  intro l x W K hK
  gi_wp2
  exact hK
 case body =>
  rintro l pre x W ⟨⟨hc, hf⟩, hB⟩ _
  gi_wp2
  exact ⟨(KeepsOthers.setCell _ _ _).from _, ⟨(Ac _ W).setCell (p := ⟨w4.heap.size, 0, none⟩) (Ad _) _, World.cell?_setCell_far _ _ _ _ (by show w4.heap.size ≠ w4.heap.size + 1; omega)⟩, ⟨by rw [bQ]; exact World.cell?_setCell_same' _ _ _ (by rw [hc]; rfl), by rw [World.frozen?_setCell]; exact hf⟩, hB.setCell (p := ⟨w4.heap.size, 0, none⟩) (Ad _) _⟩
 case done =>
  rintro D ys W hD rfl ⟨⟨hc, hf⟩, hB⟩ hK
  rw [gE _ (Dj _) h.rd.len h2, Ba] at hc
  have hneg : -(-((z.natAbs : Nat) : Int)) = z := by omega
  have hnw : IntKind.i64.wrap z = z := IntWalk.i64_in _ qB
  have s0 := Au hB s0_0
  go_wp2_with fail
  have hza : ((z.natAbs : Nat) : Int) = z := by omega
  rw [hza]
  refine ⟨by simp, .inl ⟨_, _, rfl, run_takeDeferred ((KeepsOthers.setCell W ⟨w4.heap.size, 0, none⟩ _).same D _ hK rfl), ?_⟩⟩
  refine ⟨.tuple #[.int .i64 z, .int .i64 0], ?_, rfl, ?_⟩
  ·simp [results, Tryz.results210, go_sem]
  ·exact (HB.trans (hB.mono HB.size) |>.setCell (p := ⟨w4.heap.size, 0, none⟩) (by show w.heap.size ≤ w4.heap.size; omega) _).trans (belowK_b (w := w) (Ad _) _ D _ _ qB ((KeepsOthers.setCell W ⟨w4.heap.size, 0, none⟩ _).same D _ hK rfl) rfl rfl)
 case stop =>
  rintro D c pre W _ _ h _
  exact h.elim
end Go.Proofs.YtdamegaedmckbaaGreatDoor
end
section
namespace Go.Proofs.YtdamegaedmckbaaGreatDoor
open Go.RowKit
def Lc (w : World) : Type := { W : World // Below w.heap.size w W }
instance (w : World) : Nonempty (Lc w) := ⟨⟨w, Ac _ w⟩⟩
theorem Cz {P : Program} {f : FuncId} {args : Array Value} {w : World} {n : Lc w} {v : Value}
  (h : Calls P f args n.1 fun e w' => e = .returned v ∧ Below n.1.heap.size n.1 w') : Calls P f args n.1 fun e w'' => e = .returned v ∧ ∃ m : Lc w, w'' = m.1 :=
 h.mono fun _ w' ⟨he, hb⟩ => ⟨he, ⟨w', n.2.trans (hb.mono n.2.size)⟩, rfl⟩
theorem gL {P : Program} {f : FuncId} {args : Array Value} {w : World} {n : Lc w} {v : Value}
  (h : Calls P f args n.1 fun e w' => e = .returned v ∧ n.1 = w') : Calls P f args n.1 fun e w'' => e = .returned v ∧ ∃ m : Lc w, w'' = m.1 :=
 h.mono fun _ _ ⟨he, hb⟩ => ⟨he, n, hb.symm⟩
theorem A8 {w : World} {p : Addr} {v : Value} (h : w.cell? p = some v) : ∀ n : Lc w, n.1.cell? p = some v := fun n => Au n.2 h
theorem A9 {P : Program} {id : Nat} {Q : Exit → Act → World → Prop} {a : Act} {w : World} {l : List Oper} (hm : P.follows .mixedOrders = true) (hB : Region.lexB .any l.toArray = true)
  (h : wpQuiet P l.toArray (fun w' => ∃ n : Lc w, w' = n.1) (fun a' => ∀ w', (∃ n : Lc w, w' = n.1) → Q .normal a' w') l a) : (Code.region id l.toArray true).wp P Q a w :=
 wp_region_quiet (C := fun w' => ∃ n : Lc w, w' = n.1) hm hB ⟨⟨w.drew, (Ac _ w).drew⟩, rfl⟩ (by simpa using h)
end Go.Proofs.YtdamegaedmckbaaGreatDoor
end
section
namespace Go.Proofs.YtdamegaedmckbaaGreatDoor
theorem Xi {g V h two v1 X r s : Nat} (hg : g * V ≤ h) (hV : V = s + X * v1) (hh : h = r + X * two) (hr : r < X) (hv : 0 < v1) : g ≤ two / v1 := by
 rw [Nat.le_div_iff_mul_le hv]
 refine Nat.le_of_lt_succ (Nat.lt_of_not_le fun hc => ?_)
 have h1 : X * (two + 1) ≤ X * (g * v1) := At X hc
 have h2 : X * (g * v1) ≤ g * V := by
  rw [hV, Nat.mul_add, Nat.mul_left_comm X g v1]
  exact Nat.le_add_left _ _
 rw [Nat.mul_add, Nat.mul_one] at h1
 omega
theorem Vw {g V h two v1 v2 h3 Ez X r s guess : Nat} (hg : g * V ≤ h) (hV : V = s + X * (v2 + 1000000000 * v1)) (hh : h = r + X * (h3 + 1000000000 * two)) (hr : r < X)
  (ho : two = Ez + guess * v1) (hc : Ez * 1000000000 + h3 < guess * v2) (hle : g ≤ guess) : g ≤ guess - 1 := by
 rcases Nat.lt_or_ge g guess with h1 | h1
 ·omega
 ·exfalso
  obtain rfl : g = guess := by omega
  have h2 : X * (g * (v2 + 1000000000 * v1)) ≤ g * V := by
   rw [hV, Nat.mul_add g s, Nat.mul_left_comm X g]
   exact Nat.le_add_left _ _
  have h3' : X * (g * (v2 + 1000000000 * v1)) < X * (h3 + 1000000000 * two + 1) := by
   rw [Nat.mul_add X _ 1, Nat.mul_one]
   omega
  have h4 := Nat.lt_of_mul_lt_mul_left h3'
  rw [ho, Nat.mul_add g, Nat.mul_left_comm g 1000000000 v1, Nat.mul_add 1000000000] at h4
  rw [Nat.mul_comm Ez] at hc
  omega
structure F0 (U0 V n m k : Nat) (u q : List Nat) : Prop where
 ulen : u.length = m + n
 ult : ∀ x ∈ u, x < 1000000000
 qlen : q.length = m
 qlt : ∀ x ∈ q, x < 1000000000
 km : k ≤ m
 qz : ∀ j, j < k → q.getD j 0 = 0
 top : val (u.drop k) < V
 eq : val u + 1000000000 ^ k * (V * val (q.drop k)) = U0
theorem F0.start {V n m : Nat} {u : List Nat} (hl : u.length = m + n) (hlt : ∀ x ∈ u, x < 1000000000) (ht : val (u.drop m) < V) : F0 (val u) V n m m u (List.replicate m 0) where
 ulen := hl
 ult := hlt
 qlen := by simp
 qlt _ hx := by rw [(List.mem_replicate.1 hx).2]; omega
 km := Ad _
 qz j hj := by simp only [List.getD, List.getElem?_replicate]; split <;> rfl
 top := ht
 eq := by rw [List.drop_of_length_le qH, show val [] = 0 from rfl, Nat.mul_zero, Nat.mul_zero, Nat.add_zero]
theorem It {l : List Nat} {n V : Nat} (h : val l < V) (hV : V ≤ 1000000000 ^ n) (hn : n ≤ l.length) : val (l.drop n) = 0 := by
 have h1 := Dq l n hn
 rcases Aq (val (l.drop n)) with h2 | h2
 ·exact h2
 ·exfalso
  have h3 : 1000000000 ^ n * 1 ≤ 1000000000 ^ n * val (l.drop n) := At _ h2
  rw [Nat.mul_one] at h3
  omega
theorem F0.rest {U0 V n m i : Nat} {u q : List Nat} (h : F0 U0 V n m (i + 1) u q) (hV : V ≤ 1000000000 ^ n) : val (u.drop (i + (n + 1))) = 0 := by
 have h1 := h.km
 have h2 := h.ulen
 have := It h.top hV (by rw [List.length_drop]; omega)
 rw [List.drop_drop] at this
 rw [show i + (n + 1) = i + 1 + n by omega]
 exact this
theorem F0.head {U0 V n m i : Nat} {u q : List Nat} (h : F0 U0 V n m (i + 1) u q) (hV : V ≤ 1000000000 ^ n) : val ((u.drop i).take (n + 1)) = val (u.drop i) := by
 have h1 := h.km
 have h2 := h.ulen
 have h3 := Dq (u.drop i) (n + 1) (by rw [List.length_drop]; omega)
 rw [List.drop_drop, h.rest hV, Nat.mul_zero, Nat.add_zero] at h3
 exact h3.symm
theorem F0.head_lt {U0 V n m i : Nat} {u q : List Nat} (h : F0 U0 V n m (i + 1) u q) : val (u.drop i) < 1000000000 * V := by
 have h1 := h.km
 have h2 := h.ulen
 have h3 := E7 u i qB
 have h4 := Cc h.ult i
 have h5 := h.top
 have h6 : 1000000000 * (val (u.drop (i + 1)) + 1) ≤ 1000000000 * V := At _ h5
 rw [Nat.mul_add] at h6
 omega
theorem F0.step {U0 V n m i : Nat} {u q less : List Nat} (h : F0 U0 V n m (i + 1) u q) (hV : V ≤ 1000000000 ^ n) (hV0 : 0 < V) (g : Nat) (hg : g = val (u.drop i) / V)
  (hl : less.length = n + 1) (hlt : ∀ x ∈ less, x < 1000000000) (hv : val less = val (u.drop i) - g * V) :
  F0 U0 V n m i (u.take i ++ (less ++ u.drop (i + less.length))) (q.set i g) := by
 have hkm := h.km
 have hul := h.ulen
 have hql := h.qlen
 have hr := h.rest hV
 have hg1 : g < 1000000000 := by rw [hg]; exact (Nat.div_lt_iff_lt_mul hV0).2 h.head_lt
 have hmd : val (u.drop i) - g * V = val (u.drop i) % V := by
  have := Nat.div_add_mod (val (u.drop i)) V
  rw [← hg, Nat.mul_comm] at this
  omega
 have hdm : val (u.drop i) = val less + g * V := by
  have := Nat.div_add_mod (val (u.drop i)) V
  rw [← hg, Nat.mul_comm V g] at this
  omega
 have htk : (u.take i).length = i := by rw [List.length_take]; omega
 have hvl : val (less ++ u.drop (i + less.length)) = val less := by
  rw [Ex, hl, hr, Nat.mul_zero, Nat.add_zero]
 refine ⟨?_, ?_, ?_, Gc h.qlt hg1, by omega, ?_, ?_, ?_⟩
 ·rw [List.length_append, List.length_append, htk, List.length_drop]; omega
 ·intro x hx
  rcases List.mem_append.1 hx with hx | hx
  ·exact h.ult x (List.mem_of_mem_take hx)
  ·rcases List.mem_append.1 hx with hx | hx
   ·exact hlt x hx
   ·exact h.ult x (List.mem_of_mem_drop hx)
 ·rw [List.length_set]; exact hql
 ·intro j hj
  rw [Fo qB]
  exact h.qz j qB
 ·rw [List.drop_left' htk, hvl, hv, hmd]
  exact Nat.mod_lt _ hV0
 ·have e1 : val (u.take i ++ (less ++ u.drop (i + less.length))) = val (u.take i) + 1000000000 ^ i * val less := by rw [Ex, htk, hvl]
  have e2 : val u = val (u.take i) + 1000000000 ^ i * (val less + g * V) := by rw [← hdm]; exact Dq u i qB
  have e3 : val ((q.set i g).drop i) = g + 1000000000 * val (q.drop (i + 1)) := by
   rw [E7 (q.set i g) i (by rw [List.length_set]; omega), List.drop_set_of_lt qB]
   congr 1
   simp [List.getD, show i < q.length by omega]
  have e4 := h.eq
  rw [e1, e3, ← e4, e2, Nat.mul_add V, Nat.mul_add (1000000000 ^ i), Nat.mul_add (1000000000 ^ i), Nat.pow_succ, Nat.mul_comm V g]
  rw [Nat.mul_left_comm V 1000000000, Nat.mul_assoc (1000000000 ^ i) 1000000000]
  omega
theorem F0.done {U0 V n m : Nat} {u q : List Nat} (h : F0 U0 V n m 0 u q) (hV0 : 0 < V) : val q = U0 / V ∧ val u = U0 % V := by
 have h1 := h.eq
 have h2 := h.top
 rw [List.drop_zero] at h1 h2
 rw [Nat.pow_zero, Nat.one_mul] at h1
 have h3 := (Nat.div_mod_unique hV0).2 ⟨h1, h2⟩
 exact ⟨h3.1.symm, h3.2.symm⟩
theorem Ni {l : List Nat} {n V : Nat} (h : val l < V) (hV : V ≤ 1000000000 ^ n) (hn : n ≤ l.length) : val (l.take n) = val l := by
 have h1 := Dq l n hn
 rw [It h hV hn, Nat.mul_zero, Nat.add_zero] at h1
 exact h1.symm
theorem F0.skip {U0 V n m i : Nat} {u q : List Nat} (h : F0 U0 V n m (i + 1) u q) (hg : val (u.drop i) < V) : F0 U0 V n m i u q where
 ulen := h.ulen
 ult := h.ult
 qlen := h.qlen
 qlt := h.qlt
 km := by have := h.km; omega
 qz j hj := h.qz j qB
 top := hg
 eq := by
  have h1 := h.km
  have h2 := h.qlen
  have h3 := E7 q i qB
  rw [h.qz i qB, Nat.zero_add] at h3
  have h4 := h.eq
  rw [h3, ← h4, Nat.pow_succ, Nat.mul_left_comm V, Nat.mul_assoc]
theorem Jk {l : List Nat} {k : Nat} (h : l.length = k + 1) : l.drop k = [l.getD k 0] := by
 rw [List.drop_eq_getElem_cons qB, List.drop_of_length_le qB]
 simp [List.getD, show k < l.length by omega]
theorem I8 {l : List Nat} {k : Nat} (h : l.length = k + 1) : val l = val (l.take k) + 1000000000 ^ k * l.getD k 0 := by
 have h1 := Dq l k qB
 rw [Jk h] at h1
 simpa [val] using h1
theorem Se {l : List Nat} {k : Nat} (h : l.length = k + 2) : val l = val (l.take k) + 1000000000 ^ k * (l.getD k 0 + 1000000000 * l.getD (k + 1) 0) := by
 have h1 := Dq l k qB
 rw [E7 l k qB, Jk (k := k + 1) qB] at h1
 simpa [val] using h1
theorem aD {l : List Nat} {k : Nat} (h : l.length = k + 3) : val l = val (l.take k) + 1000000000 ^ k * (l.getD k 0 + 1000000000 * (l.getD (k + 1) 0 + 1000000000 * l.getD (k + 2) 0)) := by
 have h1 := Dq l k qB
 rw [E7 l k qB, E7 l (k + 1) qB, Jk (k := k + 2) qB] at h1
 simpa [val] using h1
theorem Fn {l : List Nat} (h : ∀ x ∈ l, x < 1000000000) (k : Nat) (hk : k ≤ l.length) : val (l.take k) < 1000000000 ^ k := by
 have h1 := Eg (l.take k) (fun x hx => h x (List.mem_of_mem_take hx))
 rw [List.length_take, Nat.min_eq_left hk] at h1
 exact h1
theorem Qg {d : List Nat} {m : Nat} (h : C8 d) (hl : d.length = m) (hm : 1 ≤ m) : 0 < d.getD (m - 1) 0 := by
 have h4 := h.2.resolve_left (fun e => by rw [e] at hl; simp at hl; omega)
 rcases Aq (d.getD (m - 1) 0) with h5 | h5
 ·exfalso
  apply h4
  rw [List.getLast?_eq_getElem?, hl]
  have h6 : m - 1 < d.length := by omega
  rw [Ai h6]
  simp only [List.getD, Ai h6, Option.getD_some] at h5
  rw [h5]
 ·exact h5
structure fQ (d d' : List Nat) (n n' s : Nat) : Prop where
 vlt : val d' * s < 1000000000 ^ n'
 vpos : 0 < val d' * s
 ult : val d * s < 1000000000 ^ (n + 1)
 top : ∀ u : List Nat, u.length = n + 1 → val u = val d * s → val (u.drop (n + 1 - n')) < val d' * s
 v1 : ∀ v : List Nat, v.length = n' → (∀ x ∈ v, x < 1000000000) → val v = val d' * s → 0 < v.getD (n' - 1) 0
theorem Wu {d d' : List Nat} {n n' s t : Nat} (hd : ∀ x ∈ d, x < 1000000000) (hd' : ∀ x ∈ d', x < 1000000000) (hl : d.length = n) (hl' : d'.length = n') (h2 : 2 ≤ n') (hle : n' ≤ n)
  (ht : t = d'.getD (n' - 1) 0) (ht0 : 0 < t) (hs : s = 1000000000 / (t + 1)) (hs0 : 0 < s) (hs2 : s < 1000000000) : fQ d d' n n' s := by
 have hst : s * (t + 1) ≤ 1000000000 := by rw [hs]; exact Nat.div_mul_le_self _ _
 have hv := I8 (l := d') (k := n' - 1) qB
 rw [← ht] at hv
 have hr := Fn hd' (n' - 1) qB
 generalize val (d'.take (n' - 1)) = r at hv hr
 obtain ⟨X, hX⟩ : ∃ X, X = 1000000000 ^ (n' - 1) := ⟨_, rfl⟩
 rw [← hX] at hv hr
 have hXn : 1000000000 ^ n' = X * 1000000000 := by rw [hX, ← Nat.pow_succ]; congr 1; omega
 have hlow : X ≤ val d' := by
  rw [hv]
  have : X * 1 ≤ X * t := At _ ht0
  omega
 have hX0 : 0 < X := by rw [hX]; exact Nat.pow_pos qB
 have hV0 : 0 < val d' * s := Nat.mul_pos qB hs0
 have hVX : X * s ≤ val d' * s := Nat.mul_le_mul_right _ hlow
 refine ⟨?_, hV0, ?_, ?_, ?_⟩
 ·have h1 : val d' < X * (t + 1) := by rw [hv, Nat.mul_add]; omega
  have h3 : val d' * s < X * (t + 1) * s := Nat.mul_lt_mul_of_pos_right h1 hs0
  have h4 : X * (t + 1) * s ≤ X * 1000000000 := by rw [Nat.mul_assoc, Nat.mul_comm (t + 1)]; exact At _ hst
  rw [hXn]
  omega
 ·have h1 := Eg d hd
  rw [hl] at h1
  rw [Nat.pow_succ]
  exact Nat.mul_lt_mul'' h1 hs2
 ·intro u hu hval
  have h1 := Dq u (n + 1 - n') qB
  have h3 := Eg d hd
  rw [hl] at h3
  have h4 : val u < 1000000000 ^ n * s := by rw [hval]; exact Nat.mul_lt_mul_of_pos_right h3 hs0
  have h5 : 1000000000 ^ n = 1000000000 ^ (n + 1 - n') * X := by rw [hX, ← Nat.pow_add]; congr 1; omega
  rw [h5, Nat.mul_assoc] at h4
  have h6 : 1000000000 ^ (n + 1 - n') * val (u.drop (n + 1 - n')) < 1000000000 ^ (n + 1 - n') * (X * s) := by omega
  have := Nat.lt_of_mul_lt_mul_left h6
  omega
 ·intro v hvl hvlt hval
  have h1 := I8 (l := v) (k := n' - 1) qB
  have h3 := Fn hvlt (n' - 1) qB
  rw [← hX] at h1 h3
  rcases Aq (v.getD (n' - 1) 0) with h4 | h4
  ·rw [h4, Nat.mul_zero, Nat.add_zero] at h1
   have : X * 1 ≤ X * s := At _ hs0
   omega
  ·exact h4
structure Rc (v head : List Nat) (V g k : Nat) (two Ez guess : Nat) : Prop where
 le : g ≤ guess
 small : guess ≤ 999999999
 two : two = Ez + guess * v.getD (k + 1) 0
theorem Tg {v head : List Nat} {V g k two : Nat} (hv : v.length = k + 2) (hh : head.length = k + 3) (hvlt : ∀ x ∈ v, x < 1000000000) (hhlt : ∀ x ∈ head, x < 1000000000) (hV : val v = V) (hV0 : 0 < v.getD (k + 1) 0)
  (hg : g = val head / V) (hgs : g < 1000000000) (h2 : two = head.getD (k + 2) 0 * 1000000000 + head.getD (k + 1) 0) :
  Rc v head V g k two (two - min (two / v.getD (k + 1) 0) 999999999 * v.getD (k + 1) 0) (min (two / v.getD (k + 1) 0) 999999999) := by
 have h1 := I8 (l := v) (k := k + 1) hv
 have h3 := Se (l := head) (k := k + 1) hh
 have hr := Fn hhlt (k + 1) qB
 have hle : g * V ≤ val head := by rw [hg]; exact Nat.div_mul_le_self _ _
 have hq := Xi (g := g) (V := V) (h := val head) (two := two) (v1 := v.getD (k + 1) 0) (X := 1000000000 ^ (k + 1)) (r := val (head.take (k + 1))) (s := val (v.take (k + 1))) hle (by rw [← hV, h1])
  (by rw [h3, h2, Nat.mul_comm (head.getD (k + 2) 0), Nat.add_comm (1000000000 * _)]) hr hV0
 refine ⟨by omega, by omega, ?_⟩
 have : min (two / v.getD (k + 1) 0) 999999999 * v.getD (k + 1) 0 ≤ two := Ah (Nat.mul_le_mul_right _ (Nat.min_le_left _ _)) (Nat.div_mul_le_self _ _)
 omega
theorem S2 {v head : List Nat} {V g k two Ez guess : Nat} (h : Rc v head V g k two Ez guess) (hv : v.length = k + 2) (hh : head.length = k + 3) (hhlt : ∀ x ∈ head, x < 1000000000) (hV : val v = V)
  (hg : g = val head / V) (h2 : two = head.getD (k + 2) 0 * 1000000000 + head.getD (k + 1) 0) (hc : Ez * 1000000000 + head.getD k 0 < guess * v.getD k 0) :
  1 ≤ guess ∧ Rc v head V g k two (Ez + v.getD (k + 1) 0) (guess - 1) := by
 have h1 := Se (l := v) (k := k) hv
 have h3 := aD (l := head) (k := k) hh
 have hr := Fn hhlt k qB
 have hle : g * V ≤ val head := by rw [hg]; exact Nat.div_mul_le_self _ _
 have h0 : 1 ≤ guess := by
  rcases Aq guess with h0 | h0
  ·rw [h0, Nat.zero_mul] at hc; omega
  ·exact h0
 refine ⟨h0, ?_, by have := h.small; omega, ?_⟩
 ·exact Vw (V := V) (h := val head) (v1 := v.getD (k + 1) 0) (v2 := v.getD k 0) (h3 := head.getD k 0) (X := 1000000000 ^ k) (r := val (head.take k)) (s := val (v.take k)) hle (by rw [← hV, h1])
   (by rw [h3, h2, Nat.mul_comm (head.getD (k + 2) 0), Nat.add_comm (1000000000 * _) (head.getD (k + 1) 0)]) hr h.two hc h.le
 ·have := h.two
  obtain ⟨x, rfl⟩ : ∃ x, guess = x + 1 := ⟨guess - 1, by omega⟩
  rw [Nat.add_sub_cancel]
  rw [Nat.add_mul, Nat.one_mul] at this
  omega
theorem Ty {x y s : Nat} (hs : 0 < s) : (x * s) / (y * s) = x / y ∧ ((x * s) % (y * s)) / s = x % y := by
 refine ⟨Nat.mul_div_mul_right _ _ hs, ?_⟩
 rw [Nat.mul_mod_mul_right, Nat.mul_div_cancel _ hs]
theorem cZ (m N : Nat) : (fx (m + 1) N).take m = fx m N := by
 rw [cB, List.take_left' (Jo m N)]
end Go.Proofs.YtdamegaedmckbaaGreatDoor
end
