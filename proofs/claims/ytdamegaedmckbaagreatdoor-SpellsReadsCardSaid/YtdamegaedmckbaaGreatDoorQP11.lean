/- Package monos: Compare of slices, lexical, orders, Cmp by OrLex; package polys: falls, Check. -/
import Derived.Test.YtdamegaedmckbaaGreatDoorQP10
set_option linter.unusedSimpArgs false
set_option linter.unusedVariables false
set_option maxRecDepth 100000
set_option maxHeartbeats 4000000
section
namespace Go.Proofs.YtdamegaedmckbaaGreatDoor
open Go.RowKit
def Fk (f g : Nat → Int) : Int := if f 0 ≠ g 0 then Br (f 0) (g 0) else if f 1 ≠ g 1 then Br (f 1) (g 1) else if f 2 ≠ g 2 then Br (f 2) (g 2) else if f 3 ≠ g 3 then Br (f 3) (g 3) else 0
theorem Mu {f g : Nat → Int} {k : Nat} (hk : k < 4) (h : ∀ j, j < k → f j = g j) (hne : f k ≠ g k) : Fk f g = Br (f k) (g k) := by
 unfold Fk
 match k, hk with
 | 0, _ => rw [if_pos hne]
 | 1, _ => rw [if_neg (by simp [h 0 qB]), if_pos hne]
 | 2, _ => rw [if_neg (by simp [h 0 qB]), if_neg (by simp [h 1 qB]), if_pos hne]
 | 3, _ => rw [if_neg (by simp [h 0 qB]), if_neg (by simp [h 1 qB]), if_neg (by simp [h 2 qB]), if_pos hne]
theorem Mx {f g : Nat → Int} (h : ∀ j, j < 4 → f j = g j) : Fk f g = 0 := by
 unfold Fk
 rw [if_neg (by simp [h 0 qB]), if_neg (by simp [h 1 qB]), if_neg (by simp [h 2 qB]), if_neg (by simp [h 3 qB])]
theorem Ii (w : World) (b b' : Nat) (f g : Nat → Int) (hf : ∀ i, i < 4 → w.cell? ⟨b, i, none⟩ = some (.int .u16 (f i))) (hg : ∀ i, i < 4 → w.cell? ⟨b', i, none⟩ = some (.int .u16 (g i))) :
  Calls Tryz.prog 262 #[.slice (some ⟨b, 0, none⟩) 4 4, .slice (some ⟨b', 0, none⟩) 4 4] w fun e w' => e = .returned (.int .i64 (Fk f g)) ∧ w = w' := by
 go_enter Tryz.func262, Tryz.ntmps262
 have HF := Ae hf
 have HG := Ae hg
 clear hf hg
 go_wp2
 go_loopw [11] (fun v wr => ∃ k : Nat, k ≤ 4 ∧ v = .int .i64 k ∧ w = wr ∧ Hid (∀ j, j < k → f j = g j)) (fun v _ => 4 - (intOf v).toNat)
 case atStart => exact ⟨0, by omega, rfl, rfl, Ae (fun j hj => by omega)⟩
 case round =>
  obtain ⟨k, hk, rfl, rfl, he⟩ := hrel
  by_cases hlt : k < 4
  ·have c1 := HF.out k hlt
   have c2 := HG.out k hlt
   by_cases hq : f k = g k
   ·have hc0 : Br (f k) (g k) = 0 := by rw [hq, C9]
    have HQ := Ae hq
    clear hq
    go_wp2_with (go_at_call 303; refine (Mf _ _ _).mono ?_; rintro e w1 ⟨rfl, rfl⟩; rw [hc0])
    go_roundw
    case rel => exact ⟨k + 1, by omega, by simp, by first | rfl | trivial, Ae (fun j hj => by
     rcases Nat.lt_or_ge j k with h | h
     ·exact he.out j h
     ·obtain rfl : j = k := by omega
      exact HQ.out)⟩
    case measure => (first | (simp [intOf]; omega) | (simp [intOf]; done))
   ·have hc0 : (Br (f k) (g k) == 0) = false := by rw [beq_eq_false_iff_ne]; exact fun e => hq (En.1 e)
    have HQ := Ae hq
    clear hq
    go_wp2_with (go_at_call 303; refine (Mf _ _ _).mono ?_; rintro e w1 ⟨rfl, rfl⟩)
    go_ret
    exact ⟨by rw [Mu hlt he.out HQ.out]; rfl, rfl⟩
  ·obtain rfl : k = 4 := by omega
   go_wp2
   go_ret
   exact ⟨by rw [Mx he.out]; rfl, rfl⟩
theorem dC (W : World) (B clock : Nat) (es : Array MapEntry) (key : Int) (v : Value) (hb : W.heap[B]? = some (.map es clock)) (hf : Instr.findNow (.int .u8) (.int .u8 key) es.toList 0 = some none) :
  (Instr.mapUpdate 239 (.map (some B)) (.int .u8 key) v).run Tryz.prog W = .ok () (W.putObj B (.map (es.push { key := .int .u8 key, val := v, born := clock }) (clock + 1))) := by
 have hc : (Instr.checkKey false 10000 136 (.int .u8 key)).run Tryz.prog W = .ok () W := MapKept.run_checkKey (k := .int .u8 key) Tryz.underlying136 (by simp [MapKept.IsKey]) false 9999
 simp [Instr.mapUpdate, run_underlying Tryz.underlying239, MapKept.run_getObj_map hb, hc, MapKept.run_findKey Tryz.underlying136 hf, MapKept.run_setObj_map _ hb, Result.andThen, World.putObj]
theorem eF (W : World) (B clock : Nat) (es : Array MapEntry) (key : Int) (hb : W.heap[B]? = some (.map es clock)) (hf : Instr.findNow (.int .u8) (.int .u8 key) es.toList 0 = some none) :
  (Instr.lookup 239 (.map (some B)) (.int .u8 key) false).run Tryz.prog W = .ok (.slice none 0 0) W := by
 have hc : (Instr.checkKey es.isEmpty 10000 136 (.int .u8 key)).run Tryz.prog W = .ok () W := MapKept.run_checkKey (k := .int .u8 key) Tryz.underlying136 (by simp [MapKept.IsKey]) _ 9999
 simp [Instr.lookup, run_underlying Tryz.underlying239, MapKept.run_getObj_map hb, hc, MapKept.run_findKey Tryz.underlying136 hf, Result.andThen, Tryz.zeroValue238]
theorem Jv {B : Nat} {w w' : World} {r : Nat} (o : Obj) (h : Below B w w') (hr : B ≤ r) : Below B w (w'.putObj r o) :=
 ⟨h.os, h.tape, h.output, by show w.heap.size ≤ (w'.heap.setIfInBounds r o).size; rw [Array.size_setIfInBounds]; exact h.size, fun k hk => by rw [World.putObj_heap_other qB]; exact h.block k hk⟩
theorem Ff (w : World) (r : Nat) (o : Obj) : (w.putObj r o).heap.size = w.heap.size := by simp [World.putObj]
theorem aI (w : World) :
  Calls Tryz.prog 213 #[] w fun e w' => (∃ B es clock, e = .returned (.map (some B)) ∧ w'.heap[B]? = some (.map es clock) ∧ Instr.findNow (.int .u8) (.int .u8 0) es.toList 0 = some none) ∧ Below w.heap.size w w' := by
 have hmm := @run_makeMap Tryz.prog
 have hb1 : ((w.alloc (.map #[] 0)).alloc (.cells #[.func (.func 260) #[] #[], .func (.func 214) #[] #[]] 102)).heap[w.heap.size]? = some (.map #[] 0) := by
  rw [Below.heap_alloc _ _ _ qH]; exact World.alloc_heap_new w _
 have q1 := dC _ _ _ _ 1 (.slice (some ⟨w.heap.size + 1, 0, none⟩) 2 2) hb1 rfl
 have HB1 : Below w.heap.size w ((w.alloc (.map #[] 0)).alloc (.cells #[.func (.func 260) #[] #[], .func (.func 214) #[] #[]] 102)) := by go_grown
 have hz1 : ((w.alloc (.map #[] 0)).alloc (.cells #[.func (.func 260) #[] #[], .func (.func 214) #[] #[]] 102)).heap.size = w.heap.size + 2 := by simp
 have hb2 : ((((w.alloc (.map #[] 0)).alloc (.cells #[.func (.func 260) #[] #[], .func (.func 214) #[] #[]] 102)).putObj w.heap.size (.map #[{ key := .int .u8 1, val := .slice (some ⟨w.heap.size + 1, 0, none⟩) 2 2, born := 0 }] 1)).alloc (.cells #[.func (.func 260) #[] #[], .func (.func 261) #[] #[]] 102)).heap[w.heap.size]? = some (.map #[{ key := .int .u8 1, val := .slice (some ⟨w.heap.size + 1, 0, none⟩) 2 2, born := 0 }] 1) := by
  rw [Below.heap_alloc _ _ _ (by rw [Ff]; omega), World.putObj_heap_same qB]
 have q2 := dC _ _ _ _ 2 (.slice (some ⟨w.heap.size + 2, 0, none⟩) 2 2) hb2 rfl
 have HB2 : Below w.heap.size w ((((w.alloc (.map #[] 0)).alloc (.cells #[.func (.func 260) #[] #[], .func (.func 214) #[] #[]] 102)).putObj w.heap.size (.map #[{ key := .int .u8 1, val := .slice (some ⟨w.heap.size + 1, 0, none⟩) 2 2, born := 0 }] 1)).alloc (.cells #[.func (.func 260) #[] #[], .func (.func 261) #[] #[]] 102)) := Below.alloc (Jv _ HB1 (Ad _)) (by rw [Ff]; omega) _
 have hz2 : w.heap.size < ((((w.alloc (.map #[] 0)).alloc (.cells #[.func (.func 260) #[] #[], .func (.func 214) #[] #[]] 102)).putObj w.heap.size (.map #[{ key := .int .u8 1, val := .slice (some ⟨w.heap.size + 1, 0, none⟩) 2 2, born := 0 }] 1)).alloc (.cells #[.func (.func 260) #[] #[], .func (.func 261) #[] #[]] 102)).heap.size := by rw [Aj, Ff]; omega
 go_enter Tryz.func213, Tryz.ntmps213
 go_wp2_with fail
 go_ret
 exact ⟨⟨w.heap.size, _, _, rfl, World.putObj_heap_same hz2, rfl⟩, Jv _ HB2 (Ad _)⟩
theorem Xt (w : World) (x0 x1 x2 x3 y0 y1 y2 y3 : Int) (f g : Nat → Int) (f0 : f 0 = x0) (f1 : f 1 = x1) (f2 : f 2 = x2) (f3 : f 3 = x3) (g0 : g 0 = y0) (g1 : g 1 = y1) (g2 : g 2 = y2) (g3 : g 3 = y3) :
  Calls Tryz.prog 214 #[.agg #[.int .u16 x0, .int .u16 x1, .int .u16 x2, .int .u16 x3], .agg #[.int .u16 y0, .int .u16 y1, .int .u16 y2, .int .u16 y3]] w fun e w' => e = .returned (.int .i64 (Fk f g)) ∧ Below w.heap.size w w' := by
 have HB := Ac w.heap.size w
 go_enter Tryz.func214, Tryz.ntmps214
 go_wp2_with fail
 have HF : Hid (∀ i, i < 4 → ((w.alloc (.cells #[.int .u16 x0, .int .u16 x1, .int .u16 x2, .int .u16 x3] 66)).alloc (.cells #[.int .u16 y0, .int .u16 y1, .int .u16 y2, .int .u16 y3] 66)).cell? ⟨w.heap.size, i, none⟩ = some (.int .u16 (f i))) := Ae (fun i hi => by
  match i, hi with
  | 0, _ => rw [f0]; simp [go_sem]
  | 1, _ => rw [f1]; simp [go_sem]
  | 2, _ => rw [f2]; simp [go_sem]
  | 3, _ => rw [f3]; simp [go_sem])
 have HG : Hid (∀ i, i < 4 → ((w.alloc (.cells #[.int .u16 x0, .int .u16 x1, .int .u16 x2, .int .u16 x3] 66)).alloc (.cells #[.int .u16 y0, .int .u16 y1, .int .u16 y2, .int .u16 y3] 66)).cell? ⟨w.heap.size + 1, i, none⟩ = some (.int .u16 (g i))) := Ae (fun i hi => by
  match i, hi with
  | 0, _ => rw [g0]; simp [go_sem]
  | 1, _ => rw [g1]; simp [go_sem]
  | 2, _ => rw [g2]; simp [go_sem]
  | 3, _ => rw [g3]; simp [go_sem])
 have HB2 : Below w.heap.size w ((w.alloc (.cells #[.int .u16 x0, .int .u16 x1, .int .u16 x2, .int .u16 x3] 66)).alloc (.cells #[.int .u16 y0, .int .u16 y1, .int .u16 y2, .int .u16 y3] 66)) := by go_grown
 clear f0 f1 f2 f3 g0 g1 g2 g3
 generalize ((w.alloc (.cells #[.int .u16 x0, .int .u16 x1, .int .u16 x2, .int .u16 x3] 66)).alloc (.cells #[.int .u16 y0, .int .u16 y1, .int .u16 y2, .int .u16 y3] 66)) = w1 at *
 go_quiet (((first | (go_at_call 262; exact In (Ii _ _ _ f g HF.out HG.out)) | (go_at_call 262; exact Ha (Ii _ _ _ f g HF.out HG.out)))))
 go_wp2_with fail
 go_ret
 exact ⟨rfl, Ay _ HB2⟩
def Bw (x0 x1 x2 x3 : Int) : Nat → Int
 | 0 => x0
 | 1 => x1
 | 2 => x2
 | _ => x3
theorem fM (w : World) (x0 x1 x2 x3 y0 y1 y2 y3 : Int) :
  Calls Tryz.prog 166 #[.int .u8 0, .agg #[.int .u16 x0, .int .u16 x1, .int .u16 x2, .int .u16 x3], .agg #[.int .u16 y0, .int .u16 y1, .int .u16 y2, .int .u16 y3]] w fun e w' => e = .returned (.int .i64 (Fk (Bw x0 x1 x2 x3) (Bw y0 y1 y2 y3))) ∧ Below w.heap.size w w' := by
 have HB := Ac w.heap.size w
 go_enter Tryz.func166, Tryz.ntmps166
 go_wp2_with fail
 refine (aI _).mono ?_
 rintro e w1 ⟨⟨B, es, clock, rfl, hes, hfn⟩, hb⟩
 obtain ⟨hc, hf⟩ := Ax hb; have hz := hb.size; (try simp only [Aj, Ak] at hz)
 replace HB := zD w hb
 have s0 : ∀ i, i < 4 → w1.cell? ⟨w.heap.size, i, none⟩ = some (.int .u16 (Bw x0 x1 x2 x3 i)) := fun i hi => (hc _ _ qA).trans (by
  match i, hi with
  | 0, _ => simp [go_sem, Bw]
  | 1, _ => simp [go_sem, Bw]
  | 2, _ => simp [go_sem, Bw]
  | 3, _ => simp [go_sem, Bw])
 have s1 : ∀ i, i < 4 → w1.cell? ⟨w.heap.size + 1, i, none⟩ = some (.int .u16 (Bw y0 y1 y2 y3 i)) := fun i hi => (hc _ _ qA).trans (by
  match i, hi with
  | 0, _ => simp [go_sem, Bw]
  | 1, _ => simp [go_sem, Bw]
  | 2, _ => simp [go_sem, Bw]
  | 3, _ => simp [go_sem, Bw])
 have s00 := s0 0 qB; have s01 := s0 1 qB; have s02 := s0 2 qB; have s03 := s0 3 qB
 have s10 := s1 0 qB; have s11 := s1 1 qB; have s12 := s1 2 qB; have s13 := s1 3 qB
 simp only [Bw] at s00 s01 s02 s03 s10 s11 s12 s13
 have q1 := eF w1 B clock es 0 hes hfn
 clear s0 s1 hc hf hes hfn
 go_wp2_with fail
 go_loop [14] (fun v => v = .int .i64 0) (fun _ => 0)
 case atStart => rfl
 case round =>
  subst hrel
  go_wp2_with fail
  refine (Xt _ _ _ _ _ _ _ _ _ (Bw x0 x1 x2 x3) (Bw y0 y1 y2 y3) rfl rfl rfl rfl rfl rfl rfl rfl).mono ?_
  rintro e w2 ⟨rfl, hb2⟩
  go_wp2_with fail
  go_ret
  exact ⟨rfl, HB.trans (hb2.mono HB.size)⟩
theorem Qf (w : World) (x0 x1 x2 x3 y0 y1 y2 y3 : Int) :
  Calls Tryz.prog 94 #[.agg #[.int .u16 x0, .int .u16 x1, .int .u16 x2, .int .u16 x3], .agg #[.int .u16 y0, .int .u16 y1, .int .u16 y2, .int .u16 y3]] w fun e w' => e = .returned (.int .i64 (Fk (Bw y0 y1 y2 y3) (Bw x0 x1 x2 x3))) ∧ Below w.heap.size w w' := by
 have HB := Ac w.heap.size w
 go_enter Tryz.func94, Tryz.ntmps94
 go_wp2_with fail
 refine (fM _ _ _ _ _ _ _ _ _).mono ?_
 rintro e w1 ⟨rfl, hb⟩
 have HB2 := zD w hb
 go_wp2_with fail
 go_ret
 exact ⟨rfl, HB2⟩
def Db (x : Int) : Prop := 0 ≤ x ∧ x < 65536
theorem Wb {x0 x1 x2 x3 : Int} (h0 : Db x0) (h1 : Db x1) (h2 : Db x2) (h3 : Db x3) (k : Nat) : 0 ≤ Bw x0 x1 x2 x3 k ∧ Bw x0 x1 x2 x3 k < 65536 := by
 match k with
 | 0 => exact h0
 | 1 => exact h1
 | 2 => exact h2
 | n + 3 => exact h3
theorem Qx (w : World) (x0 x1 x2 x3 y0 y1 y2 y3 : Int) (h0 : Db x0) (h1 : Db x1) (h2 : Db x2) (h3 : Db x3) (k0 : Db y0) (k1 : Db y1) (k2 : Db y2) (k3 : Db y3) :
  Calls Tryz.prog 134 #[.int .u8 0, .agg #[.int .u16 x0, .int .u16 x1, .int .u16 x2, .int .u16 x3], .agg #[.int .u16 y0, .int .u16 y1, .int .u16 y2, .int .u16 y3]] w fun e w' => e = .returned (.int .i64 (Fk (Bw x0 x1 x2 x3) (Bw y0 y1 y2 y3))) ∧ Below w.heap.size w w' := by
 have HX := Ae (Wb h0 h1 h2 h3)
 have HY := Ae (Wb k0 k1 k2 k3)
 clear h0 h1 h2 h3 k0 k1 k2 k3
 go_enter Tryz.func134, Tryz.ntmps134
 go_wp2_with fail
 have HF : Hid (∀ i, i < 4 → ((w.alloc (.cells #[.int .u16 x0, .int .u16 x1, .int .u16 x2, .int .u16 x3] 66)).alloc (.cells #[.int .u16 y0, .int .u16 y1, .int .u16 y2, .int .u16 y3] 66)).cell? ⟨w.heap.size, i, none⟩ = some (.int .u16 (Bw x0 x1 x2 x3 i))) := Ae (fun i hi => by
  match i, hi with
  | 0, _ => simp [go_sem, Bw]
  | 1, _ => simp [go_sem, Bw]
  | 2, _ => simp [go_sem, Bw]
  | 3, _ => simp [go_sem, Bw])
 have HG : Hid (∀ i, i < 4 → ((w.alloc (.cells #[.int .u16 x0, .int .u16 x1, .int .u16 x2, .int .u16 x3] 66)).alloc (.cells #[.int .u16 y0, .int .u16 y1, .int .u16 y2, .int .u16 y3] 66)).cell? ⟨w.heap.size + 1, i, none⟩ = some (.int .u16 (Bw y0 y1 y2 y3 i))) := Ae (fun i hi => by
  match i, hi with
  | 0, _ => simp [go_sem, Bw]
  | 1, _ => simp [go_sem, Bw]
  | 2, _ => simp [go_sem, Bw]
  | 3, _ => simp [go_sem, Bw])
 have HB : Below w.heap.size w ((w.alloc (.cells #[.int .u16 x0, .int .u16 x1, .int .u16 x2, .int .u16 x3] 66)).alloc (.cells #[.int .u16 y0, .int .u16 y1, .int .u16 y2, .int .u16 y3] 66)) := by go_grown
 generalize ((w.alloc (.cells #[.int .u16 x0, .int .u16 x1, .int .u16 x2, .int .u16 x3] 66)).alloc (.cells #[.int .u16 y0, .int .u16 y1, .int .u16 y2, .int .u16 y3] 66)) = w1 at *
 go_loopw [9] (fun v wr => ∃ k : Nat, k ≤ 4 ∧ v = .int .i64 k ∧ Hid (∀ j, j < k → Bw x0 x1 x2 x3 j = Bw y0 y1 y2 y3 j) ∧ Below w1.heap.size w1 wr) (fun v _ => 4 - (intOf v).toNat)
 case atStart => exact ⟨0, by omega, rfl, Ae (fun j hj => by omega), Ac _ _⟩
 case round =>
  obtain ⟨k, hk, rfl, he, hBr⟩ := hrel
  have HBr : Below w.heap.size w wr := HB.trans (hBr.mono HB.size)
  by_cases hlt : k < 4
  ·have c1 := Au hBr (HF.out k hlt)
   have c2 := Au hBr (HG.out k hlt)
   have hx := HX.out k
   have hy := HY.out k
   have HL := Ae (fun h => Mu (f := Bw x0 x1 x2 x3) (g := Bw y0 y1 y2 y3) hlt he.out h)
   have HE := Ae (show Bw x0 x1 x2 x3 k = Bw y0 y1 y2 y3 k → ∀ j, j < k + 1 → Bw x0 x1 x2 x3 j = Bw y0 y1 y2 y3 j from fun h j hj => by
     rcases Nat.lt_or_ge j k with h' | h'
     ·exact he.out j h'
     ·obtain rfl : j = k := by omega
      exact h)
   generalize Bw x0 x1 x2 x3 k = x at *
   generalize Bw y0 y1 y2 y3 k = y at *
   have w1x : IntKind.i64.wrap x = x := IntWalk.i64_in _ qB
   have w1y : IntKind.i64.wrap y = y := IntWalk.i64_in _ qB
   have w1d : IntKind.i64.wrap (x - y) = x - y := IntWalk.i64_in _ qB
   rcases Int.lt_trichotomy x y with h | h | h
   ·have HR := Ae ((HL.out qB).trans (Dm h))
    have hq : (x == y) = false := by rw [beq_eq_false_iff_ne]; omega
    have hq2 : (x != y) = true := by rw [bne_iff_ne]; omega
    go_wp2_with fail
    go_quiet (fail)
    go_wp2_with fail
    go_quiet (fail)
    go_wp2_with fail
    go_ret
    exact ⟨by rw [HR.out]; show Ending.returned (.int .i64 (min 1 (max (-1) (x - y)))) = _; rw [show min 1 (max (-1) (x - y)) = -1 by omega], Ay _ (Ay _ HBr)⟩
   ·have HQ := Ae h
    subst h
    go_wp2_with fail
    go_quiet (fail)
    go_wp2_with fail
    go_roundw
    case rel => exact ⟨k + 1, by omega, by go_num, Ae (HE.out (by first | trivial | rfl)), Ay _ hBr⟩
    case measure => (first | (simp [intOf]; omega) | (simp [intOf]; done))
   ·have HR := Ae ((HL.out qB).trans (Ct h))
    have hq : (x == y) = false := by rw [beq_eq_false_iff_ne]; omega
    have hq2 : (x != y) = true := by rw [bne_iff_ne]; omega
    go_wp2_with fail
    go_quiet (fail)
    go_wp2_with fail
    go_quiet (fail)
    go_wp2_with fail
    go_ret
    exact ⟨by rw [HR.out]; show Ending.returned (.int .i64 (min 1 (max (-1) (x - y)))) = _; rw [show min 1 (max (-1) (x - y)) = 1 by omega], Ay _ (Ay _ HBr)⟩
  ·obtain rfl : k = 4 := by omega
   have HR := Ae (Mx he.out)
   go_wp2_with fail
   go_ret
   exact ⟨by rw [HR.out]; rfl, HBr⟩
theorem aH (w : World) (R : Nat) (L : List UInt8) (c : Int) (h0 : w.cell? ⟨R, 0, none⟩ = some (.string ⟨L.toArray⟩)) (h1 : w.cell? ⟨R, 1, none⟩ = some (.int .i64 L.length)) (hL : L.length < 1000000000) :
  Calls Tryz.prog 49 #[.pointer (some ⟨R, 0, none⟩), .int .u8 c] w (fun e w' => e = .returned (.bool false) ∧ ∃ n, w' = w.drewN n) := by
 go_enter Tryz.func49, Tryz.ntmps49
 go_wp2
 go_quiet (fail)
 go_wp2
 exact bodyPost_ret (v := .bool false) (by simp [results, Tryz.results49, go_sem]) rfl ⟨rfl, _, rfl⟩
theorem cC (w : World) (R : Nat) (L : List UInt8) (k : Nat) (hk : k < L.length) (b : UInt8) (hb : L[k]'hk = b) (c : Int) (h0 : w.cell? ⟨R, 0, none⟩ = some (.string ⟨L.toArray⟩)) (h1 : w.cell? ⟨R, 1, none⟩ = some (.int .i64 k)) (hL : L.length < 1000000000) :
  Calls Tryz.prog 49 #[.pointer (some ⟨R, 0, none⟩), .int .u8 c] w (fun e w' => e = .returned (.bool ((b.toNat : Int) == c)) ∧ ∃ n, w' = w.drewN n) := by
 have hy : (⟨L.toArray⟩ : ByteArray)[k]'(by simpa [ByteArray.size] using hk) = b := by simpa [ByteArray.getElem_eq_getElem_data] using hb
 go_enter Tryz.func49, Tryz.ntmps49
 go_wp2
 go_quiet (fail)
 go_wp2
 exact bodyPost_ret (v := .bool ((b.toNat : Int) == c)) (by simp [results, Tryz.results49, go_sem]) rfl ⟨rfl, _, rfl⟩
theorem Ev (w : World) (R : Nat) (L : List UInt8) (k : Nat) (hk : k ≤ L.length) (c : Int) (h0 : w.cell? ⟨R, 0, none⟩ = some (.string ⟨L.toArray⟩)) (h1 : w.cell? ⟨R, 1, none⟩ = some (.int .i64 k)) (hL : L.length < 1000000000) :
  Calls Tryz.prog 49 #[.pointer (some ⟨R, 0, none⟩), .int .u8 c] w (fun e w' => e = .returned (.bool (A6 (L.drop k) c)) ∧ ∃ n, w' = w.drewN n) := by
 rcases Nat.lt_or_ge k L.length with h | h
 ·refine (cC w R L k h _ rfl c h0 h1 hL).mono ?_
  rintro e w' ⟨rfl, hn⟩
  refine ⟨?_, hn⟩
  rw [List.drop_eq_getElem_cons h]
  simp only [A6]
  rfl
 ·obtain rfl : k = L.length := by omega
  refine (aH w R L c h0 h1 hL).mono ?_
  rintro e w' ⟨rfl, hn⟩
  exact ⟨by simp [A6], hn⟩
def E8 (b : UInt8) : Bool := decide ((48 ≤ (b.toNat : Int) ∧ (b.toNat : Int) ≤ 57) ∨ (b.toNat : Int) = 120 ∨ (b.toNat : Int) = 121 ∨ (b.toNat : Int) = 122 ∨ (b.toNat : Int) = 116)
theorem Px (w : World) (R : Nat) (L : List UInt8) (h0 : w.cell? ⟨R, 0, none⟩ = some (.string ⟨L.toArray⟩)) (h1 : w.cell? ⟨R, 1, none⟩ = some (.int .i64 L.length)) (hL : L.length < 1000000000) :
  Calls Tryz.prog 132 #[.pointer (some ⟨R, 0, none⟩)] w (fun e w' => e = .returned (.bool false) ∧ ∃ n, w' = w.drewN n) := by
 go_enter Tryz.func132, Tryz.ntmps132
 go_wp2
 (try go_quiet (fail))
 go_wp2
 first
  | exact bodyPost_ret (v := .bool false) (by simp [results, Tryz.results132, go_sem]) rfl ⟨rfl, _, rfl⟩
  | exact bodyPost_ret (v := .bool false) (by simp [results, Tryz.results132, go_sem]) rfl ⟨rfl, 0, rfl⟩
theorem Ss (w : World) (R : Nat) (L : List UInt8) (k : Nat) (hk : k < L.length) (b : UInt8) (hb : L[k]'hk = b) (h0 : w.cell? ⟨R, 0, none⟩ = some (.string ⟨L.toArray⟩)) (h1 : w.cell? ⟨R, 1, none⟩ = some (.int .i64 k)) (hL : L.length < 1000000000) :
    Calls Tryz.prog 132 #[.pointer (some ⟨R, 0, none⟩)] w (fun e w' => e = .returned (.bool (E8 b)) ∧ ∃ n, w' = w.drewN n) := by
  have hy : (⟨L.toArray⟩ : ByteArray)[k]'(by simpa [ByteArray.size] using hk) = b := by simpa [ByteArray.getElem_eq_getElem_data] using hb
  go_enter Tryz.func132, Tryz.ntmps132
  clear hb
  go_wp2
  go_quiet (fail)
  go_wp2
  go_quiet (fail)
  go_wp2
  all_goals first
    | exact bodyPost_ret (v := .bool true) (by simp [*, results, Tryz.results132, go_sem]) rfl ⟨by rw [show E8 b = true by unfold E8; rw [decide_eq_true_eq]; omega], _, rfl⟩
    | exact bodyPost_ret (v := .bool false) (by simp [*, results, Tryz.results132, go_sem] <;> omega) rfl ⟨by rw [show E8 b = false by unfold E8; rw [decide_eq_false_iff_not]; omega], _, rfl⟩
    | (by_cases h116 : (b.toNat : Int) = 116
       · exact bodyPost_ret (v := .bool true) (by simp [*, results, Tryz.results132, go_sem]) rfl ⟨by rw [show E8 b = true by unfold E8; rw [decide_eq_true_eq]; omega], _, rfl⟩
       · exact bodyPost_ret (v := .bool false) (by simp [*, results, Tryz.results132, go_sem] <;> omega) rfl ⟨by rw [show E8 b = false by unfold E8; rw [decide_eq_false_iff_not]; omega], _, rfl⟩)
def Bz : List UInt8 → Bool
 | [] => false
 | b :: _ => E8 b
theorem Fi (w : World) (R : Nat) (L : List UInt8) (k : Nat) (hk : k ≤ L.length) (h0 : w.cell? ⟨R, 0, none⟩ = some (.string ⟨L.toArray⟩)) (h1 : w.cell? ⟨R, 1, none⟩ = some (.int .i64 k)) (hL : L.length < 1000000000) :
  Calls Tryz.prog 132 #[.pointer (some ⟨R, 0, none⟩)] w (fun e w' => e = .returned (.bool (Bz (L.drop k))) ∧ ∃ n, w' = w.drewN n) := by
 rcases Nat.lt_or_ge k L.length with h | h
 ·refine (Ss w R L k h _ rfl h0 h1 hL).mono ?_
  rintro e w' ⟨rfl, hn⟩
  refine ⟨?_, hn⟩
  rw [List.drop_eq_getElem_cons h]
  rfl
 ·obtain rfl : k = L.length := by omega
  refine (Px w R L h0 h1 hL).mono ?_
  rintro e w' ⟨rfl, hn⟩
  exact ⟨by simp [Bz], hn⟩
def Bl (b : UInt8) : Bool := decide (48 ≤ (b.toNat : Int) ∧ (b.toNat : Int) ≤ 57)
def Bb : List UInt8 → Bool
 | [] => false
 | b :: r => (b :: r).all Bl && (r.isEmpty || decide (¬ (b.toNat : Int) = 48))
theorem Rh {L : List UInt8} {k : Nat} (h : k < L.length) (hb : Bl L[k] = false) : Bb L = false := by
 cases L with
 | nil => rfl
 | cons b r =>
  have : (b :: r).all Bl = false := by
   rw [List.all_eq_false]
   exact ⟨_, List.getElem_mem h, by simp [hb]⟩
  simp only [Bb, this, Bool.false_and]
theorem bD {L : List UInt8} {k : Nat} (h : k < L.length) (ha : (L.take k).all Bl = true) (hb : Bl L[k] = true) : (L.take (k + 1)).all Bl = true := by
 rw [List.take_succ_eq_append_getElem h, List.all_append, ha]
 simp [hb]
theorem Mj (w : World) (L : List UInt8) (hL : L.length < 1000000000) :
  Calls Tryz.prog 247 #[.string ⟨L.toArray⟩] w (fun e w' => e = .returned (.bool (Bb L)) ∧ Below w.heap.size w w') := by
 have HB := Ac w.heap.size w
 go_enter Tryz.func247, Tryz.ntmps247
 go_wp2_with fail
 go_loopw [3] (fun v wr => ∃ k : Nat, k ≤ L.length ∧ v = .int .i64 k ∧ Hid ((L.take k).all Bl = true) ∧ Below w.heap.size w wr) (fun v _ => L.length - (intOf v).toNat)
 case atStart => exact ⟨0, by omega, rfl, Ae qH, HB⟩
 case round =>
  obtain ⟨k, hk, rfl, ha, HBr⟩ := hrel
  by_cases hlt : k < L.length
  ·have hT := Ae (bD hlt ha.out)
   have hF := Ae (Rh hlt)
   have hy : (⟨L.toArray⟩ : ByteArray)[k]'(by simpa [ByteArray.size] using hlt) = L[k] := by simp [ByteArray.getElem_eq_getElem_data]
   have hd : Hid (Bl L[k] = decide (48 ≤ (L[k].toNat : Int) ∧ (L[k].toNat : Int) ≤ 57)) := Ae rfl
   generalize L[k] = b at *
   rcases (by omega : (b.toNat : Int) < 48 ∨ 57 < (b.toNat : Int) ∨ (48 ≤ (b.toNat : Int) ∧ (b.toNat : Int) ≤ 57)) with h | h | h
   ·exact qCw
   ·exact qCw
   ·have hN := Ae (hT.out (by rw [hd.out]; rw [decide_eq_true_eq]; omega))
    obtain ⟨hg1, hg2⟩ := h
    clear hT hF hd ha
    go_wp2_with fail
    go_roundw
    case rel => exact ⟨k + 1, by omega, by go_num, hN, by first | assumption | go_grown⟩
    case measure => (first | (simp [intOf]; omega) | (simp [intOf]; done))
  ·obtain rfl : k = L.length := by omega
   have hA : Hid (L.all Bl = true) := Ae (by have := ha.out; rwa [List.take_length] at this)
   clear ha
   cases L with
   | nil =>
    go_wp2_with fail
    exact bodyPost_ret (v := .bool false) (by simp [results, Tryz.results247, go_sem]) rfl ⟨rfl, by first | assumption | go_grown⟩
   | cons b r =>
    have hE := Ae (show Bb (b :: r) = (r.isEmpty || decide (¬ (b.toNat : Int) = 48)) by simp only [Bb, hA.out, Bool.true_and])
    have hy : (⟨(b :: r).toArray⟩ : ByteArray)[0]'(by simp [ByteArray.size]) = b := by simp [ByteArray.getElem_eq_getElem_data]
    clear hA
    cases r with
    | nil =>
     go_wp2_with fail
     exact bodyPost_ret (v := .bool true) (by simp [results, Tryz.results247, go_sem]) rfl ⟨by rw [hE.out]; rfl, by first | assumption | go_grown⟩
    | cons b' r' =>
     by_cases h48 : (b.toNat : Int) = 48
     ·go_wp2_with fail
      exact bodyPost_ret (v := .bool false) (by simp [*, results, Tryz.results247, go_sem]) rfl ⟨by rw [hE.out]; simp [h48], by first | assumption | go_grown⟩
     ·go_wp2_with fail
      exact bodyPost_ret (v := .bool true) (by simp [*, results, Tryz.results247, go_sem]) rfl ⟨by rw [hE.out]; simp [h48], by first | assumption | go_grown⟩
structure Er (R o : Nat) (w w' : World) : Prop where
 size : w'.heap.size = w.heap.size
 cell : ∀ b i, (b ≠ R ∨ i ≠ o) → w'.cell? ⟨b, i, none⟩ = w.cell? ⟨b, i, none⟩
 frozen : ∀ b i, w'.frozen? ⟨b, i, none⟩ = w.frozen? ⟨b, i, none⟩
 below : Below R w w'
 grown : w.grownBy w' (some R)
theorem Er.refl (R o : Nat) (w : World) : Er R o w w := ⟨rfl, fun _ _ _ => rfl, fun _ _ => rfl, Ac _ _, ⟨rfl, rfl, rfl, Ad _, fun _ _ _ => rfl⟩⟩
theorem Er.drew {R o : Nat} {w w' : World} (h : Er R o w w') (n : Nat) : Er R o w (w'.drewN n) :=
 ⟨h.size, h.cell, h.frozen, Ay _ h.below, ⟨h.grown.os, h.grown.tape, h.grown.output, h.grown.size, h.grown.block⟩⟩
theorem Er.step {R o : Nat} {w w' : World} (h : Er R o w w') (n : Nat) (v : Value) : Er R o w ((w'.drewN n).setCell ⟨R, o, none⟩ v) := by
 have hs : Below R (w'.drewN n) ((w'.drewN n).setCell ⟨R, o, none⟩ v) := (Ac R (w'.drewN n)).setCell (p := ⟨R, o, none⟩) (Ad _) v
 refine ⟨by simpa using h.size, fun b i hbi => ?_, fun b i => ?_, (Ay _ h.below).setCell (p := ⟨R, o, none⟩) (Ad _) _, ⟨hs.os.trans h.grown.os, hs.tape.trans h.grown.tape, hs.output.trans h.grown.output, Ah h.grown.size hs.size, fun k hk hne => by
  rw [Below.heap_setCell (w'.drewN n) ⟨R, o, none⟩ v k (by intro e; exact hne (by rw [e]))]
  exact h.grown.block k hk hne⟩⟩
 ·rw [← h.cell b i hbi]
  exact World.cell?_setCell_other (w := w'.drewN n) (a := ⟨R, o, none⟩) (b := ⟨b, i, none⟩) _ (by intro e; injection e with e1 e2; exact hbi.elim (fun hb => hb e1.symm) (fun hi => hi e2.symm))
 ·rw [← h.frozen b i]; simp [go_sem]
def Gw (b : UInt8) : Bool := (b.toNat : Int) == 32 || (b.toNat : Int) == 9
theorem Zn {L : List UInt8} {k : Nat} (h : k < L.length) (hb : Gw L[k] = true) : (L.drop k).dropWhile Gw = (L.drop (k + 1)).dropWhile Gw := by
 exact qDw
theorem Zi {L : List UInt8} {k : Nat} (h : k < L.length) (hb : Gw L[k] = false) : (L.drop k).dropWhile Gw = L.drop k := by
 exact qDw
theorem Hq (wo : World) (R : Nat) (L : List UInt8) (k0 : Nat) (hk0 : k0 ≤ L.length) (h0 : wo.cell? ⟨R, 0, none⟩ = some (.string ⟨L.toArray⟩)) (h1 : wo.cell? ⟨R, 1, none⟩ = some (.int .i64 k0)) (hf : wo.frozen? ⟨R, 1, none⟩ = false) (hL : L.length < 1000000000) :
  Calls Tryz.prog 48 #[.pointer (some ⟨R, 0, none⟩)] wo (fun e w' => e = .returned (.tuple #[]) ∧ ∃ k, k ≤ L.length ∧ L.drop k = (L.drop k0).dropWhile Gw ∧ w'.cell? ⟨R, 1, none⟩ = some (.int .i64 k) ∧ Er R 1 wo w') := by
 have HK := Er.refl R 1 wo
 go_enter Tryz.func48, Tryz.ntmps48
 go_wp2_with fail
 go_loopw [] (fun wr => ∃ k : Nat, k ≤ L.length ∧ Hid ((L.drop k0).dropWhile Gw = (L.drop k).dropWhile Gw) ∧ wr.cell? ⟨R, 1, none⟩ = some (.int .i64 k) ∧ Er R 1 wo wr) (fun wr => L.length - (match wr.cell? ⟨R, 1, none⟩ with | some v => (intOf v).toNat | none => 0))
 case atStart => exact ⟨k0, hk0, Ae rfl, h1, HK⟩
 case round =>
  obtain ⟨k, hk, hw, c1, HB⟩ := hrel
  have c0 : wr.cell? ⟨R, 0, none⟩ = some (.string ⟨L.toArray⟩) := by rw [HB.cell R 0 (Or.inr qC)]; exact h0
  have f1 : wr.frozen? ⟨R, 1, none⟩ = false := by rw [HB.frozen]; exact hf
  by_cases hlt : k < L.length
  ·have hT := Ae (Zn hlt)
   have hF := Ae (Zi hlt)
   have hy : (⟨L.toArray⟩ : ByteArray)[k]'(by simpa [ByteArray.size] using hlt) = L[k] := by simp [ByteArray.getElem_eq_getElem_data]
   have hd : Hid (Gw L[k] = ((L[k].toNat : Int) == 32 || (L[k].toNat : Int) == 9)) := Ae rfl
   generalize L[k] = b at *
   rcases (by omega : (b.toNat : Int) = 32 ∨ (b.toNat : Int) = 9 ∨ (¬ (b.toNat : Int) = 32 ∧ ¬ (b.toNat : Int) = 9)) with h | h | h
   ·exact qCi
   ·exact qCi
   ·obtain ⟨g1, g2⟩ := h
    have hN := Ae (hw.out.trans (hF.out (by rw [hd.out]; simp [g1, g2])))
    clear hT hF hd hw
    go_wp2_with fail
    go_quiet (fail)
    go_wp2_with fail
    all_goals first
     | (exfalso; omega)
     | (exfalso; simp_all; done)
     | exact bodyPost_end (v := .tuple #[]) (by simp [results, Tryz.results48, go_sem]) rfl ⟨rfl, k, hk, hN.out.symm, by simp [*, go_sem], HB.drew _⟩
  ·obtain rfl : k = L.length := by omega
   have hN := Ae hw.out
   clear hw
   go_wp2_with fail
   go_quiet (fail)
   go_wp2_with fail
   exact bodyPost_end (v := .tuple #[]) (by simp [results, Tryz.results48, go_sem]) rfl ⟨rfl, L.length, Ad _, by rw [hN.out]; simp, by simp [*, go_sem], HB.drew _⟩
theorem Ze (w : World) (a : Option Addr) (n c : Nat) (d : List Nat) (a' : Option Addr) (n' c' : Nat) (d' : List Nat) (hd : RdL w a n c d) (hd' : RdL w a' n' c' d') (hlt : ∀ x ∈ d, x < 1000000000) (hlt' : ∀ x ∈ d', x < 1000000000) (hle : n' ≤ n) (hv : val d' ≤ val d) :
  Calls Tryz.prog 251 #[.slice a n c, .slice a' n' c'] w (aC w (val d - val d') n) := by
 obtain ⟨i0, hi, hz0, hz1, hz2⟩ := info_parts Cu
 have hl := Ae hd.len
 have hl' := Ae hd'.len
 have hn := hd.few
 have HB := Ac w.heap.size w
 have HLT := Ae hlt
 have HLT' := Ae hlt'
 have HV := Ae hv
 clear hlt hlt' hv
 go_enter Tryz.func251, Tryz.ntmps251
 go_wp2_with fail
 go_loopw [5, 6, 7] (fun v5 v6 v7 wr => ∃ (k v : Nat) (l : List Nat), k ≤ n ∧ v7 = .int .i64 k ∧ v6 = .int .u32 v ∧ v ≤ 1 ∧ Hid (l.length = k) ∧ Hid (val l + val (d'.take k) = val (d.take k) + 1000000000 ^ k * v) ∧ Hid (∀ x ∈ l, x < 1000000000) ∧ wr.ownsRow w.heap.size 112 1 v5 k (Bv l) ∧ Below w.heap.size w wr) (fun _ _ v7 _ => n - (intOf v7).toNat)
 case atStart => exact ⟨0, 0, [], by omega, rfl, rfl, by omega, Ae rfl, Ae (by simp [val]), Ae (fun x hx => (by cases hx)), World.ownsRow_nil _ _ _ _, HB⟩
 case round =>
  obtain ⟨k, v, l, hk, rfl, rfl, hv, HLL, HS, HQ, hown, HBr⟩ := hrel
  have HBz := HBr.size
  clear HB
  have hx0 := Cc HLT.out k
  have hy0 := Cc HLT'.out k
  have HX1 := Ae (show lim d k = ((d.getD k 0 : Nat) : Int) from rfl)
  have HY1 := Ae (show lim d' k = ((d'.getD k 0 : Nat) : Int) from rfl)
  have HYO := Ae (show n' ≤ k → d'.getD k 0 = 0 from fun h => La (by have := hl'.out; omega))
  have HST := Ae (fun X V hX => Xu (x := X) (v' := V) HLL.out HS.out (d := d) (d' := d') hX)
  generalize d.getD k 0 = x at *
  generalize d'.getD k 0 = y at *
  by_cases h1 : k < n
  ·obtain ⟨b, o, rfl, c1⟩ := (hd.keep HBr).at' h1
   rw [HX1.out] at c1
   by_cases h2 : k < n'
   ·obtain ⟨b', o', rfl, c2⟩ := (hd'.keep HBr).at' h2
    rw [HY1.out] at c2
    obtain ⟨t, ht⟩ : ∃ t : Nat, (t : Int) = (x : Int) + 1000000000 - v - y := ⟨((x : Int) + 1000000000 - v - y).toNat, by omega⟩
    have et : ((x : Int) + 1000000000 - v - y) % 1000000000 = ((t % 1000000000 : Nat) : Int) := by omega
    have eo : 1 - ((x : Int) + 1000000000 - v - y) / 1000000000 = ((1 - t / 1000000000 : Nat) : Int) := by omega
    have ET := Ae et
    have EO := Ae eo
    have HT := Ae ht
    clear et eo ht
    go_wp2_with (at_builtin; refine wpList_append_own _ rfl _ _ 57 rfl w.heap.size 112 i0 (.int .u32 0) 1 4 Tryz.underlying57 hi hz0 hz1 hz2 rfl qC _ _ _ rfl (hown.alloc _) ⟨wr.heap.size, 0, none⟩ 1 1 [.int .u32 (((x : Int) + 1000000000 - v - y) % 1000000000)] rfl rfl (cell_one_new _ _ _) (by simp [Value.oneCell']) qO qB qA ?_; intro v' w2 hown2 hgrow2 _)
    exact qBm
   ·have h2' : n' ≤ k := by omega
    obtain rfl := HYO.out qB
    obtain ⟨t, ht⟩ : ∃ t : Nat, (t : Int) = (x : Int) + 1000000000 - v := ⟨((x : Int) + 1000000000 - v).toNat, by omega⟩
    have et : ((x : Int) + 1000000000 - v) % 1000000000 = ((t % 1000000000 : Nat) : Int) := by omega
    have eo : 1 - ((x : Int) + 1000000000 - v) / 1000000000 = ((1 - t / 1000000000 : Nat) : Int) := by omega
    have ET := Ae et
    have EO := Ae eo
    have HT := Ae ht
    clear et eo ht
    go_wp2_with (at_builtin; refine wpList_append_own _ rfl _ _ 57 rfl w.heap.size 112 i0 (.int .u32 0) 1 4 Tryz.underlying57 hi hz0 hz1 hz2 rfl qC _ _ _ rfl (hown.alloc _) ⟨wr.heap.size, 0, none⟩ 1 1 [.int .u32 (((x : Int) + 1000000000 - v) % 1000000000)] rfl rfl (cell_one_new _ _ _) (by simp [Value.oneCell']) qO qB qA ?_; intro v' w2 hown2 hgrow2 _)
    exact qBm
  ·obtain rfl : k = n := by omega
   obtain ⟨a2, c2, rfl, hr, hfr⟩ := Dr hown qB (fun i => Bi (fun x hx => by have := HQ.out x hx; omega) i)
   go_wp2_with fail
   go_ret
   refine ⟨a2, k, c2, l, rfl, hr, ?_, HQ.out, Ad _, hfr, HBr⟩
   have := HS.out
   rw [As (show d'.length ≤ k by have := hl'.out; omega), As (show d.length ≤ k by have := hl.out; omega)] at this
   exact aN HLL.out HQ.out this HV.out
end Go.Proofs.YtdamegaedmckbaaGreatDoor
end
