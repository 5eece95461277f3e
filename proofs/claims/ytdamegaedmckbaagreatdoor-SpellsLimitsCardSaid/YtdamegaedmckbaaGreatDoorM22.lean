/- Package monos: Compare of slices, lexical, orders, Cmp by OrLex; package polys: falls, Check. -/
import Derived.Test.YtdamegaedmckbaaGreatDoorM17
import Derived.MapKept
import Derived.RangeFuncRecord
set_option linter.unusedSimpArgs false
set_option linter.unusedVariables false
section
namespace Go.Proofs.YtdamegaedmckbaaGreatDoor
open Go.RowKit

/-- By the first letter that tells. -/
def lexF (f g : Nat → Int) : Int := if f 0 ≠ g 0 then cmpI (f 0) (g 0) else if f 1 ≠ g 1 then cmpI (f 1) (g 1) else if f 2 ≠ g 2 then cmpI (f 2) (g 2) else if f 3 ≠ g 3 then cmpI (f 3) (g 3) else 0
theorem lexF_at {f g : Nat → Int} {k : Nat} (hk : k < 4) (h : ∀ j, j < k → f j = g j) (hne : f k ≠ g k) : lexF f g = cmpI (f k) (g k) := by
  unfold lexF
  match k, hk with
  | 0, _ => rw [if_pos hne]
  | 1, _ => rw [if_neg (by simp [h 0 (by omega)]), if_pos hne]
  | 2, _ => rw [if_neg (by simp [h 0 (by omega)]), if_neg (by simp [h 1 (by omega)]), if_pos hne]
  | 3, _ => rw [if_neg (by simp [h 0 (by omega)]), if_neg (by simp [h 1 (by omega)]), if_neg (by simp [h 2 (by omega)]), if_pos hne]
theorem lexF_eq {f g : Nat → Int} (h : ∀ j, j < 4 → f j = g j) : lexF f g = 0 := by
  unfold lexF
  rw [if_neg (by simp [h 0 (by omega)]), if_neg (by simp [h 1 (by omega)]), if_neg (by simp [h 2 (by omega)]), if_neg (by simp [h 3 (by omega)])]
set_option maxRecDepth 100000 in
set_option maxHeartbeats 1000000 in
theorem sCompare_c (w : World) (b b' : Nat) (f g : Nat → Int) (hf : ∀ i, i < 4 → w.cell? ⟨b, i, none⟩ = some (.int .u16 (f i))) (hg : ∀ i, i < 4 → w.cell? ⟨b', i, none⟩ = some (.int .u16 (g i))) :
    Calls Tryz.prog 262 #[.slice (some ⟨b, 0, none⟩) 4 4, .slice (some ⟨b', 0, none⟩) 4 4] w fun e w' => e = .returned (.int .i64 (lexF f g)) ∧ w = w' := by
  go_enter Tryz.func262, Tryz.ntmps262
  have HF := Lib.hid hf
  have HG := Lib.hid hg
  clear hf hg
  go_wp2
  go_loopw [11] (fun v wr => ∃ k : Nat, k ≤ 4 ∧ v = .int .i64 k ∧ w = wr ∧ Hid (∀ j, j < k → f j = g j)) (fun v _ => 4 - (intOf v).toNat)
  case atStart => exact ⟨0, by omega, rfl, rfl, Lib.hid (fun j hj => by omega)⟩
  case round =>
    obtain ⟨k, hk, rfl, rfl, he⟩ := hrel
    by_cases hlt : k < 4
    · have c1 := HF.out k hlt
      have c2 := HG.out k hlt
      by_cases hq : f k = g k
      · have hc0 : cmpI (f k) (g k) = 0 := by rw [hq, cmpI_eq]
        have HQ := Lib.hid hq
        clear hq
        go_wp2_with (go_at_call 303; refine (Compare_u16 _ _ _).mono ?_; rintro e w1 ⟨rfl, rfl⟩; rw [hc0])
        go_roundw
        case rel => exact ⟨k + 1, by omega, by simp, by first | rfl | trivial, Lib.hid (fun j hj => by
          rcases Nat.lt_or_ge j k with h | h
          · exact he.out j h
          · obtain rfl : j = k := by omega
            exact HQ.out)⟩
        case measure => (first | (simp [intOf]; omega) | (simp [intOf]; done))
      · have hc0 : (cmpI (f k) (g k) == 0) = false := by rw [beq_eq_false_iff_ne]; exact fun e => hq (cmpI_zero.1 e)
        have HQ := Lib.hid hq
        clear hq
        go_wp2_with (go_at_call 303; refine (Compare_u16 _ _ _).mono ?_; rintro e w1 ⟨rfl, rfl⟩)
        go_ret
        exact ⟨by rw [lexF_at hlt he.out HQ.out]; rfl, rfl⟩
    · obtain rfl : k = 4 := by omega
      go_wp2
      go_ret
      exact ⟨by rw [lexF_eq he.out]; rfl, rfl⟩
theorem put8 (W : World) (B clock : Nat) (es : Array MapEntry) (key : Int) (v : Value) (hb : W.heap[B]? = some (.map es clock)) (hf : Instr.findNow (.int .u8) (.int .u8 key) es.toList 0 = some none) :
    (Instr.mapUpdate 239 (.map (some B)) (.int .u8 key) v).run Tryz.prog W = .ok () (W.putObj B (.map (es.push { key := .int .u8 key, val := v, born := clock }) (clock + 1))) := by
  have hc : (Instr.checkKey false 10000 136 (.int .u8 key)).run Tryz.prog W = .ok () W := MapKept.run_checkKey (k := .int .u8 key) Tryz.underlying136 (by simp [MapKept.IsKey]) false 9999
  simp [Instr.mapUpdate, run_underlying Tryz.underlying239, MapKept.run_getObj_map hb, hc, MapKept.run_findKey Tryz.underlying136 hf, MapKept.run_setObj_map _ hb, Result.andThen, World.putObj]
theorem look8 (W : World) (B clock : Nat) (es : Array MapEntry) (key : Int) (hb : W.heap[B]? = some (.map es clock)) (hf : Instr.findNow (.int .u8) (.int .u8 key) es.toList 0 = some none) :
    (Instr.lookup 239 (.map (some B)) (.int .u8 key) false).run Tryz.prog W = .ok (.slice none 0 0) W := by
  have hc : (Instr.checkKey es.isEmpty 10000 136 (.int .u8 key)).run Tryz.prog W = .ok () W := MapKept.run_checkKey (k := .int .u8 key) Tryz.underlying136 (by simp [MapKept.IsKey]) _ 9999
  simp [Instr.lookup, run_underlying Tryz.underlying239, MapKept.run_getObj_map hb, hc, MapKept.run_findKey Tryz.underlying136 hf, Result.andThen, Tryz.zeroValue238]
theorem below_put {B : Nat} {w w' : World} {r : Nat} (o : Obj) (h : Below B w w') (hr : B ≤ r) : Below B w (w'.putObj r o) :=
  ⟨h.os, h.tape, h.output, by show w.heap.size ≤ (w'.heap.setIfInBounds r o).size; rw [Array.size_setIfInBounds]; exact h.size, fun k hk => by rw [World.putObj_heap_other (by omega)]; exact h.block k hk⟩
theorem size_putObj (w : World) (r : Nat) (o : Obj) : (w.putObj r o).heap.size = w.heap.size := by simp [World.putObj]
set_option maxRecDepth 100000 in
/-- orders: a map in which there is nothing under OrLex. -/
theorem orders_c (w : World) :
    Calls Tryz.prog 213 #[] w fun e w' => (∃ B es clock, e = .returned (.map (some B)) ∧ w'.heap[B]? = some (.map es clock) ∧ Instr.findNow (.int .u8) (.int .u8 0) es.toList 0 = some none) ∧ Below w.heap.size w w' := by
  have hmm := @run_makeMap Tryz.prog
  have hb1 : ((w.alloc (.map #[] 0)).alloc (.cells #[.func (.func 260) #[] #[], .func (.func 214) #[] #[]] 102)).heap[w.heap.size]? = some (.map #[] 0) := by
    rw [Below.heap_alloc _ _ _ (by simp)]; exact World.alloc_heap_new w _
  have q1 := put8 _ _ _ _ 1 (.slice (some ⟨w.heap.size + 1, 0, none⟩) 2 2) hb1 rfl
  have HB1 : Below w.heap.size w ((w.alloc (.map #[] 0)).alloc (.cells #[.func (.func 260) #[] #[], .func (.func 214) #[] #[]] 102)) := by go_grown
  have hz1 : ((w.alloc (.map #[] 0)).alloc (.cells #[.func (.func 260) #[] #[], .func (.func 214) #[] #[]] 102)).heap.size = w.heap.size + 2 := by simp
  have hb2 : ((((w.alloc (.map #[] 0)).alloc (.cells #[.func (.func 260) #[] #[], .func (.func 214) #[] #[]] 102)).putObj w.heap.size (.map #[{ key := .int .u8 1, val := .slice (some ⟨w.heap.size + 1, 0, none⟩) 2 2, born := 0 }] 1)).alloc (.cells #[.func (.func 260) #[] #[], .func (.func 261) #[] #[]] 102)).heap[w.heap.size]? = some (.map #[{ key := .int .u8 1, val := .slice (some ⟨w.heap.size + 1, 0, none⟩) 2 2, born := 0 }] 1) := by
    rw [Below.heap_alloc _ _ _ (by rw [size_putObj]; omega), World.putObj_heap_same (by omega)]
  have q2 := put8 _ _ _ _ 2 (.slice (some ⟨w.heap.size + 2, 0, none⟩) 2 2) hb2 rfl
  have HB2 : Below w.heap.size w ((((w.alloc (.map #[] 0)).alloc (.cells #[.func (.func 260) #[] #[], .func (.func 214) #[] #[]] 102)).putObj w.heap.size (.map #[{ key := .int .u8 1, val := .slice (some ⟨w.heap.size + 1, 0, none⟩) 2 2, born := 0 }] 1)).alloc (.cells #[.func (.func 260) #[] #[], .func (.func 261) #[] #[]] 102)) := Below.alloc (below_put _ HB1 (Nat.le_refl _)) (by rw [size_putObj]; omega) _
  have hz2 : w.heap.size < ((((w.alloc (.map #[] 0)).alloc (.cells #[.func (.func 260) #[] #[], .func (.func 214) #[] #[]] 102)).putObj w.heap.size (.map #[{ key := .int .u8 1, val := .slice (some ⟨w.heap.size + 1, 0, none⟩) 2 2, born := 0 }] 1)).alloc (.cells #[.func (.func 260) #[] #[], .func (.func 261) #[] #[]] 102)).heap.size := by rw [World.size_alloc, size_putObj]; omega
  go_enter Tryz.func213, Tryz.ntmps213
  go_wp2_with fail
  go_ret
  exact ⟨⟨w.heap.size, _, _, rfl, World.putObj_heap_same hz2, rfl⟩, below_put _ HB2 (Nat.le_refl _)⟩
set_option maxRecDepth 100000 in
theorem lexical_c (w : World) (x0 x1 x2 x3 y0 y1 y2 y3 : Int) (f g : Nat → Int) (f0 : f 0 = x0) (f1 : f 1 = x1) (f2 : f 2 = x2) (f3 : f 3 = x3) (g0 : g 0 = y0) (g1 : g 1 = y1) (g2 : g 2 = y2) (g3 : g 3 = y3) :
    Calls Tryz.prog 214 #[.agg #[.int .u16 x0, .int .u16 x1, .int .u16 x2, .int .u16 x3], .agg #[.int .u16 y0, .int .u16 y1, .int .u16 y2, .int .u16 y3]] w fun e w' => e = .returned (.int .i64 (lexF f g)) ∧ Below w.heap.size w w' := by
  have HB := Below.refl w.heap.size w
  go_enter Tryz.func214, Tryz.ntmps214
  go_wp2_with fail
  have HF : Hid (∀ i, i < 4 → ((w.alloc (.cells #[.int .u16 x0, .int .u16 x1, .int .u16 x2, .int .u16 x3] 66)).alloc (.cells #[.int .u16 y0, .int .u16 y1, .int .u16 y2, .int .u16 y3] 66)).cell? ⟨w.heap.size, i, none⟩ = some (.int .u16 (f i))) := Lib.hid (fun i hi => by
    match i, hi with
    | 0, _ => rw [f0]; simp [go_sem]
    | 1, _ => rw [f1]; simp [go_sem]
    | 2, _ => rw [f2]; simp [go_sem]
    | 3, _ => rw [f3]; simp [go_sem])
  have HG : Hid (∀ i, i < 4 → ((w.alloc (.cells #[.int .u16 x0, .int .u16 x1, .int .u16 x2, .int .u16 x3] 66)).alloc (.cells #[.int .u16 y0, .int .u16 y1, .int .u16 y2, .int .u16 y3] 66)).cell? ⟨w.heap.size + 1, i, none⟩ = some (.int .u16 (g i))) := Lib.hid (fun i hi => by
    match i, hi with
    | 0, _ => rw [g0]; simp [go_sem]
    | 1, _ => rw [g1]; simp [go_sem]
    | 2, _ => rw [g2]; simp [go_sem]
    | 3, _ => rw [g3]; simp [go_sem])
  have HB2 : Below w.heap.size w ((w.alloc (.cells #[.int .u16 x0, .int .u16 x1, .int .u16 x2, .int .u16 x3] 66)).alloc (.cells #[.int .u16 y0, .int .u16 y1, .int .u16 y2, .int .u16 y3] 66)) := by go_grown
  clear f0 f1 f2 f3 g0 g1 g2 g3
  generalize ((w.alloc (.cells #[.int .u16 x0, .int .u16 x1, .int .u16 x2, .int .u16 x3] 66)).alloc (.cells #[.int .u16 y0, .int .u16 y1, .int .u16 y2, .int .u16 y3] 66)) = w1 at *
  go_quiet (((first | (go_at_call 262; exact quietL (sCompare_c _ _ _ f g HF.out HG.out)) | (go_at_call 262; exact quietAL (sCompare_c _ _ _ f g HF.out HG.out)))))
  go_wp2_with fail
  go_ret
  exact ⟨rfl, below_drewN _ HB2⟩
/-- Four counts. -/
def quad (x0 x1 x2 x3 : Int) : Nat → Int
  | 0 => x0
  | 1 => x1
  | 2 => x2
  | _ => x3
set_option maxRecDepth 100000 in
/-- monos.Cmp by OrLex. -/
theorem mCmp_c (w : World) (x0 x1 x2 x3 y0 y1 y2 y3 : Int) :
    Calls Tryz.prog 166 #[.int .u8 0, .agg #[.int .u16 x0, .int .u16 x1, .int .u16 x2, .int .u16 x3], .agg #[.int .u16 y0, .int .u16 y1, .int .u16 y2, .int .u16 y3]] w fun e w' => e = .returned (.int .i64 (lexF (quad x0 x1 x2 x3) (quad y0 y1 y2 y3))) ∧ Below w.heap.size w w' := by
  have HB := Below.refl w.heap.size w
  go_enter Tryz.func166, Tryz.ntmps166
  go_wp2_with fail
  refine (orders_c _).mono ?_
  rintro e w1 ⟨⟨B, es, clock, rfl, hes, hfn⟩, hb⟩
  obtain ⟨hc, hf⟩ := bcell hb; have hz := hb.size; (try simp only [World.size_alloc, World.size_drew] at hz)
  replace HB : Below w.heap.size w w1 := Below.trans (by go_grown) (hb.mono (by go_size))
  have s0 : ∀ i, i < 4 → w1.cell? ⟨w.heap.size, i, none⟩ = some (.int .u16 (quad x0 x1 x2 x3 i)) := fun i hi => (hc _ _ (by go_size)).trans (by
    match i, hi with
    | 0, _ => simp [go_sem, quad]
    | 1, _ => simp [go_sem, quad]
    | 2, _ => simp [go_sem, quad]
    | 3, _ => simp [go_sem, quad])
  have s1 : ∀ i, i < 4 → w1.cell? ⟨w.heap.size + 1, i, none⟩ = some (.int .u16 (quad y0 y1 y2 y3 i)) := fun i hi => (hc _ _ (by go_size)).trans (by
    match i, hi with
    | 0, _ => simp [go_sem, quad]
    | 1, _ => simp [go_sem, quad]
    | 2, _ => simp [go_sem, quad]
    | 3, _ => simp [go_sem, quad])
  have s00 := s0 0 (by omega); have s01 := s0 1 (by omega); have s02 := s0 2 (by omega); have s03 := s0 3 (by omega)
  have s10 := s1 0 (by omega); have s11 := s1 1 (by omega); have s12 := s1 2 (by omega); have s13 := s1 3 (by omega)
  simp only [quad] at s00 s01 s02 s03 s10 s11 s12 s13
  have q1 := look8 w1 B clock es 0 hes hfn
  clear s0 s1 hc hf hes hfn
  go_wp2_with fail
  go_loop [14] (fun v => v = .int .i64 0) (fun _ => 0)
  case atStart => rfl
  case round =>
    subst hrel
    go_wp2_with fail
    refine (lexical_c _ _ _ _ _ _ _ _ _ (quad x0 x1 x2 x3) (quad y0 y1 y2 y3) rfl rfl rfl rfl rfl rfl rfl rfl).mono ?_
    rintro e w2 ⟨rfl, hb2⟩
    go_wp2_with fail
    go_ret
    exact ⟨rfl, HB.trans (hb2.mono HB.size)⟩
set_option maxRecDepth 100000 in
/-- polys.falls. -/
theorem falls_c (w : World) (x0 x1 x2 x3 y0 y1 y2 y3 : Int) :
    Calls Tryz.prog 94 #[.agg #[.int .u16 x0, .int .u16 x1, .int .u16 x2, .int .u16 x3], .agg #[.int .u16 y0, .int .u16 y1, .int .u16 y2, .int .u16 y3]] w fun e w' => e = .returned (.int .i64 (lexF (quad y0 y1 y2 y3) (quad x0 x1 x2 x3))) ∧ Below w.heap.size w w' := by
  have HB := Below.refl w.heap.size w
  go_enter Tryz.func94, Tryz.ntmps94
  go_wp2_with fail
  refine (mCmp_c _ _ _ _ _ _ _ _ _).mono ?_
  rintro e w1 ⟨rfl, hb⟩
  have HB2 : Below w.heap.size w w1 := Below.trans (by go_grown) (hb.mono (by go_size))
  go_wp2_with fail
  go_ret
  exact ⟨rfl, HB2⟩
end Go.Proofs.YtdamegaedmckbaaGreatDoor
end
