/- The order of products once more: what the walk draws is told too. No condition. slices.SortFunc at terms, by the greatest product first. No further condition. What has been gathered out of a map, sorted, is a sum. No condition. -/
import Derived.Test.YtdamegaedmckbaaGreatDoorX19
import Derived.Test.YtdamegaedmckbaaGreatDoorX25
import Derived.Test.YtdamegaedmckbaaGreatDoorX20
import Derived.Test.YtdamegaedmckbaaGreatDoorX28
set_option linter.unusedSimpArgs false
set_option linter.unusedVariables false
section
namespace Go.Proofs.YtdamegaedmckbaaGreatDoor
open Go.RowKit

set_option maxRecDepth 100000 in
/-- orders: a map in which there is nothing under OrLex. -/
theorem orders_d (w : World) :
    Calls Tryz.prog 213 #[] w fun e w' => (∃ B es clock, e = .returned (.map (some B)) ∧ w'.heap[B]? = some (.map es clock) ∧ Instr.findNow (.int .u8) (.int .u8 0) es.toList 0 = some none) ∧ Below w.heap.size w w' ∧ w.drawn ≤ w'.drawn := by
  have hmm := @run_makeMap Tryz.prog
  have hb1 : ((w.alloc (.map #[] 0)).alloc (.cells #[.func (.func 260) #[] #[], .func (.func 214) #[] #[]] 102)).heap[w.heap.size]? = some (.map #[] 0) := by
    rw [Below.heap_alloc _ _ _ (by simp)]; exact World.alloc_heap_new w _
  have q1 := put8 _ _ _ _ 1 (.slice (some ⟨w.heap.size + 1, 0, none⟩) 2 2) hb1 rfl
  have HB1 : Below w.heap.size w ((w.alloc (.map #[] 0)).alloc (.cells #[.func (.func 260) #[] #[], .func (.func 214) #[] #[]] 102)) := by go_grown
  have hz1 : ((w.alloc (.map #[] 0)).alloc (.cells #[.func (.func 260) #[] #[], .func (.func 214) #[] #[]] 102)).heap.size = w.heap.size + 2 := by simp
  have hb2 : ((((w.alloc (.map #[] 0)).alloc (.cells #[.func (.func 260) #[] #[], .func (.func 214) #[] #[]] 102)).putObj w.heap.size (.map #[{ key := .int .u8 1, val := .slice (some ⟨w.heap.size + 1, 0, none⟩) 2 2, born := 0 }] 1)).alloc (.cells #[.func (.func 260) #[] #[], .func (.func 261) #[] #[]] 102)).heap[w.heap.size]? = some (.map #[{ key := .int .u8 1, val := .slice (some ⟨w.heap.size + 1, 0, none⟩) 2 2, born := 0 }] 1) := by
    rw [Below.heap_alloc _ _ _ (by rw [size_putObj]; omega), World.putObj_heap_same (by omega)]
  have q2 := put8 _ _ _ _ 2 (.slice (some ⟨w.heap.size + 2, 0, none⟩) 2 2) hb2 rfl
  have HB2 : Below w.heap.size w ((((w.alloc (.map #[] 0)).alloc (.cells #[.func (.func 260) #[] #[], .func (.func 214) #[] #[]] 102)).putObj w.heap.size (.map #[{ key := .int .u8 1, val := .slice (some ⟨w.heap.size + 1, 0, none⟩) 2 2, born := 0 }] 1)).alloc (.cells #[.func (.func 260) #[] #[], .func (.func 261) #[] #[]] 102)) := Below.alloc (below_put _ HB1 (Nat.le_refl _)) (by rw [size_putObj]; omega) _
  have hz2 : w.heap.size < ((((w.alloc (.map #[] 0)).alloc (.cells #[.func (.func 260) #[] #[], .func (.func 214) #[] #[]] 102)).putObj w.heap.size (.map #[{ key := .int .u8 1, val := .slice (some ⟨w.heap.size + 1, 0, none⟩) 2 2, born := 0 }] 1)).alloc (.cells #[.func (.func 260) #[] #[], .func (.func 261) #[] #[]] 102)).heap.size := by rw [World.size_alloc, size_putObj]; omega
  go_enter Tryz.func213, Tryz.ntmps213
  go_wp2_with fail
  go_ret
  exact ⟨⟨w.heap.size, _, _, rfl, World.putObj_heap_same hz2, rfl⟩, below_put _ HB2 (Nat.le_refl _), Nat.le_refl _⟩
set_option maxRecDepth 100000 in
theorem lexical_d (w : World) (x0 x1 x2 x3 y0 y1 y2 y3 : Int) (f g : Nat → Int) (f0 : f 0 = x0) (f1 : f 1 = x1) (f2 : f 2 = x2) (f3 : f 3 = x3) (g0 : g 0 = y0) (g1 : g 1 = y1) (g2 : g 2 = y2) (g3 : g 3 = y3) :
    Calls Tryz.prog 214 #[.agg #[.int .u16 x0, .int .u16 x1, .int .u16 x2, .int .u16 x3], .agg #[.int .u16 y0, .int .u16 y1, .int .u16 y2, .int .u16 y3]] w fun e w' => e = .returned (.int .i64 (lexF f g)) ∧ Below w.heap.size w w' ∧ w.drawn ≤ w'.drawn := by
  have HB := Below.refl w.heap.size w
  go_enter Tryz.func214, Tryz.ntmps214
  go_wp2_with fail
  have HF : Hid (∀ i, i < 4 → ((w.alloc (.cells #[.int .u16 x0, .int .u16 x1, .int .u16 x2, .int .u16 x3] 66)).alloc (.cells #[.int .u16 y0, .int .u16 y1, .int .u16 y2, .int .u16 y3] 66)).cell? ⟨w.heap.size, i, none⟩ = some (.int .u16 (f i))) := Lib.hid (fun i hi => by
    match i, hi with
    | 0, _ => rw [f0]; simp [go_sem]
    | 1, _ => rw [f1]; simp [go_sem]
    | 2, _ => rw [f2]; simp [go_sem]
    | 3, _ => rw [f3]; simp [go_sem])
  have HG : Hid (∀ i, i < 4 → ((w.alloc (.cells #[.int .u16 x0, .int .u16 x1, .int .u16 x2, .int .u16 x3] 66)).alloc (.cells #[.int .u16 y0, .int .u16 y1, .int .u16 y2, .int .u16 y3] 66)).cell? ⟨w.heap.size + 1, i, none⟩ = some (.int .u16 (g i))) := Lib.hid (fun i hi => by
    match i, hi with
    | 0, _ => rw [g0]; simp [go_sem]
    | 1, _ => rw [g1]; simp [go_sem]
    | 2, _ => rw [g2]; simp [go_sem]
    | 3, _ => rw [g3]; simp [go_sem])
  have HB2 : Below w.heap.size w ((w.alloc (.cells #[.int .u16 x0, .int .u16 x1, .int .u16 x2, .int .u16 x3] 66)).alloc (.cells #[.int .u16 y0, .int .u16 y1, .int .u16 y2, .int .u16 y3] 66)) := by go_grown
  clear f0 f1 f2 f3 g0 g1 g2 g3
  have HDr : w.drawn = ((w.alloc (.cells #[.int .u16 x0, .int .u16 x1, .int .u16 x2, .int .u16 x3] 66)).alloc (.cells #[.int .u16 y0, .int .u16 y1, .int .u16 y2, .int .u16 y3] 66)).drawn := rfl
  generalize ((w.alloc (.cells #[.int .u16 x0, .int .u16 x1, .int .u16 x2, .int .u16 x3] 66)).alloc (.cells #[.int .u16 y0, .int .u16 y1, .int .u16 y2, .int .u16 y3] 66)) = w1 at *
  go_quiet (((first | (go_at_call 262; exact quietL (sCompare_c _ _ _ f g HF.out HG.out)) | (go_at_call 262; exact quietAL (sCompare_c _ _ _ f g HF.out HG.out)))))
  go_wp2_with fail
  go_ret
  exact ⟨rfl, below_drewN _ HB2, by rw [HDr]; exact Nat.le_add_right _ _⟩
set_option maxRecDepth 100000 in
/-- monos.Cmp by OrLex. -/
theorem mCmp_d (w : World) (x0 x1 x2 x3 y0 y1 y2 y3 : Int) :
    Calls Tryz.prog 166 #[.int .u8 0, .agg #[.int .u16 x0, .int .u16 x1, .int .u16 x2, .int .u16 x3], .agg #[.int .u16 y0, .int .u16 y1, .int .u16 y2, .int .u16 y3]] w fun e w' => e = .returned (.int .i64 (lexF (quad x0 x1 x2 x3) (quad y0 y1 y2 y3))) ∧ Below w.heap.size w w' ∧ w.drawn ≤ w'.drawn := by
  have HB := Below.refl w.heap.size w
  go_enter Tryz.func166, Tryz.ntmps166
  go_wp2_with fail
  refine (orders_d _).mono ?_
  rintro e w1 ⟨⟨B, es, clock, rfl, hes, hfn⟩, hb, hdr⟩
  replace hdr : w.drawn ≤ w1.drawn := hdr
  obtain ⟨hc, hf⟩ := bcell hb; have hz := hb.size; (try simp only [World.size_alloc, World.size_drew] at hz)
  replace HB : Below w.heap.size w w1 := Below.trans (by go_grown) (hb.mono (by go_size))
  have s0 : ∀ i, i < 4 → w1.cell? ⟨w.heap.size, i, none⟩ = some (.int .u16 (quad x0 x1 x2 x3 i)) := fun i hi => (hc _ _ (by go_size)).trans (by
    match i, hi with
    | 0, _ => simp [go_sem, quad]
    | 1, _ => simp [go_sem, quad]
    | 2, _ => simp [go_sem, quad]
    | 3, _ => simp [go_sem, quad])
  have s1 : ∀ i, i < 4 → w1.cell? ⟨w.heap.size + 1, i, none⟩ = some (.int .u16 (quad y0 y1 y2 y3 i)) := fun i hi => (hc _ _ (by go_size)).trans (by
    match i, hi with
    | 0, _ => simp [go_sem, quad]
    | 1, _ => simp [go_sem, quad]
    | 2, _ => simp [go_sem, quad]
    | 3, _ => simp [go_sem, quad])
  have s00 := s0 0 (by omega); have s01 := s0 1 (by omega); have s02 := s0 2 (by omega); have s03 := s0 3 (by omega)
  have s10 := s1 0 (by omega); have s11 := s1 1 (by omega); have s12 := s1 2 (by omega); have s13 := s1 3 (by omega)
  simp only [quad] at s00 s01 s02 s03 s10 s11 s12 s13
  have q1 := look8 w1 B clock es 0 hes hfn
  clear s0 s1 hc hf hes hfn
  go_wp2_with fail
  go_loop [14] (fun v => v = .int .i64 0) (fun _ => 0)
  case atStart => rfl
  case round =>
    subst hrel
    go_wp2_with fail
    refine (lexical_d _ _ _ _ _ _ _ _ _ (quad x0 x1 x2 x3) (quad y0 y1 y2 y3) rfl rfl rfl rfl rfl rfl rfl rfl).mono ?_
    rintro e w2 ⟨rfl, hb2, hdr2⟩
    replace hdr2 := Nat.le_trans hdr hdr2
    go_wp2_with fail
    go_ret
    exact ⟨rfl, HB.trans (hb2.mono HB.size), hdr2⟩
set_option maxRecDepth 100000 in
/-- polys.falls. -/
theorem falls_d (w : World) (x0 x1 x2 x3 y0 y1 y2 y3 : Int) :
    Calls Tryz.prog 94 #[.agg #[.int .u16 x0, .int .u16 x1, .int .u16 x2, .int .u16 x3], .agg #[.int .u16 y0, .int .u16 y1, .int .u16 y2, .int .u16 y3]] w fun e w' => e = .returned (.int .i64 (lexF (quad y0 y1 y2 y3) (quad x0 x1 x2 x3))) ∧ Below w.heap.size w w' ∧ w.drawn ≤ w'.drawn := by
  have HB := Below.refl w.heap.size w
  go_enter Tryz.func94, Tryz.ntmps94
  go_wp2_with fail
  refine (mCmp_d _ _ _ _ _ _ _ _ _).mono ?_
  rintro e w1 ⟨rfl, hb, hdr⟩
  replace hdr : w.drawn ≤ w1.drawn := hdr
  have HB2 : Below w.heap.size w w1 := Below.trans (by go_grown) (hb.mono (by go_size))
  go_wp2_with fail
  go_ret
  exact ⟨rfl, HB2, hdr⟩
end Go.Proofs.YtdamegaedmckbaaGreatDoor
end
section
namespace Go.Proofs.YtdamegaedmckbaaGreatDoor
open Go.RowKit Go.Lib Go.Sort

/-- A term whose counts are counts. -/
def STm : Type := { t : Tm // t.m0 < 65536 ∧ t.m1 < 65536 ∧ t.m2 < 65536 ∧ t.m3 < 65536 }
instance : Inhabited STm := ⟨⟨⟨false, none, 0, 0, [], false, none, 0, 0, [], 0, 0, 0, 0⟩, by decide⟩⟩
def STm.key (t : STm) : Nat := key4 t.1.m0 t.1.m1 t.1.m2 t.1.m3
def encT (t : STm) : List Value := t.1.cells
/-- The one whose product is greater comes first. -/
def cfT (s t : STm) : Int := cmpI (t.key : Int) (s.key : Int)
theorem ltT (s t : STm) : ltOf cfT s t = decide (t.key < s.key) := by
  unfold ltOf cfT
  rw [cmpI_cast]
  by_cases h : t.key < s.key
  · simp [h]
  · by_cases h2 : t.key = s.key <;> simp [h, h2]
theorem swoT : SWO (ltOf cfT) where
  irrefl x := by rw [ltT]; simp
  trans x y z h1 h2 := by rw [ltT] at *; simp at *; omega
  ntrans x y z h1 h2 := by rw [ltT] at *; simp at *; omega
theorem grow_of {w w' : World} (h : Below w.heap.size w w') (hd : w.drawn ≤ w'.drawn) : ∃ q os', w' = grow (w.drewN q) os' := by
  refine ⟨w'.drawn - w.drawn, w'.heap.extract w.heap.size w'.heap.size, ?_⟩
  obtain ⟨h1, h2, h3, h4, h5⟩ := h
  obtain ⟨hp, tp, dr, os, ou⟩ := w'
  simp only at h1 h2 h3 h4 h5 hd ⊢
  unfold grow World.drewN
  simp only [World.mk.injEq]
  refine ⟨?_, h2, by omega, h1, h3⟩
  apply Array.ext
  · simp; omega
  · intro i hi1 hi2
    rw [Array.getElem_append]
    split
    · next hlt =>
      have := h5 i hlt
      rw [Array.getElem?_eq_getElem hi1, Array.getElem?_eq_getElem hlt] at this
      exact Option.some.inj this
    · next hge =>
      simp only [Array.getElem_extract]
      congr 1
      omega
set_option maxRecDepth 100000 in
set_option maxHeartbeats 4000000 in
theorem sumCmp_c (w : World) (s t : Tm) :
    Calls Tryz.prog 179 #[s.val, t.val] w fun e w' => e = .returned (.int .i64 (lexF (quad t.m0 t.m1 t.m2 t.m3) (quad s.m0 s.m1 s.m2 s.m3))) ∧ Below w.heap.size w w' ∧ w.drawn ≤ w'.drawn := by
  have HB := Below.refl w.heap.size w
  go_enter Tryz.func179, Tryz.ntmps179
  go_wp2_with fail
  refine (falls_d _ _ _ _ _ _ _ _ _).mono ?_
  rintro e w1 ⟨rfl, hb, hdr⟩
  have HB2 : Below w.heap.size w w1 := Below.trans (by go_grown) (hb.mono (by go_size))
  replace hdr : w.drawn ≤ w1.drawn := hdr
  go_wp2_with fail
  go_ret
  exact ⟨rfl, HB2, hdr⟩
theorem cmpLaysT (blk off size : Nat) (w : World) : CmpLays Tryz.prog 179 #[] encT 8 cfT blk off size w := by
  intro m os dk _ x y
  refine (sumCmp_c _ x.1 y.1).mono ?_
  rintro e w' ⟨rfl, hb, hd⟩
  refine ⟨?_, grow_of hb hd⟩
  obtain ⟨x, hx⟩ := x
  obtain ⟨y, hy⟩ := y
  unfold cfT STm.key
  rw [lexF_key hy.1 hy.2.1 hy.2.2.1 hy.2.2.2 hx.1 hx.2.1 hx.2.2.1 hx.2.2.2]
set_option maxRecDepth 100000 in
set_option maxHeartbeats 4000000 in
theorem sort_c (blk off cap : Nat) (d : Array STm) (w : World) (hH : HoldsK encT 8 w blk off d) (hblk : blk < w.heap.size) (hsz : d.size < 4611686018427387904) :
    Calls Tryz.prog 178 #[.slice (some ⟨blk, off, none⟩) d.size cap, .func (.func 179) #[] #[]] w fun e w' =>
      e = .returned (.tuple #[]) ∧ ∃ d' n os, PermIn 0 d.size d d' ∧ SortedIn (ltOf cfT) 0 d.size d' ∧ w' = sortWorldK encT 8 w blk off n d' os := by
  have eg : ∀ args w, (callFunc 179 args).run Tryz.prog w = .ok (.enter 179 args) w := enters_of Tryz.func179 (by kernel_rfl) rfl
  have hlim : Lib.bitLen d.size < 4611686018427387904 := Nat.lt_of_le_of_lt (Lib.bitLen_le d.size 62 (by omega) (by omega)) (by omega)
  have hk : ∀ x : STm, (encT x).length = 8 := fun _ => rfl
  have h1 : ∀ x : STm, ∀ v ∈ encT x, v.oneCell' = true := fun x v hv => by
    simp [encT, Tm.cells] at hv
    rcases hv with rfl | rfl | rfl | rfl | rfl | rfl | rfl | rfl <;> rfl
  have hp := AnyQ.pdqsortCmpFunc_all Tryz.laysPdq228 8 (fun w => by first | exact Tryz.isAgg68 w | kernel_rfl) (fun w => by first | exact Tryz.sizeOf68 w | kernel_rfl) encT cfT 179 #[] swoT blk off cap d w eg (cmpLaysT blk off d.size w) ⟨hk, h1, hH, hblk⟩ (d.size + 1) 0 d.size (Lib.bitLen d.size) d w (by omega) rfl (SWK.start hH) (Nat.zero_le _) (Nat.le_refl _) hsz hlim (Or.inl rfl)
  change Calls Tryz.prog 228 _ _ _ at hp
  have hl : Calls Tryz.prog 229 #[.int .u64 (d.size : Int)] w fun e w' => e = .returned (.int .i64 (Lib.bitLen d.size : Nat)) ∧ w' = w := by
    have h := Tryz.bits_Len (d.size : Int) w (by omega) (by omega)
    rwa [Int.toNat_natCast] at h
  have wr : IntKind.u64.wrap (d.size : Int) = d.size := by simp [IntKind.wrap, IntKind.bits, IntKind.signed]; omega
  have hsort := pdq_sorts (ltOf cfT) swoT d 0 d.size (Lib.bitLen d.size) true true (Nat.zero_le _) (Nat.le_refl _) (Or.inl rfl)
  generalize pdq (ltOf cfT) d 0 d.size (Lib.bitLen d.size) true true = d' at *
  clear hH hblk hlim hk h1 eg
  go_enter Tryz.func178, Tryz.ntmps178
  go_wp2_with (first | (go_at_call 229; refine hl.mono ?_; rintro e w' ⟨rfl, rfl⟩) | (go_at_call 228; refine hp.mono ?_; rintro e w' ⟨rfl, n, os, rfl⟩))
  exact bodyPost_end (v := .tuple #[]) (by simp [results, Tryz.results178, go_sem]) rfl ⟨rfl, d', n, os, hsort.1, hsort.2, rfl⟩
end Go.Proofs.YtdamegaedmckbaaGreatDoor
end
section
namespace Go.Proofs.YtdamegaedmckbaaGreatDoor
open Go.RowKit Go.Lib Go.Sort

set_option maxRecDepth 100000 in
set_option maxHeartbeats 4000000 in
theorem sort_none (p : Option Addr) (cap : Nat) (w : World) : Calls Tryz.prog 178 #[.slice p 0 cap, .func (.func 179) #[] #[]] w fun e w' => e = .returned (.tuple #[]) ∧ w' = w := by
  have hp := fun lim W => AnyF.pdqsortCmpFunc_none Tryz.laysPdq228 p cap lim (.func (.func 179) #[] #[]) W
  have hp' : ∀ lim W, Calls Tryz.prog 228 #[.slice p 0 cap, .int .i64 0, .int .i64 0, .int .i64 lim, .func (.func 179) #[] #[]] W fun e w' => e = .returned (.tuple #[]) ∧ w' = W := hp
  have hl : ∀ W, Calls Tryz.prog 229 #[.int .u64 0] W fun e w' => e = .returned (.int .i64 (Lib.bitLen 0 : Nat)) ∧ w' = W := fun W => Tryz.bits_Len 0 W (by omega) (by omega)
  clear hp
  go_enter Tryz.func178, Tryz.ntmps178
  go_wp2_with (first | (go_at_call 229; refine (hl _).mono ?_; rintro e w' ⟨rfl, rfl⟩) | (go_at_call 228; refine (hp' _ _).mono ?_; rintro e w' ⟨rfl, rfl⟩))
  exact bodyPost_end (v := .tuple #[]) (by simp [results, Tryz.results178, go_sem]) rfl ⟨rfl, rfl⟩
/-- The cells of some terms. -/
def flatT (l : List STm) : List Value := l.flatMap encT
theorem flatT_snoc (l : List STm) (t : STm) : flatT (l ++ [t]) = flatT l ++ t.1.cells := by simp [flatT, encT]
theorem flatT_get (l : List STm) (i k : Nat) (hi : i < l.length) (hk : k < 8) : (flatT l)[i * 8 + k]? = (l[i].1.cells)[k]? := by
  induction l generalizing i with
  | nil => simp at hi
  | cons t l ih =>
    show (encT t ++ flatT l)[i * 8 + k]? = _
    have h8 : (encT t).length = 8 := rfl
    cases i with
    | zero => rw [List.getElem?_append_left (by omega)]; simp [encT]
    | succ i =>
      rw [List.getElem?_append_right (by omega), h8]
      have := ih i (by simpa using hi)
      rw [show (i + 1) * 8 + k - 8 = i * 8 + k by omega]
      simpa using this
/-- A row of terms as the sort sees it. -/
theorem holds_of_owns {w : World} {base g c n : Nat} {l : List STm} (h : w.ownsRow base 68 8 (.slice (some ⟨g, 0, none⟩) n c) n (flatT l)) (hn : n = l.length) : HoldsK encT 8 w g 0 l.toArray := by
  subst hn
  obtain ⟨h1, h2⟩ := h
  rcases h2 with ⟨h2, _⟩ | ⟨g', cap, cur, hv, hg, hb, hnc, hm, hsz, htk⟩
  · cases h2
  · simp only [Value.slice.injEq, Option.some.injEq, Addr.mk.injEq, and_true, true_and] at hv
    obtain ⟨rfl, rfl⟩ := hv
    intro j hj
    rw [size_flatK] at hj
    simp only [List.size_toArray] at hj
    refine ⟨?_, ?_⟩
    · have e1 : j / 8 < l.length := by omega
      have e2 := flatT_get l (j / 8) (j % 8) e1 (by omega)
      rw [show j / 8 * 8 + j % 8 = j by omega] at e2
      have e3 : (flatT l)[j]? = cur[j]? := by
        rw [← htk, List.getElem?_take, if_pos (by omega)]
        simp
      rw [get_flatK _ _ _ _ (by simpa using hj)]
      have e4 : w.cell? ⟨g, 0 + j, none⟩ = cur[j]? := by
        unfold World.cell?
        simp [hb]
      rw [e4, ← e3, e2]
      have e5 : (l.toArray)[j / 8]! = l[j / 8] := by rw [getElem!_pos _ _ (by simpa using e1)]; simp
      rw [e5]
      have e6 : j % 8 < (encT l[j / 8]).length := by show j % 8 < 8; omega
      rw [id, getElem!_pos (encT l[j / 8]) (j % 8) e6]
      exact List.getElem?_eq_getElem (l := encT l[j / 8]) e6
    · unfold World.frozen?
      simp [hb]
theorem tmAt_of_holds {w : World} {g : Nat} {d : Array STm} (h : HoldsK encT 8 w g 0 d) {i : Nat} (hi : i < d.size) : TmAt w g (0 + i * 8) (d[i]!).1 := by
  have key : ∀ k, k < 8 → w.cell? ⟨g, 0 + i * 8 + k, none⟩ = some (((d[i]!).1.cells)[k]!) := fun k hk => by
    have h1 := (h (i * 8 + k) (by rw [size_flatK]; omega)).1
    rw [get_flatK _ _ _ _ (by omega)] at h1
    rw [show (i * 8 + k) / 8 = i by omega, show (i * 8 + k) % 8 = k by omega] at h1
    rw [Nat.add_assoc]
    exact h1
  exact ⟨key 0 (by omega), key 1 (by omega), key 2 (by omega), key 3 (by omega), key 4 (by omega), key 5 (by omega), key 6 (by omega), key 7 (by omega)⟩
theorem key4_split (k : Nat) (h : k < 18446744073709551616) : k / 281474976710656 < 65536 ∧ k / 4294967296 % 65536 < 65536 ∧ k / 65536 % 65536 < 65536 ∧ k % 65536 < 65536 ∧ key4 (k / 281474976710656) (k / 4294967296 % 65536) (k / 65536 % 65536) (k % 65536) = k := by
  unfold key4; omega
end Go.Proofs.YtdamegaedmckbaaGreatDoor
end
