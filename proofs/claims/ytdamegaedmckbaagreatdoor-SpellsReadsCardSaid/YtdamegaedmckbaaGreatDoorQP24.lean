/- The order of products once more: what the walk draws is told too. No condition. -/
import Derived.Test.YtdamegaedmckbaaGreatDoorQP23
set_option linter.unusedSimpArgs false
set_option linter.unusedVariables false
set_option maxRecDepth 100000
set_option maxHeartbeats 4000000
section
namespace Go.Proofs.YtdamegaedmckbaaGreatDoor
open Go.RowKit
theorem Zt (w : World) :
  Calls Tryz.prog 213 #[] w fun e w' => (∃ B es clock, e = .returned (.map (some B)) ∧ w'.heap[B]? = some (.map es clock) ∧ Instr.findNow (.int .u8) (.int .u8 0) es.toList 0 = some none) ∧ Below w.heap.size w w' ∧ w.drawn ≤ w'.drawn := by
 have hmm := @run_makeMap Tryz.prog
 have hb1 : ((w.alloc (.map #[] 0)).alloc (.cells #[.func (.func 260) #[] #[], .func (.func 214) #[] #[]] 102)).heap[w.heap.size]? = some (.map #[] 0) := by
  rw [Below.heap_alloc _ _ _ qH]; exact World.alloc_heap_new w _
 have q1 := dC _ _ _ _ 1 (.slice (some ⟨w.heap.size + 1, 0, none⟩) 2 2) hb1 rfl
 have HB1 : Below w.heap.size w ((w.alloc (.map #[] 0)).alloc (.cells #[.func (.func 260) #[] #[], .func (.func 214) #[] #[]] 102)) := by go_grown
 have hz1 : ((w.alloc (.map #[] 0)).alloc (.cells #[.func (.func 260) #[] #[], .func (.func 214) #[] #[]] 102)).heap.size = w.heap.size + 2 := by simp
 have hb2 : ((((w.alloc (.map #[] 0)).alloc (.cells #[.func (.func 260) #[] #[], .func (.func 214) #[] #[]] 102)).putObj w.heap.size (.map #[{ key := .int .u8 1, val := .slice (some ⟨w.heap.size + 1, 0, none⟩) 2 2, born := 0 }] 1)).alloc (.cells #[.func (.func 260) #[] #[], .func (.func 261) #[] #[]] 102)).heap[w.heap.size]? = some (.map #[{ key := .int .u8 1, val := .slice (some ⟨w.heap.size + 1, 0, none⟩) 2 2, born := 0 }] 1) := by
  rw [Below.heap_alloc _ _ _ (by rw [Ff]; omega), World.putObj_heap_same qB]
 have q2 := dC _ _ _ _ 2 (.slice (some ⟨w.heap.size + 2, 0, none⟩) 2 2) hb2 rfl
 have HB2 : Below w.heap.size w ((((w.alloc (.map #[] 0)).alloc (.cells #[.func (.func 260) #[] #[], .func (.func 214) #[] #[]] 102)).putObj w.heap.size (.map #[{ key := .int .u8 1, val := .slice (some ⟨w.heap.size + 1, 0, none⟩) 2 2, born := 0 }] 1)).alloc (.cells #[.func (.func 260) #[] #[], .func (.func 261) #[] #[]] 102)) := Below.alloc (Jv _ HB1 (Ad _)) (by rw [Ff]; omega) _
 have hz2 : w.heap.size < ((((w.alloc (.map #[] 0)).alloc (.cells #[.func (.func 260) #[] #[], .func (.func 214) #[] #[]] 102)).putObj w.heap.size (.map #[{ key := .int .u8 1, val := .slice (some ⟨w.heap.size + 1, 0, none⟩) 2 2, born := 0 }] 1)).alloc (.cells #[.func (.func 260) #[] #[], .func (.func 261) #[] #[]] 102)).heap.size := by rw [Aj, Ff]; omega
 go_enter Tryz.func213, Tryz.ntmps213
 go_wp2_with fail
 go_ret
 exact ⟨⟨w.heap.size, _, _, rfl, World.putObj_heap_same hz2, rfl⟩, Jv _ HB2 (Ad _), Ad _⟩
theorem Xc (w : World) (x0 x1 x2 x3 y0 y1 y2 y3 : Int) (f g : Nat → Int) (f0 : f 0 = x0) (f1 : f 1 = x1) (f2 : f 2 = x2) (f3 : f 3 = x3) (g0 : g 0 = y0) (g1 : g 1 = y1) (g2 : g 2 = y2) (g3 : g 3 = y3) :
  Calls Tryz.prog 214 #[.agg #[.int .u16 x0, .int .u16 x1, .int .u16 x2, .int .u16 x3], .agg #[.int .u16 y0, .int .u16 y1, .int .u16 y2, .int .u16 y3]] w fun e w' => e = .returned (.int .i64 (Fk f g)) ∧ Below w.heap.size w w' ∧ w.drawn ≤ w'.drawn := by
 have HB := Ac w.heap.size w
 go_enter Tryz.func214, Tryz.ntmps214
 go_wp2_with fail
 have HF : Hid (∀ i, i < 4 → ((w.alloc (.cells #[.int .u16 x0, .int .u16 x1, .int .u16 x2, .int .u16 x3] 66)).alloc (.cells #[.int .u16 y0, .int .u16 y1, .int .u16 y2, .int .u16 y3] 66)).cell? ⟨w.heap.size, i, none⟩ = some (.int .u16 (f i))) := Ae (fun i hi => by
  match i, hi with
  | 0, _ => rw [f0]; simp [go_sem]
  | 1, _ => rw [f1]; simp [go_sem]
  | 2, _ => rw [f2]; simp [go_sem]
  | 3, _ => rw [f3]; simp [go_sem])
 have HG : Hid (∀ i, i < 4 → ((w.alloc (.cells #[.int .u16 x0, .int .u16 x1, .int .u16 x2, .int .u16 x3] 66)).alloc (.cells #[.int .u16 y0, .int .u16 y1, .int .u16 y2, .int .u16 y3] 66)).cell? ⟨w.heap.size + 1, i, none⟩ = some (.int .u16 (g i))) := Ae (fun i hi => by
  match i, hi with
  | 0, _ => rw [g0]; simp [go_sem]
  | 1, _ => rw [g1]; simp [go_sem]
  | 2, _ => rw [g2]; simp [go_sem]
  | 3, _ => rw [g3]; simp [go_sem])
 have HB2 : Below w.heap.size w ((w.alloc (.cells #[.int .u16 x0, .int .u16 x1, .int .u16 x2, .int .u16 x3] 66)).alloc (.cells #[.int .u16 y0, .int .u16 y1, .int .u16 y2, .int .u16 y3] 66)) := by go_grown
 clear f0 f1 f2 f3 g0 g1 g2 g3
 have HDr : w.drawn = ((w.alloc (.cells #[.int .u16 x0, .int .u16 x1, .int .u16 x2, .int .u16 x3] 66)).alloc (.cells #[.int .u16 y0, .int .u16 y1, .int .u16 y2, .int .u16 y3] 66)).drawn := rfl
 generalize ((w.alloc (.cells #[.int .u16 x0, .int .u16 x1, .int .u16 x2, .int .u16 x3] 66)).alloc (.cells #[.int .u16 y0, .int .u16 y1, .int .u16 y2, .int .u16 y3] 66)) = w1 at *
 go_quiet (((first | (go_at_call 262; exact In (Ii _ _ _ f g HF.out HG.out)) | (go_at_call 262; exact Ha (Ii _ _ _ f g HF.out HG.out)))))
 go_wp2_with fail
 go_ret
 exact ⟨rfl, Ay _ HB2, by rw [HDr]; exact Nat.le_add_right _ _⟩
theorem fT (w : World) (x0 x1 x2 x3 y0 y1 y2 y3 : Int) :
  Calls Tryz.prog 166 #[.int .u8 0, .agg #[.int .u16 x0, .int .u16 x1, .int .u16 x2, .int .u16 x3], .agg #[.int .u16 y0, .int .u16 y1, .int .u16 y2, .int .u16 y3]] w fun e w' => e = .returned (.int .i64 (Fk (Bw x0 x1 x2 x3) (Bw y0 y1 y2 y3))) ∧ Below w.heap.size w w' ∧ w.drawn ≤ w'.drawn := by
 have HB := Ac w.heap.size w
 go_enter Tryz.func166, Tryz.ntmps166
 go_wp2_with fail
 refine (Zt _).mono ?_
 rintro e w1 ⟨⟨B, es, clock, rfl, hes, hfn⟩, hb, hdr⟩
 replace hdr : w.drawn ≤ w1.drawn := hdr
 obtain ⟨hc, hf⟩ := Ax hb; have hz := hb.size; (try simp only [Aj, Ak] at hz)
 replace HB := zD w hb
 have s0 : ∀ i, i < 4 → w1.cell? ⟨w.heap.size, i, none⟩ = some (.int .u16 (Bw x0 x1 x2 x3 i)) := fun i hi => (hc _ _ qA).trans (by
  match i, hi with
  | 0, _ => simp [go_sem, Bw]
  | 1, _ => simp [go_sem, Bw]
  | 2, _ => simp [go_sem, Bw]
  | 3, _ => simp [go_sem, Bw])
 have s1 : ∀ i, i < 4 → w1.cell? ⟨w.heap.size + 1, i, none⟩ = some (.int .u16 (Bw y0 y1 y2 y3 i)) := fun i hi => (hc _ _ qA).trans (by
  match i, hi with
  | 0, _ => simp [go_sem, Bw]
  | 1, _ => simp [go_sem, Bw]
  | 2, _ => simp [go_sem, Bw]
  | 3, _ => simp [go_sem, Bw])
 have s00 := s0 0 qB; have s01 := s0 1 qB; have s02 := s0 2 qB; have s03 := s0 3 qB
 have s10 := s1 0 qB; have s11 := s1 1 qB; have s12 := s1 2 qB; have s13 := s1 3 qB
 simp only [Bw] at s00 s01 s02 s03 s10 s11 s12 s13
 have q1 := eF w1 B clock es 0 hes hfn
 clear s0 s1 hc hf hes hfn
 go_wp2_with fail
 go_loop [14] (fun v => v = .int .i64 0) (fun _ => 0)
 case atStart => rfl
 case round =>
  subst hrel
  go_wp2_with fail
  refine (Xc _ _ _ _ _ _ _ _ _ (Bw x0 x1 x2 x3) (Bw y0 y1 y2 y3) rfl rfl rfl rfl rfl rfl rfl rfl).mono ?_
  rintro e w2 ⟨rfl, hb2, hdr2⟩
  replace hdr2 := Ah hdr hdr2
  go_wp2_with fail
  go_ret
  exact ⟨rfl, HB.trans (hb2.mono HB.size), hdr2⟩
theorem bL (w : World) (x0 x1 x2 x3 y0 y1 y2 y3 : Int) :
  Calls Tryz.prog 94 #[.agg #[.int .u16 x0, .int .u16 x1, .int .u16 x2, .int .u16 x3], .agg #[.int .u16 y0, .int .u16 y1, .int .u16 y2, .int .u16 y3]] w fun e w' => e = .returned (.int .i64 (Fk (Bw y0 y1 y2 y3) (Bw x0 x1 x2 x3))) ∧ Below w.heap.size w w' ∧ w.drawn ≤ w'.drawn := by
 have HB := Ac w.heap.size w
 go_enter Tryz.func94, Tryz.ntmps94
 go_wp2_with fail
 refine (fT _ _ _ _ _ _ _ _ _).mono ?_
 rintro e w1 ⟨rfl, hb, hdr⟩
 replace hdr : w.drawn ≤ w1.drawn := hdr
 have HB2 := zD w hb
 go_wp2_with fail
 go_ret
 exact ⟨rfl, HB2, hdr⟩
end Go.Proofs.YtdamegaedmckbaaGreatDoor
end
section
namespace Go.Proofs.YtdamegaedmckbaaGreatDoor
open Go.RowKit Go.Lib Go.Sort
def STm : Type := { t : Tm // t.m0 < 65536 ∧ t.m1 < 65536 ∧ t.m2 < 65536 ∧ t.m3 < 65536 }
instance : Inhabited STm := ⟨⟨⟨false, none, 0, 0, [], false, none, 0, 0, [], 0, 0, 0, 0⟩, by decide⟩⟩
def STm.key (t : STm) : Nat := Dh t.1.m0 t.1.m1 t.1.m2 t.1.m3
def Gx (t : STm) : List Value := t.1.cells
def cfT (s t : STm) : Int := Br (t.key : Int) (s.key : Int)
theorem ltT (s t : STm) : ltOf cfT s t = decide (t.key < s.key) := by
 unfold ltOf cfT
 rw [Ox]
 by_cases h : t.key < s.key
 ·simp [h]
 ·by_cases h2 : t.key = s.key <;> simp [h, h2]
theorem gS : SWO (ltOf cfT) where
 irrefl x := by rw [ltT]; simp
 trans x y z h1 h2 := by rw [ltT] at *; simp at *; omega
 ntrans x y z h1 h2 := by rw [ltT] at *; simp at *; omega
theorem dR {w w' : World} (h : Below w.heap.size w w') (hd : w.drawn ≤ w'.drawn) : ∃ q os', w' = grow (w.drewN q) os' := by
 refine ⟨w'.drawn - w.drawn, w'.heap.extract w.heap.size w'.heap.size, ?_⟩
 obtain ⟨h1, h2, h3, h4, h5⟩ := h
 obtain ⟨hp, tp, dr, os, ou⟩ := w'
 simp only at h1 h2 h3 h4 h5 hd ⊢
 unfold grow World.drewN
 simp only [World.mk.injEq]
 refine ⟨?_, h2, by omega, h1, h3⟩
 apply Array.ext
 ·simp; omega
 ·intro i hi1 hi2
  rw [Array.getElem_append]
  split
  ·next hlt =>
   have := h5 i hlt
   rw [Array.getElem?_eq_getElem hi1, Array.getElem?_eq_getElem hlt] at this
   exact Option.some.inj this
  ·next hge =>
   simp only [Array.getElem_extract]
   congr 1
   omega
theorem Y8 (w : World) (s t : Tm) :
  Calls Tryz.prog 179 #[s.val, t.val] w fun e w' => e = .returned (.int .i64 (Fk (Bw t.m0 t.m1 t.m2 t.m3) (Bw s.m0 s.m1 s.m2 s.m3))) ∧ Below w.heap.size w w' ∧ w.drawn ≤ w'.drawn := by
 have HB := Ac w.heap.size w
 go_enter Tryz.func179, Tryz.ntmps179
 go_wp2_with fail
 refine (bL _ _ _ _ _ _ _ _ _).mono ?_
 rintro e w1 ⟨rfl, hb, hdr⟩
 have HB2 := zD w hb
 replace hdr : w.drawn ≤ w1.drawn := hdr
 go_wp2_with fail
 go_ret
 exact ⟨rfl, HB2, hdr⟩
theorem Z7 (blk off size : Nat) (w : World) : CmpLays Tryz.prog 179 #[] Gx 8 cfT blk off size w := by
 intro m os dk _ x y
 refine (Y8 _ x.1 y.1).mono ?_
 rintro e w' ⟨rfl, hb, hd⟩
 refine ⟨?_, dR hb hd⟩
 obtain ⟨x, hx⟩ := x
 obtain ⟨y, hy⟩ := y
 unfold cfT STm.key
 rw [Oa hy.1 hy.2.1 hy.2.2.1 hy.2.2.2 hx.1 hx.2.1 hx.2.2.1 hx.2.2.2]
theorem fW (blk off cap : Nat) (d : Array STm) (w : World) (hH : HoldsK Gx 8 w blk off d) (hblk : blk < w.heap.size) (hsz : d.size < 4611686018427387904) :
  Calls Tryz.prog 178 #[.slice (some ⟨blk, off, none⟩) d.size cap, .func (.func 179) #[] #[]] w fun e w' =>
   e = .returned (.tuple #[]) ∧ ∃ d' n os, PermIn 0 d.size d d' ∧ SortedIn (ltOf cfT) 0 d.size d' ∧ w' = sortWorldK Gx 8 w blk off n d' os := by
 have eg : ∀ args w, (callFunc 179 args).run Tryz.prog w = .ok (.enter 179 args) w := enters_of Tryz.func179 qG rfl
 have hlim : Lib.bitLen d.size < 4611686018427387904 := Nat.lt_of_le_of_lt (Lib.bitLen_le d.size 62 qB qB) qB
 have hk : ∀ x : STm, (Gx x).length = 8 := fun _ => rfl
 have h1 : ∀ x : STm, ∀ v ∈ Gx x, v.oneCell' = true := fun x v hv => by
  simp [Gx, Tm.cells] at hv
  rcases hv with rfl | rfl | rfl | rfl | rfl | rfl | rfl | rfl <;> rfl
 have hp := AnyQ.pdqsortCmpFunc_all Tryz.laysPdq228 8 (fun w => by first | exact Tryz.isAgg68 w | kernel_rfl) (fun w => by first | exact Tryz.sizeOf68 w | kernel_rfl) Gx cfT 179 #[] gS blk off cap d w eg (Z7 blk off d.size w) ⟨hk, h1, hH, hblk⟩ (d.size + 1) 0 d.size (Lib.bitLen d.size) d w qB rfl (SWK.start hH) (Nat.zero_le _) (Ad _) hsz hlim (Or.inl rfl)
 change Calls Tryz.prog 228 _ _ _ at hp
 have hl : Calls Tryz.prog 229 #[.int .u64 (d.size : Int)] w fun e w' => e = .returned (.int .i64 (Lib.bitLen d.size : Nat)) ∧ w' = w := by
  have h := Tryz.bits_Len (d.size : Int) w qB qB
  rwa [Int.toNat_natCast] at h
 have wr : IntKind.u64.wrap (d.size : Int) = d.size := by simp [IntKind.wrap, IntKind.bits, IntKind.signed]; omega
 have hsort := pdq_sorts (ltOf cfT) gS d 0 d.size (Lib.bitLen d.size) true true (Nat.zero_le _) (Ad _) (Or.inl rfl)
 generalize pdq (ltOf cfT) d 0 d.size (Lib.bitLen d.size) true true = d' at *
 clear hH hblk hlim hk h1 eg
 go_enter Tryz.func178, Tryz.ntmps178
 go_wp2_with (first | (go_at_call 229; refine hl.mono ?_; rintro e w' ⟨rfl, rfl⟩) | (go_at_call 228; refine hp.mono ?_; rintro e w' ⟨rfl, n, os, rfl⟩))
 exact bodyPost_end (v := .tuple #[]) (by simp [results, Tryz.results178, go_sem]) rfl ⟨rfl, d', n, os, hsort.1, hsort.2, rfl⟩
theorem Xw (p : Option Addr) (cap : Nat) (w : World) : Calls Tryz.prog 178 #[.slice p 0 cap, .func (.func 179) #[] #[]] w fun e w' => e = .returned (.tuple #[]) ∧ w' = w := by
 have hp := fun lim W => AnyF.pdqsortCmpFunc_none Tryz.laysPdq228 p cap lim (.func (.func 179) #[] #[]) W
 have hp' : ∀ lim W, Calls Tryz.prog 228 #[.slice p 0 cap, .int .i64 0, .int .i64 0, .int .i64 lim, .func (.func 179) #[] #[]] W fun e w' => e = .returned (.tuple #[]) ∧ w' = W := hp
 have hl : ∀ W, Calls Tryz.prog 229 #[.int .u64 0] W fun e w' => e = .returned (.int .i64 (Lib.bitLen 0 : Nat)) ∧ w' = W := fun W => Tryz.bits_Len 0 W qB qB
 clear hp
 go_enter Tryz.func178, Tryz.ntmps178
 go_wp2_with (first | (go_at_call 229; refine (hl _).mono ?_; rintro e w' ⟨rfl, rfl⟩) | (go_at_call 228; refine (hp' _ _).mono ?_; rintro e w' ⟨rfl, rfl⟩))
 exact bodyPost_end (v := .tuple #[]) (by simp [results, Tryz.results178, go_sem]) rfl ⟨rfl, rfl⟩
def K3 (l : List STm) : List Value := l.flatMap Gx
theorem V1 (l : List STm) (t : STm) : K3 (l ++ [t]) = K3 l ++ t.1.cells := by simp [K3, Gx]
theorem Wx (l : List STm) (i k : Nat) (hi : i < l.length) (hk : k < 8) : (K3 l)[i * 8 + k]? = (l[i].1.cells)[k]? := by
 induction l generalizing i with
 | nil => simp at hi
 | cons t l ih =>
  show (Gx t ++ K3 l)[i * 8 + k]? = _
  have h8 : (Gx t).length = 8 := rfl
  cases i with
  | zero => rw [List.getElem?_append_left qB]; simp [Gx]
  | succ i =>
   rw [List.getElem?_append_right qB, h8]
   have := ih i (by simpa using hi)
   rw [show (i + 1) * 8 + k - 8 = i * 8 + k by omega]
   simpa using this
theorem Kd {w : World} {base g c n : Nat} {l : List STm} (h : w.ownsRow base 68 8 (.slice (some ⟨g, 0, none⟩) n c) n (K3 l)) (hn : n = l.length) : HoldsK Gx 8 w g 0 l.toArray := by
 subst hn
 obtain ⟨h1, h2⟩ := h
 rcases h2 with ⟨h2, _⟩ | ⟨g', cap, cur, hv, hg, hb, hnc, hm, hsz, htk⟩
 ·cases h2
 ·simp only [Value.slice.injEq, Option.some.injEq, Addr.mk.injEq, and_true, true_and] at hv
  obtain ⟨rfl, rfl⟩ := hv
  intro j hj
  rw [size_flatK] at hj
  simp only [List.size_toArray] at hj
  refine ⟨?_, ?_⟩
  ·have e1 : j / 8 < l.length := by omega
   have e2 := Wx l (j / 8) (j % 8) e1 qB
   rw [show j / 8 * 8 + j % 8 = j by omega] at e2
   have e3 : (K3 l)[j]? = cur[j]? := by
    rw [← htk, List.getElem?_take, if_pos qB]
    simp
   rw [get_flatK _ _ _ _ (by simpa using hj)]
   have e4 : w.cell? ⟨g, 0 + j, none⟩ = cur[j]? := by
    unfold World.cell?
    simp [hb]
   rw [e4, ← e3, e2]
   have e5 : (l.toArray)[j / 8]! = l[j / 8] := by rw [getElem!_pos _ _ (by simpa using e1)]; simp
   rw [e5]
   have e6 : j % 8 < (Gx l[j / 8]).length := by show j % 8 < 8; omega
   rw [id, getElem!_pos (Gx l[j / 8]) (j % 8) e6]
   exact Ai (l := Gx l[j / 8]) e6
  ·unfold World.frozen?
   simp [hb]
theorem Ol {w : World} {g : Nat} {d : Array STm} (h : HoldsK Gx 8 w g 0 d) {i : Nat} (hi : i < d.size) : H7 w g (0 + i * 8) (d[i]!).1 := by
 have key : ∀ k, k < 8 → w.cell? ⟨g, 0 + i * 8 + k, none⟩ = some (((d[i]!).1.cells)[k]!) := fun k hk => by
  have h1 := (h (i * 8 + k) (by rw [size_flatK]; omega)).1
  rw [get_flatK _ _ _ _ qB] at h1
  rw [show (i * 8 + k) / 8 = i by omega, show (i * 8 + k) % 8 = k by omega] at h1
  rw [Nat.add_assoc]
  exact h1
 exact ⟨key 0 qB, key 1 qB, key 2 qB, key 3 qB, key 4 qB, key 5 qB, key 6 qB, key 7 qB⟩
theorem Uh (k : Nat) (h : k < 18446744073709551616) : k / 281474976710656 < 65536 ∧ k / 4294967296 % 65536 < 65536 ∧ k / 65536 % 65536 < 65536 ∧ k % 65536 < 65536 ∧ Dh (k / 281474976710656) (k / 4294967296 % 65536) (k / 65536 % 65536) (k % 65536) = k := by
 unfold Dh; omega
theorem Mp (w : World) (blk off n : Nat) (d : Array STm) (os : Array Obj) (hblk : blk < w.heap.size) : RowKit.Below blk w (sortWorldK Gx 8 w blk off n d os) := by
 refine ⟨rfl, rfl, rfl, size_sortWorldK_c _ _ _ _ _ _ _ _, fun k hk => ?_⟩
 unfold sortWorldK putRowK putRow grow mapBlock
 have h : k < w.heap.size := by omega
 have hne : blk ≠ k := by omega
 simp [Array.getElem?_append, h, ahead]
 rw [Array.getElem_modify_of_ne hne]
theorem Vd {w : World} {B : Nat} {o : Nat → Nat} {D : DataW Value} {f : Nat → Option PC} (hH : Gt w B o D f) {key v : Value} {kl : Lit} {y : DataW Value × List MemPlace} (hkey : keyOf Tryz.prog 66 key = some kl) (hat : ∀ zd, D.atKey kl zd = y.1) (hR : RH v = some y) :
  ∃ (q0 q1 q2 q3 : Nat) (x : PC), f (Dh q0 q1 q2 q3) = some x ∧ q0 < 65536 ∧ q1 < 65536 ∧ q2 < 65536 ∧ q3 < 65536 ∧ key = Hj q0 q1 q2 q3 ∧ Q8 w B o (Dh q0 q1 q2 q3) v x := by
 obtain ⟨q0, q1, q2, q3, h0, h1, h2, h3, rfl⟩ := dP hkey
 have hhas := Maps.has_true_of_atKey hat
 obtain ⟨e1, e2⟩ := hH q0 q1 q2 q3 kl h0 h1 h2 h3 hkey
 cases hf : f (Dh q0 q1 q2 q3) with
 | none => rw [e1 hf] at hhas; cases hhas
 | some x =>
  obtain ⟨_, u, hu, hfr⟩ := e2 x hf
  simp only [RH, Option.some.injEq] at hR
  subst hR
  have := hu (.held v)
  rw [hat] at this
  simp only [DataW.held.injEq] at this
  subst this
  exact ⟨q0, q1, q2, q3, x, hf, h0, h1, h2, h3, rfl, hfr⟩
theorem aJ {w : World} {N : Nat} {e : TypeId} {size : Nat} {v : Value} {n : Nat} {xs : List Value} (h : w.ownsRow (N + 1) e size v n xs) : v.ownBlock = none ∨ v.ownBlock ≠ some N := by
 rcases h.2 with ⟨rfl, _⟩ | ⟨g, cap, cur, rfl, hg, _⟩
 ·exact .inl rfl
 ·right
  intro e
  simp only [Value.ownBlock, Option.some.injEq] at e
  omega
def STm.of (t : Tm) (h0 : t.m0 < 65536) (h1 : t.m1 < 65536) (h2 : t.m2 < 65536) (h3 : t.m3 < 65536) : STm := ⟨t, h0, h1, h2, h3⟩
theorem bB {w : World} {b n : Nat} {D : DataW Value} (h : w.ownsMap Tryz.prog 66 RH b n D) : Maps.size D ≤ n := by
 obtain ⟨es, clock, hb, F, hs, rfl⟩ := h
 simpa [Maps.size, length_sorted] using hs
theorem Eu {w : World} {N : Nat} {e : TypeId} {size : Nat} {v : Value} {n : Nat} {xs : List Value} (h : w.ownsRow N e size v n xs) : ∀ k, v.ownBlock = some k → N ≤ k := by
 exact qDy
theorem Y5 {v : Value} {N k : Nat} (h : ∀ j, v.ownBlock = some j → N ≤ j) (hk : k < N) : some k ≠ v.ownBlock := fun e => by have := h k e.symm; omega
structure Nl (w : World) (B : Nat) (o : Nat → Nat) (f : Nat → Option PC) (left : Lit → Bool) (out : List STm) : Prop where
 mem : ∀ t ∈ out, ∃ x, f t.key = some x ∧ x.1 ≠ 0 ∧ Iv t.1 (t.key, x) ∧ Gy w t.1 ∧ Mq w B o t.key t.1.a1 t.1.c1 t.1.a2 t.1.c2 ∧ ∀ kl, keyOf Tryz.prog 66 (Hj t.1.m0 t.1.m1 t.1.m2 t.1.m3) = some kl → left kl = false
 all : ∀ a b c d kl x, a < 65536 → b < 65536 → c < 65536 → d < 65536 → keyOf Tryz.prog 66 (Hj a b c d) = some kl → f (Dh a b c d) = some x → x.1 ≠ 0 → left kl = false → ∃ t ∈ out, t.key = Dh a b c d
 apart : out.Pairwise (fun s t => s.key ≠ t.key)
theorem Nl.start {w : World} {B : Nat} {o : Nat → Nat} {D : DataW Value} {f : Nat → Option PC} (hH : Gt w B o D f) : Nl w B o f (Maps.has D) [] :=
 ⟨by simp, fun a b c d kl x ha hb hc hd hk hf _ hl => (by rw [((hH a b c d kl ha hb hc hd hk).2 x hf).1] at hl; cases hl), by simp⟩
theorem Pp {left : Lit → Bool} {kl kl' : Lit} (h : left kl' = false) : (left kl' && !kl'.sameKey kl) = false := by rw [h]; rfl
theorem Nl.pass {w : World} {B : Nat} {o : Nat → Nat} {f : Nat → Option PC} {left : Lit → Bool} {out : List STm} (h : Nl w B o f left out) {q0 q1 q2 q3 : Nat} {kl : Lit} {x : PC} (h0 : q0 < 65536) (h1 : q1 < 65536) (h2 : q2 < 65536) (h3 : q3 < 65536)
  (hk : keyOf Tryz.prog 66 (Hj q0 q1 q2 q3) = some kl) (hf : f (Dh q0 q1 q2 q3) = some x) (hx : x.1 = 0) : Nl w B o f (fun z => left z && !z.sameKey kl) out := by
 refine ⟨fun t ht => ?_, fun a b c d kl' x' ha hb hc hd hk' hf' hx' hl => ?_, h.apart⟩
 ·obtain ⟨y, g1, g2, g3, g4, g5, g7⟩ := h.mem t ht
  exact ⟨y, g1, g2, g3, g4, g5, fun kl' hkl' => Pp (g7 kl' hkl')⟩
 ·by_cases e : left kl' = false
  ·exact h.all a b c d kl' x' ha hb hc hd hk' hf' hx' e
  ·have e1 : left kl' = true := by simpa using e
   rw [e1] at hl
   have e2 : kl'.sameKey kl = true := by simpa using hl
   have e3 := WideAt.sameKey_eq e2
   have e4 := (Qq ha hb hc hd h0 h1 h2 h3 hk' hk).1 e3
   rw [e4, hf] at hf'
   cases hf'
   exact absurd hx hx'
theorem Nl.more {w : World} {B : Nat} {o : Nat → Nat} {f : Nat → Option PC} {left : Lit → Bool} {out : List STm} (h : Nl w B o f left out) {t : STm} {kl : Lit} {x : PC}
  (hk : keyOf Tryz.prog 66 (Hj t.1.m0 t.1.m1 t.1.m2 t.1.m3) = some kl) (hl : left kl = true) (hf : f t.key = some x) (hx : x.1 ≠ 0) (ht : Iv t.1 (t.key, x)) (hr : Gy w t.1) (k1 : Mq w B o t.key t.1.a1 t.1.c1 t.1.a2 t.1.c2) :
  Nl w B o f (fun z => left z && !z.sameKey kl) (out ++ [t]) := by
 have hkk := Gz.key hk
 refine ⟨fun s hs => ?_, fun a b c d kl' x' ha hb hc hd hk' hf' hx' hl' => ?_, ?_⟩
 ·rcases List.mem_append.1 hs with hs | hs
  ·obtain ⟨y, g1, g2, g3, g4, g5, g7⟩ := h.mem s hs
   exact ⟨y, g1, g2, g3, g4, g5, fun kl' hkl' => Pp (g7 kl' hkl')⟩
  ·simp only [Ao] at hs
   subst hs
   refine ⟨x, hf, hx, ht, hr, k1, fun kl' hkl' => ?_⟩
   rw [hk] at hkl'
   cases hkl'
   rw [WideAt.sameKey_self hkk]
   simp
 ·by_cases e : left kl' = false
  ·obtain ⟨s, hs, hsk⟩ := h.all a b c d kl' x' ha hb hc hd hk' hf' hx' e
   exact ⟨s, by simp [hs], hsk⟩
  ·have e1 : left kl' = true := by simpa using e
   rw [e1] at hl'
   have e2 : kl'.sameKey kl = true := by simpa using hl'
   have e3 := WideAt.sameKey_eq e2
   have e4 := (Qq ha hb hc hd t.2.1 t.2.2.1 t.2.2.2.1 t.2.2.2.2 hk' hk).1 e3
   exact ⟨t, by simp, e4.symm⟩
 ·refine List.pairwise_append.2 ⟨h.apart, by simp, fun s hs u hu => ?_⟩
  simp only [Ao] at hu
  subst hu
  obtain ⟨y, _, _, _, _, _, g7⟩ := h.mem s hs
  intro e
  obtain ⟨kl', hkl'⟩ := Ql s.2.1 s.2.2.1 s.2.2.2.1 s.2.2.2.2
  have := (Qq s.2.1 s.2.2.1 s.2.2.2.1 s.2.2.2.2 u.2.1 u.2.2.1 u.2.2.2.1 u.2.2.2.2 hkl' hk).2 e
  subst this
  rw [g7 _ hkl'] at hl
  cases hl
structure Cb (w : World) (B : Nat) (a : Option Addr) (n c : Nat) : Prop where
 row : c = 0 ∨ ∃ b cur, a = some ⟨b, 0, none⟩ ∧ B ≤ b ∧ w.heap[b]? = some (.cells cur 68 (0, 0)) ∧ c * 8 ≤ cur.size
 ts : ∃ (p : Nat → Tm) (o t : Nat → Nat), RdP w a n c p ∧ (∀ i j, i < n → j < n → t i = t j → i = j) ∧ ∀ i, i < n → Mq w B o (t i) (p i).a1 (p i).c1 (p i).a2 (p i).c2
theorem Mq.mono {w : World} {B B' : Nat} {o : Nat → Nat} {k : Nat} {a1 : Option Addr} {c1 : Nat} {a2 : Option Addr} {c2 : Nat} (h : Mq w B o k a1 c1 a2 c2) (hB : B' ≤ B) : Mq w B' o k a1 c1 a2 c2 := ⟨h.top.mono hB, h.low.mono hB, h.ap, h.m1, h.m2⟩
theorem Cb.mono {w : World} {B B' : Nat} {a : Option Addr} {n c : Nat} (h : Cb w B a n c) (hB : B' ≤ B) : Cb w B' a n c := by
 obtain ⟨p, o, t, h1, h2, h3⟩ := h.ts
 exact ⟨h.row.imp id fun ⟨b, cur, e1, e2, e3⟩ => ⟨b, cur, e1, Ah hB e2, e3⟩, p, o, t, h1, h2, fun i hi => (h3 i hi).mono hB⟩
theorem Cb.keep {w w' : World} {B : Nat} {a : Option Addr} {n c : Nat} (h : Cb w B a n c) (hb : RowKit.Below w.heap.size w w') : Cb w' B a n c := by
 obtain ⟨p, o, t, h1, h2, h3⟩ := h.ts
 exact ⟨h.row.imp id fun ⟨b, cur, e1, e2, e3, e4⟩ => ⟨b, cur, e1, e2, by rw [hb.block b (Ar.1 e3).1]; exact e3, e4⟩, p, o, t, h1.keep hb, h2, fun i hi => (h3 i hi).butR (Cj hb) qH⟩
theorem RdP.butR {w w' : World} {B n c : Nat} {a : Option Addr} {p : Nat → Tm} {row : Option Nat} (h : RdP w a n c p) (hn : Nw B n a) (hp : ∀ i, i < n → Nw B (p i).n1 (p i).a1 ∧ Nw B (p i).n2 (p i).a2) (hg : w.grownBy w' row) (hr : ∀ k, row = some k → k < B) : RdP w' a n c p := by
 refine ⟨h.cap, h.few, h.top, fun i hi => ?_, ?_⟩
 ·have ht := h.tm i hi
  exact ⟨ht.top.butR (hp i hi).1 hg hr, ht.low.butR (hp i hi).2 hg hr, ht.s0, ht.s1, ht.s2, ht.s3⟩
 ·rcases h.cell with h0 | ⟨b, o, ha, hc⟩
  ·exact .inl h0
  ·rcases hn with h0 | hn
   ·exact .inl h0
   ·exact qEe
theorem Cb.butR {w w' : World} {B : Nat} {a : Option Addr} {n c : Nat} {row : Option Nat} (h : Cb w B a n c) (hg : w.grownBy w' row) (hr : ∀ k, row = some k → k < B) : Cb w' B a n c := by
 obtain ⟨p, o, t, h1, h2, h3⟩ := h.ts
 refine ⟨h.row.imp id fun ⟨b, cur, e1, e2, e3, e4⟩ => ⟨b, cur, e1, e2, by rw [hg.block b (Ar.1 e3).1 (fun e => by have := hr _ e.symm; omega)]; exact e3, e4⟩, p, o, t, h1.butR ?_ (fun i hi => ⟨(h3 i hi).top.newA (h1.tm i hi).top, (h3 i hi).low.newA (h1.tm i hi).low⟩) hg hr, h2, fun i hi => (h3 i hi).butR hg hr⟩
 rcases h.row with h0 | ⟨b, cur, e1, e2, _⟩
 ·have := h1.cap; exact .inl qB
 ·exact .inr fun x hx => by rw [e1] at hx; cases hx; exact e2
theorem Cb.nil (w : World) (B : Nat) : Cb w B none 0 0 :=
 ⟨.inl rfl, fun _ => ⟨false, none, 0, 0, [], false, none, 0, 0, [], 0, 0, 0, 0⟩, id, id, ⟨Ad _, by omega, by omega, fun i hi => by omega, .inl rfl⟩, fun i j hi => by omega, fun i hi => by omega⟩
theorem Oq (w : World) (blk m : Nat) (d : Array STm) (os : Array Obj) {cur : Array Value} (h : w.heap[blk]? = some (.cells cur 68 (0, 0))) : ∃ cur', (sortWorldK Gx 8 w blk 0 m d os).heap[blk]? = some (.cells cur' 68 (0, 0)) ∧ cur'.size = cur.size := by
 obtain ⟨hlt, e⟩ := Ar.1 h
 refine ⟨putCells id 0 (flatK Gx 8 d) cur, ?_, by simp [putCells]⟩
 unfold sortWorldK putRowK putRow grow mapBlock
 rw [Array.getElem?_append_left (by simpa [ahead] using hlt)]
 show (Array.modify w.heap blk _)[blk]? = _
 rw [Array.getElem?_modify, if_pos rfl, h]
 rfl
def Ko (f : Nat → Option PC) (l : List STm) : List PT := l.map fun t => (t.key, (f t.key).getD (0, 1))
theorem O6 {w W : World} {B g c : Nat} {o : Nat → Nat} {f : Nat → Option PC} {left : Lit → Bool} {out : List STm} (hC : Nl w B o f left out) (hl : ∀ kl, left kl = false) (hf : ∀ k x, f k = some x → k < 18446744073709551616)
  {d' : Array STm} (hp : PermIn 0 out.toArray.size out.toArray d') (hs : SortedIn (ltOf cfT) 0 out.toArray.size d') (hH : HoldsK Gx 8 W g 0 d') (hb : RowKit.Below w.heap.size w W) (hBg : B ≤ g) (hc : out.length ≤ c) (hc1 : c ≤ 9223372036854775807) (hn : out.length ≤ 35184372088832) (hrow : c = 0 ∨ ∃ cur, W.heap[g]? = some (.cells cur 68 (0, 0)) ∧ c * 8 ≤ cur.size) :
  Bk W B (some ⟨g, 0, none⟩) out.length c (Ko f d'.toList) ∧ Cb W B (some ⟨g, 0, none⟩) out.length c ∧ Gb (Ko f d'.toList) ∧ ∀ t, t ∈ Ko f d'.toList ↔ f t.1 = some t.2 ∧ t.2.1 ≠ 0 := by
 have hsz : d'.size = out.length := by have := hp.1; simpa using this
 have hperm : d'.toList.Perm out := by
  have h := hp.2.2
  have e1 : d'.extract 0 out.toArray.size = d' := by
   apply Array.ext
   ·simp [hsz]
   ·intro i h1 h2; simp
  have e2 : out.toArray.extract 0 out.toArray.size = out.toArray := by
   apply Array.ext
   ·simp
   ·intro i h1 h2; simp
  rw [e1, e2] at h
  simpa using h
 have hmem : ∀ t, t ∈ d'.toList ↔ t ∈ out := fun t => hperm.mem_iff
 have hap : d'.toList.Pairwise (fun s t => s.key ≠ t.key) := (hperm.symm.pairwise_iff (fun {a b} (h : a.key ≠ b.key) => h.symm)).1 hC.apart
 have hget : ∀ i (h : i < d'.size), d'[i]! = d'[i] := fun i h => getElem!_pos d' i h
 have hval : ∀ t ∈ out, ∃ x, f t.key = some x ∧ (f t.key).getD (0, 1) = x ∧ x.1 ≠ 0 ∧ Iv t.1 (t.key, x) ∧ Gy w t.1 ∧ Mq w B o t.key t.1.a1 t.1.c1 t.1.a2 t.1.c2 := fun t ht => by
  obtain ⟨x, h1, h2, h3, h4, h5, _⟩ := hC.mem t ht
  exact ⟨x, h1, by rw [h1]; rfl, h2, h3, h4, h5⟩
 have hRd : RdP W (some ⟨g, 0, none⟩) out.length c (fun i => (d'[i]!).1) := by
  refine ⟨hc, hn, hc1, fun i hi => ?_, .inr ⟨g, 0, rfl, fun i hi => Ol hH qB⟩⟩
  have hi' : i < d'.size := by omega
  show Gy W (d'[i]!).1
  rw [hget i hi']
  obtain ⟨x, _, _, _, _, h4, _⟩ := hval d'[i] ((hmem _).1 qH)
  exact h4.keep hb
 refine ⟨⟨by simp [Ko, hsz], .inr (fun x hx => by cases hx; exact hBg), fun h => (by cases h), fun i => (d'[i]!).1, hRd, fun i x hx => ?_⟩, ⟨hrow.imp id fun ⟨cur, h1, h2⟩ => ⟨g, cur, rfl, hBg, h1, h2⟩, fun i => (d'[i]!).1, o, fun i => (d'[i]!).key, hRd, fun i j hi hj hij => ?_, fun i hi => ?_⟩, ?_, fun t => ?_⟩
 ·simp only [Ko, List.getElem?_map] at hx
  cases he : d'.toList[i]? with
  | none => rw [he] at hx; cases hx
  | some s =>
   rw [he] at hx
   have hi' : i < d'.size := by
    have := (List.getElem?_eq_some_iff.1 he).1
    simpa using this
   have es : d'[i]! = s := by
    rw [hget i hi']
    obtain ⟨_, e⟩ := List.getElem?_eq_some_iff.1 he
    simpa using e
   obtain ⟨y, h1, h2, h3, h4, h5, h6⟩ := hval s ((hmem s).1 (List.mem_of_getElem? he))
   show Iv (d'[i]!).1 x ∧ Nw B (d'[i]!).1.n1 (d'[i]!).1.a1 ∧ Nw B (d'[i]!).1.n2 (d'[i]!).1.a2
   rw [es]
   simp only [Option.map_some, Option.some.injEq] at hx
   rw [h2] at hx
   subst hx
   exact ⟨h4, h6.top.newA h5.top, h6.low.newA h5.low⟩
 ·have hi' : i < d'.size := by omega
  have hj' : j < d'.size := by omega
  replace hij : (d'[i]!).key = (d'[j]!).key := hij
  rw [hget i hi', hget j hj'] at hij
  have h2 := List.pairwise_iff_getElem.1 hap
  rcases Nat.lt_trichotomy i j with h | h | h
  ·exact absurd (by rw [Array.getElem_toList, Array.getElem_toList]; exact hij) (h2 i j _ _ h)
  ·exact h
  ·exact absurd (by rw [Array.getElem_toList, Array.getElem_toList]; exact hij.symm) (h2 j i _ _ h)
 ·have hi' : i < d'.size := by omega
  show Mq W B o (d'[i]!).key (d'[i]!).1.a1 (d'[i]!).1.c1 (d'[i]!).1.a2 (d'[i]!).1.c2
  rw [hget i hi']
  obtain ⟨x, _, _, _, _, _, h5⟩ := hval d'[i] ((hmem _).1 qH)
  exact h5.butR (Cj hb) qH
 ·unfold Gb Ko
  rw [List.pairwise_map, List.pairwise_iff_getElem]
  intro i j hi hj hij
  have hi' : i < d'.size := by simpa using hi
  have hj' : j < d'.size := by simpa using hj
  have h1 := hs i j (Nat.zero_le _) hij qL
  rw [ltT, hget i hi', hget j hj', decide_eq_false_iff_not] at h1
  have h2 := List.pairwise_iff_getElem.1 hap i j hi hj hij
  simp only [Array.getElem_toList] at h2 ⊢
  omega
 ·unfold Ko
  rw [List.mem_map]
  constructor
  ·rintro ⟨s, hs', rfl⟩
   obtain ⟨y, h1, h2, h3, _⟩ := hval s ((hmem s).1 hs')
   rw [h2]
   exact ⟨h1, h3⟩
  ·rintro ⟨h1, h2⟩
   obtain ⟨k, x⟩ := t
   obtain ⟨q0, q1, q2, q3, hq⟩ := Uh k (hf k x h1)
   obtain ⟨kl, hkl⟩ := Ql q0 q1 q2 q3
   obtain ⟨s, hs', hsk⟩ := hC.all _ _ _ _ kl x q0 q1 q2 q3 hkl (by rw [hq]; exact h1) h2 (hl kl)
   rw [hq] at hsk
   refine ⟨s, (hmem s).2 hs', ?_⟩
   have h1' : f k = some x := h1
   rw [hsk, h1']
   rfl
theorem gN (w : World) (b n B : Nat) (f : Nat → Option PC) (h : Gv w b n B f) (hn : n ≤ 1000000) (hBw : B ≤ w.heap.size) (hK : ∀ k x, f k = some x → k < 18446744073709551616 ∧ Cv 1000000 x) :
  Calls Tryz.prog 111 #[.map (some b)] w fun e w' => ∃ a n' c, ∃ l : List PT, e = .returned (.slice a n' c) ∧ Bk w' B a n' c l ∧ Cb w' B a n' c ∧ Gb l ∧ (∀ t, t ∈ l ↔ f t.1 = some t.2 ∧ t.2.1 ≠ 0) ∧ RowKit.Below w.heap.size w w' := by
 obtain ⟨D, o, hown, hH⟩ := h.ex
 have HB := Ac w.heap.size w
 have HKK := Ae hK
 obtain ⟨i0, hi, hz0, hz1', hz2'⟩ := info_parts Og
 clear hK
 go_enter Tryz.func111, Tryz.ntmps111
 go_wp2_with (first | (at_range; refine wpList_range_own _ rfl _ 123 rfl 66 64 Gz Tryz.underlying123 RH b n D rfl (Ed hown qF) ?_; intro w0 hrg0 hg0 hs0))
 go_frame
 go_loopw [2] (fun v2 wr => ∃ (left : Lit → Bool) (cnt : Nat) (out : List STm), wr.ranges Tryz.prog 66 RH b w.heap.size n D left cnt ∧ wr.ownsRow (w.heap.size + 1) 68 8 v2 out.length (K3 out) ∧ Hid (Nl w B o f left out) ∧ RowKit.Below w.heap.size w wr ∧ out.length + cnt ≤ n) (fun _ wr => wr.rangeLeft b w.heap.size)
 case atStart => exact ⟨_, _, [], hrg0, ⟨rfl, .inl ⟨rfl, rfl⟩⟩, Ae (Nl.start hH), ⟨hg0.os, hg0.tape, hg0.output, hg0.size, fun k hk => hg0.block k hk qH⟩, by simpa using bB hown⟩
 case round =>
  obtain ⟨left, cnt, out, hrg, hown2, hC, HB, hcn⟩ := hrel
  go_wp2_with (first | (at_next; refine wpList_next_ranges _ rfl _ rfl 66 Gz RH (fun v => v) (fun v => v) (fun key _ _ => ⟨key, rfl⟩) (fun v _ _ => ⟨v, rfl⟩) b w.heap.size n D left cnt rfl hrg ?_ ?_))
  ·intro hc0 hl0
   have hf' : ∀ k x, f k = some x → k < 18446744073709551616 := fun k x hk => (HKK.out k x hk).1
   rcases hown2.2 with ⟨rfl, hlen⟩ | ⟨g, cap, cur, rfl, hgb, hblk, hnc, hcm, hsz, htk⟩
   ·have hout : out = [] := List.length_eq_zero_iff.1 hlen
    subst hout
    have HP := Ae (O6 (W := w) (g := B) (c := 0) (d' := #[]) hC.out hl0 hf' ⟨rfl, fun _ _ => rfl, List.Perm.refl _⟩ (fun i j _ _ hj => by simp at hj) (fun j hj => by simp [flatK] at hj) (Ac _ _) (Ad _) (Ad _) qB qH (.inl rfl)).2.2
    clear hrg hown2 hf'
    go_wp2_with (first | (go_at_call 178; refine (Xw _ _ _).mono ?_; rintro e w3 ⟨rfl, rfl⟩))
    refine bodyPost_ret (v := .slice none 0 0) (by simp [results, Tryz.results111, go_sem]) rfl ?_
    exact ⟨none, 0, 0, [], rfl, Bk.nil _ _, Cb.nil _ _, HP.out.1, HP.out.2, HB⟩
   ·have hlt : g < wr.heap.size := (Ar.1 hblk).1
    have hcap : cap ≤ 9223372036854775807 := hcm
    have hS := fW g 0 cap out.toArray wr (Kd hown2 rfl) hlt qL
    have hHO := Ae (Kd hown2 rfl)
    rw [List.size_toArray] at hS
    have HRW := Ae hblk
    have HSZ := Ae hsz
    clear hrg hown2 hblk htk hsz
    go_wp2_with (first | (go_at_call 178; refine hS.mono ?_; rintro e w3 ⟨rfl, d', m, os, hperm, hsrt, rfl⟩))
    have hbw := Mp wr g 0 m d' os hlt
    have HB3 : RowKit.Below w.heap.size w (sortWorldK Gx 8 wr g 0 m d' os) := HB.trans (hbw.mono qB)
    have hd : d'.size = out.toArray.size := hperm.1
    have hP := O6 (W := sortWorldK Gx 8 wr g 0 m d' os) (g := g) (c := cap) (d' := d') hC.out hl0 hf' (by simpa using hperm) (by simpa using hsrt) (holdsK_sortWorldK_c Gx 8 wr g 0 out.toArray d' m os hHO.out hlt hd) HB3 qB hnc hcap qB (by obtain ⟨cur', e1, e2⟩ := Oq wr g m d' os HRW.out; exact .inr ⟨cur', e1, by rw [e2, HSZ.out]; exact Ad _⟩)
    refine bodyPost_ret (v := .slice (some ⟨g, 0, none⟩) out.length cap) (by simp [results, Tryz.results111, go_sem]) rfl ?_
    exact ⟨_, _, _, _, rfl, hP.1, hP.2.1, hP.2.2.1, hP.2.2.2, HB3⟩
  ·intro key v kl y1 y2 w1 cnt1 hkey hlk hRv hR2 hat hrg1 hlt hg1 hs1 hen
   subst hRv
   obtain ⟨q0, q1, q2, q3, x, hfx, b0, b1, b2, b3, rfl, hfr⟩ := Vd (y := (.held v, [])) hH hkey hat rfl
   obtain ⟨g1, a1, n1, c1, g2, a2, n2, c2, rfl, hx, k1⟩ := hfr
   have HM := Ae hrg.left_eq
   clear hat hR2 hrg
   have HB1 : RowKit.Below w.heap.size w w1 := HB.grown hg1 HB.size (fun k hk => by cases hk; exact Ad _)
   have hown3 := hown2.kept hg1 (aJ hown2)
   have hfew := (HKK.out _ _ hfx).2
   have e1 := hx.top.rd.len
   have e2 := hx.low.rd.len
   obtain ⟨i1, i2⟩ := hfew
   have s1 : n1 < 35184372088829 := by omega
   have s2 : n2 < 35184372088829 := by omega
   have hrd : Gy w ⟨g1, a1, n1, c1, dg x.1.natAbs, g2, a2, n2, c2, dg x.2.natAbs, q0, q1, q2, q3⟩ := ⟨hx.top.rd, hx.low.rd, b0, b1, b2, b3⟩
   have hti : Iv ⟨g1, a1, n1, c1, dg x.1.natAbs, g2, a2, n2, c2, dg x.2.natAbs, q0, q1, q2, q3⟩ (Dh q0 q1 q2 q3, x) := ⟨hx.top.neg, rfl, hx.low.neg, rfl, rfl⟩
   have HX := Ae (And.intro hrd hti)
   have HS := Ae hs1
   have hz1 := HB1.size
   clear hrd hti e1 e2 i1 i2 hs1
   by_cases hx0 : x.1 = 0
   ·have hc0 : Br x.1 0 = 0 := by rw [hx0, C9]
    have HC2 := Ae (hC.out.pass b0 b1 b2 b3 hkey hfx hx0)
    clear hx0
    go_wp2_with (first | (go_at_call 31; refine (Hc _ _ _ _ _ _ _ _ _ _ _ (hx.keep qF) s2 s1).mono ?_; rintro e w2 ⟨rfl, hb⟩; rw [hc0]; have d0 : w2.cell? ⟨w1.heap.size, 0, none⟩ = some (.int .u16 q0) := Au hb qJ; have d1 : w2.cell? ⟨w1.heap.size, 1, none⟩ = some (.int .u16 q1) := Au hb qJ; have d2 : w2.cell? ⟨w1.heap.size, 2, none⟩ = some (.int .u16 q2) := Au hb qJ; have d3 : w2.cell? ⟨w1.heap.size, 3, none⟩ = some (.int .u16 q3) := Au hb qJ; have k4 : w2.cell? ⟨w1.heap.size + 1, 0, none⟩ = some (.bool g1) := Au hb qJ; have k5 : w2.cell? ⟨w1.heap.size + 1, 1, none⟩ = some (.slice a1 n1 c1) := Au hb qJ; have k6 : w2.cell? ⟨w1.heap.size + 1, 2, none⟩ = some (.bool g2) := Au hb qJ; have k7 : w2.cell? ⟨w1.heap.size + 1, 3, none⟩ = some (.slice a2 n2 c2) := Au hb qJ; have HB2 : RowKit.Below w.heap.size w w2 := RowKit.Below.trans qF (hb.mono qA); have HB12 : RowKit.Below w1.heap.size w1 w2 := RowKit.Below.trans qF (hb.mono qA); have hz2 := hb.size; (try simp only [Aj] at hz2)))
    go_roundw
    case rel => exact ⟨_, cnt1, out, hrg1.kept (row := none) (Cj HB12) qH qH, Bm hown3 HB12, HC2, HB2, by omega⟩
    case measure => rw [(hrg1.kept (row := none) (Cj HB12) qH qH).left_eq, HM.out]; omega
   ·have hc0 : (Br x.1 0 == 0) = false := by rw [beq_eq_false_iff_ne]; exact fun e => hx0 (En.1 e)
    have HC2 := Ae (hC.out.more (t := STm.of ⟨g1, a1, n1, c1, dg x.1.natAbs, g2, a2, n2, c2, dg x.2.natAbs, q0, q1, q2, q3⟩ b0 b1 b2 b3) hkey hlk hfx hx0 HX.out.2 HX.out.1 k1)
    clear hx0
    go_wp2_with (first | (go_at_call 31; refine (Hc _ _ _ _ _ _ _ _ _ _ _ (hx.keep qF) s2 s1).mono ?_; rintro e w2 ⟨rfl, hb⟩; have d0 : w2.cell? ⟨w1.heap.size, 0, none⟩ = some (.int .u16 q0) := Au hb qJ; have d1 : w2.cell? ⟨w1.heap.size, 1, none⟩ = some (.int .u16 q1) := Au hb qJ; have d2 : w2.cell? ⟨w1.heap.size, 2, none⟩ = some (.int .u16 q2) := Au hb qJ; have d3 : w2.cell? ⟨w1.heap.size, 3, none⟩ = some (.int .u16 q3) := Au hb qJ; have k4 : w2.cell? ⟨w1.heap.size + 1, 0, none⟩ = some (.bool g1) := Au hb qJ; have k5 : w2.cell? ⟨w1.heap.size + 1, 1, none⟩ = some (.slice a1 n1 c1) := Au hb qJ; have k6 : w2.cell? ⟨w1.heap.size + 1, 2, none⟩ = some (.bool g2) := Au hb qJ; have k7 : w2.cell? ⟨w1.heap.size + 1, 3, none⟩ = some (.slice a2 n2 c2) := Au hb qJ; have HB2 : RowKit.Below w.heap.size w w2 := RowKit.Below.trans qF (hb.mono qA); have HB12 : RowKit.Below w1.heap.size w1 w2 := RowKit.Below.trans qF (hb.mono qA); have hz2 := hb.size; (try simp only [Aj] at hz2)) | (at_builtin; refine wpList_append_own _ rfl _ _ 23 rfl (w.heap.size + 1) 68 i0 (.agg #[.bool false, .slice none 0 0, .bool false, .slice none 0 0, .int .u16 0, .int .u16 0, .int .u16 0, .int .u16 0]) 8 72 Tryz.underlying23 hi hz0 hz1' hz2' rfl qC _ out.length (K3 out) rfl (Bm (Bm hown3 HB12) qF) ⟨w2.heap.size, 0, none⟩ 1 1 (Tm.cells ⟨g1, a1, n1, c1, dg x.1.natAbs, g2, a2, n2, c2, dg x.2.natAbs, q0, q1, q2, q3⟩) rfl rfl (Ep _ _ _) (by simp [Tm.cells, Value.oneCell']) qO qB qA ?_; intro v3 w3 hown4 hgrow4 _))
    have hge := Eu hown2
    have hbl := hown.lt
    have HB3 : RowKit.Below w.heap.size w w3 := (HB2.alloc HB2.size _).grown hgrow4 qL (fun k hk => by have := hge k hk; omega)
    have hr3 := (hrg1.kept (row := none) (Cj HB12) qH qH).alloc (.cells (Tm.cells ⟨g1, a1, n1, c1, dg x.1.natAbs, g2, a2, n2, c2, dg x.2.natAbs, q0, q1, q2, q3⟩).toArray 68) |>.kept hgrow4 (Y5 hge qB) (Y5 hge qB)
    go_roundw
    case rel => exact ⟨_, cnt1, out ++ [STm.of ⟨g1, a1, n1, c1, dg x.1.natAbs, g2, a2, n2, c2, dg x.2.natAbs, q0, q1, q2, q3⟩ b0 b1 b2 b3], hr3, by rw [V1, List.length_append]; exact hown4, HC2, HB3, by rw [List.length_append, List.length_singleton]; omega⟩
    case measure => rw [hr3.left_eq, HM.out]; omega
end Go.Proofs.YtdamegaedmckbaaGreatDoor
end
