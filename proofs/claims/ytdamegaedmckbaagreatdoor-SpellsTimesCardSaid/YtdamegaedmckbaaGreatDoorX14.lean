/- The library's part of the texts: strings.Builder, strconv.FormatUint at base 10. Premise: the table of the powers of ten. Package limbs: Text. Premise: the table of the powers of ten. -/
import Derived.Test.YtdamegaedmckbaaGreatDoorX13
import Derived.Test.YtdamegaedmckbaaGreatDoorX0
import Derived.Test.YtdamegaedmckbaaGreatDoorX5
import Derived.Lib.ItoaMem
import Derived.Lib.LaidTab
set_option linter.unusedSimpArgs false
set_option linter.unusedVariables false
section
namespace Go.Proofs.YtdamegaedmckbaaGreatDoor
open Go.RowKit Go.Shelf Go.Lib Go.Sort

/-- The numbers of the builder's functions and types. -/
def bldRen : Ren :=
  { f := fun x => match x with
      | 156 => 39 | 165 => 117 | 166 => 99 | 167 => 96 | 169 => 101 | 170 => 100 | 240 => 167 | 241 => 185 | 276 => 215 | 277 => 233
      | n => n
    t := fun x => match x with
      | 31 => 53 | 9 => 9 | 3 => 3 | 4 => 4 | 0 => 0 | 20 => 20 | 72 => 106 | 76 => 114 | 70 => 104 | 37 => 49 | 75 => 108 | 127 => 212 | 164 => 241 | 5 => 5 | 80 => 117
      | n => n
    g := fun n => n }
theorem lays166 : Lays.n166 Tryz.prog bldRen :=
  { mixed := Eq.refl true
    f166 := Eq.trans Tryz.func99 (congrArg some (Eq.refl (Body.n166 bldRen)))
    f240 := Eq.trans Tryz.func167 (congrArg some (Eq.refl (Body.n240 bldRen)))
    f276 := Eq.trans Tryz.func215 (congrArg some (Eq.refl (Body.n276 bldRen)))
    t0 := Tryz.underlying0, a0 := Tryz.isAgg0, z0 := Tryz.sizeOf0, v0 := Tryz.zeroValue0, t3 := Tryz.underlying3, a3 := Tryz.isAgg3, z3 := Tryz.sizeOf3, v3 := Tryz.zeroValue3
    t4 := Tryz.underlying4, a4 := Tryz.isAgg4, z4 := Tryz.sizeOf4, v4 := Tryz.zeroValue4, t9 := Tryz.underlying9, a9 := Tryz.isAgg9, z9 := Tryz.sizeOf9, v9 := Tryz.zeroValue9
    t20 := Tryz.underlying20, a20 := Tryz.isAgg20, z20 := Tryz.sizeOf20, v20 := Tryz.zeroValue20
    t37 := Tryz.underlying49, a37 := Tryz.isAgg49, z37 := Tryz.sizeOf49, v37 := Tryz.zeroValue49
    t70 := Tryz.underlying104, a70 := Tryz.isAgg104, z70 := Tryz.sizeOf104, v70 := Tryz.zeroValue104
    t72 := Tryz.underlying106, a72 := Tryz.isAgg106, z72 := Tryz.sizeOf106, v72 := Tryz.zeroValue106
    t75 := Tryz.underlying108, a75 := Tryz.isAgg108, z75 := Tryz.sizeOf108, v75 := Tryz.zeroValue108
    t164 := Tryz.underlying241, a164 := Tryz.isAgg241, z164 := Tryz.sizeOf241, v164 := Tryz.zeroValue241 }
theorem lays167 : Lays.n167 Tryz.prog bldRen :=
  { mixed := Eq.refl true
    f167 := Eq.trans Tryz.func96 (congrArg some (Eq.refl (Body.n167 bldRen)))
    f240 := Eq.trans Tryz.func167 (congrArg some (Eq.refl (Body.n240 bldRen)))
    f276 := Eq.trans Tryz.func215 (congrArg some (Eq.refl (Body.n276 bldRen)))
    t0 := Tryz.underlying0, a0 := Tryz.isAgg0, z0 := Tryz.sizeOf0, v0 := Tryz.zeroValue0
    t4 := Tryz.underlying4, a4 := Tryz.isAgg4, z4 := Tryz.sizeOf4, v4 := Tryz.zeroValue4
    t5 := Tryz.underlying5, a5 := Tryz.isAgg5, z5 := Tryz.sizeOf5, v5 := Tryz.zeroValue5, t9 := Tryz.underlying9, a9 := Tryz.isAgg9, z9 := Tryz.sizeOf9, v9 := Tryz.zeroValue9
    t20 := Tryz.underlying20, a20 := Tryz.isAgg20, z20 := Tryz.sizeOf20, v20 := Tryz.zeroValue20
    t37 := Tryz.underlying49, a37 := Tryz.isAgg49, z37 := Tryz.sizeOf49, v37 := Tryz.zeroValue49
    t70 := Tryz.underlying104, a70 := Tryz.isAgg104, z70 := Tryz.sizeOf104, v70 := Tryz.zeroValue104
    t72 := Tryz.underlying106, a72 := Tryz.isAgg106, z72 := Tryz.sizeOf106, v72 := Tryz.zeroValue106
    t75 := Tryz.underlying108, a75 := Tryz.isAgg108, z75 := Tryz.sizeOf108, v75 := Tryz.zeroValue108
    t164 := Tryz.underlying241, a164 := Tryz.isAgg241, z164 := Tryz.sizeOf241, v164 := Tryz.zeroValue241 }
theorem bldExtra : Builder.Extra Tryz.prog bldRen where
  sizeBuilder := by kernel_rfl
  liesBuilder := by kernel_rfl
  t5 := Tryz.underlying5
  a5 := Tryz.isAgg5
  z5 := Tryz.sizeOf5
  v5 := Tryz.zeroValue5
  infoByte := by kernel_rfl
  cellsByte := by kernel_rfl
  sizeByte := by kernel_rfl
  neB5 := by decide
/-- (*strings.Builder).WriteString. -/
theorem WriteString_c (B b : Nat) (bs : List Value) (s : ByteArray) (w : World) (h : Lib.IsBuilder 106 5 B b bs w) (hlen : bs.length + s.size ≤ 140737488355328) (hBw : B ≤ w.heap.size) :
    Calls Tryz.prog 99 #[.pointer (some ⟨b, 0, none⟩), .string s] w fun e w' => e = .returned (.tuple #[.int .i64 s.size, .nilIface]) ∧ (Lib.BuilderAt 106 5 B b (.pointer (some ⟨b, 0, none⟩)) (bs ++ Lib.strCells s) w' ∧ Below B w w') :=
  Any.Builder_WriteString lays166 bldExtra B b bs s w h hlen hBw
/-- (*strings.Builder).WriteByte. -/
theorem WriteByte_c (B b : Nat) (bs : List Value) (c : Int) (w : World) (h : Lib.IsBuilder 106 5 B b bs w) (hlen : bs.length + 1 ≤ 140737488355328) (hBw : B ≤ w.heap.size) :
    Calls Tryz.prog 96 #[.pointer (some ⟨b, 0, none⟩), .int .u8 c] w fun e w' => e = .returned .nilIface ∧ (Lib.BuilderAt 106 5 B b (.pointer (some ⟨b, 0, none⟩)) (bs ++ [.int .u8 c]) w' ∧ Below B w w') :=
  Any.Builder_WriteByte lays167 bldExtra B b bs c w h hlen hBw
/-- The table of the powers of ten. -/
def Tab (w : World) : Prop := Lib.TabIs Tryz.prog w "internal/strconv.uint64pow10" .u64 Lib.pow10Tab
theorem Tab.keep {w w' : World} (h : Tab w) (hb : Below w.heap.size w w') : Tab w' := by
  unfold Tab TabIs World.var? at *
  cases hg : Tryz.prog.globalNamed "internal/strconv.uint64pow10" with
  | none => simp [hg] at h
  | some g =>
    simp only [hg, Option.bind_some] at h ⊢
    have hlt : g < w.heap.size := by
      rcases Nat.lt_or_ge g w.heap.size with h' | h'
      · exact h'
      · rw [Array.getElem?_eq_none h'] at h; simp at h
    rw [hb.block g hlt]
    exact h
theorem holds_zero20 (w : World) (T : TypeId) (nd : Nat) (hs : nd ≤ 24) : Holds (fun (b : UInt8) => Value.int .u8 (b.toNat : Int)) (w.alloc (.cells Lib.zeros24 T)) w.heap.size 0 (Array.replicate nd (0 : UInt8)) := fun j hj => by
  have hj' : j < nd := by simpa using hj
  refine ⟨?_, World.frozen?_alloc_new _ _ _ _⟩
  rw [World.cell?_alloc_new, Lib.zeros24_at _ (by omega), getElem!_pos _ j hj]
  simp
theorem fin_pos0 (w : World) (o : Obj) (dk : Array UInt8) (k : Nat) : ∃ os, (putRow (fun (b : UInt8) => Value.int .u8 (b.toNat : Int)) (w.alloc o) w.heap.size 0 dk).drewN k = grow (w.drewN k) os := by
  rw [alloc_eq_grow]
  obtain ⟨os', _, e⟩ := putRow_grow_new (fun (b : UInt8) => Value.int .u8 (b.toNat : Int)) w #[o] w.heap.size 0 dk (Nat.le_refl _)
  exact ⟨os', by rw [e]; rfl⟩
set_option maxHeartbeats 1000000 in
set_option maxRecDepth 100000 in
/-- internal/strconv.FormatUint at base 10. -/
theorem iFormatUint_c (u : Nat) (hu64 : u < 18446744073709551616) (w : World) (htab : Tab w) :
    Calls Tryz.prog 168 #[.int .u64 u, .int .i64 10] w fun e w' => e = .returned (.string ⟨(Lib.decDigits u).toArray⟩) ∧ ∃ k os, w' = grow (w.drewN k) os := by
  by_cases hs : u < 100
  · go_enter Tryz.func168, Tryz.ntmps168
    go_wp2_with (go_at_call 216; refine (Tryz.internal_strconv_small u hs _).mono ?_; rintro e w' ⟨rfl, rfl⟩)
    go_ret
    exact ⟨rfl, 0, #[], by simp [World.drewN_zero]⟩
  · have hu1 : 1 ≤ u := by omega
    have hnd20 : Lib.nDigits u ≤ 20 := by have := Lib.numDigits_eq u hu1 hu64; split at this <;> omega
    have hal : Tryz.prog.arrayLen 243 = 24 := by simp [Program.arrayLen, Tryz.underlying243]
    have hsl1 : ∀ W, (Instr.sliceAt 243 (.pointer (some ⟨w.heap.size, 0, none⟩)) none (some (.int .i64 (Lib.nDigits u : Int))) none).run Tryz.prog W = .ok (.slice (some ⟨w.heap.size, 0, none⟩) (Lib.nDigits u) 24) W := by
      intro W
      rw [run_sliceAt_array_h W 243 ⟨w.heap.size, 0, none⟩ (by simp [Program.arrayLen, Program.elem, Tryz.underlying243]) .i64 (Lib.nDigits u : Int) (by omega) (by rw [hal]; omega)]
      go_simp
    have hH0 := holds_zero20 w 243 (Lib.nDigits u) (by omega)
    have hfmt := Tryz.internal_strconv_formatBase10 w.heap.size 0 24 u (Array.replicate (Lib.nDigits u) 0) (w.alloc (.cells Lib.zeros24 243)) hH0 (by rw [Array.size_replicate]; exact Lib.lt_pow_nDigits u) hu64 (by rw [Array.size_replicate]; omega)
    rw [Array.size_replicate] at hfmt
    have HH0 := Lib.hid hH0
    clear hH0 hal
    go_enter Tryz.func168, Tryz.ntmps168
    go_wp2_with (first
      | (go_at_call 217; refine (Tryz.internal_strconv_numDigits u hu1 hu64 _ (Lib.tabIs_alloc htab _)).mono ?_; rintro e w' ⟨rfl, rfl⟩))
    refine hfmt.mono ?_
    rintro e w' ⟨rfl, k, v', dk, rfl, hF⟩
    have hcv : (convert 49 9 (.slice (some ⟨w.heap.size, 0, none⟩) (Lib.nDigits u) 24)).run Tryz.prog ((putRow (fun (b : UInt8) => Value.int .u8 (b.toNat : Int)) (w.alloc (.cells Lib.zeros24 243)) w.heap.size 0 dk).drewN k) = .ok (.string ⟨(Lib.decDigits u).toArray⟩) ((putRow (fun (b : UInt8) => Value.int .u8 (b.toNat : Int)) (w.alloc (.cells Lib.zeros24 243)) w.heap.size 0 dk).drewN k) := by
      have h := run_convert_bytes_back (P := Tryz.prog) ((putRow (fun (b : UInt8) => Value.int .u8 (b.toNat : Int)) (w.alloc (.cells Lib.zeros24 243)) w.heap.size 0 dk).drewN k) 49 9 5 ⟨w.heap.size, 0, none⟩ 24 (Lib.decDigits u) Tryz.underlying49 Tryz.underlying5 Tryz.underlying9 (fun j hj => by
        rw [Lib.row_is_numeral hF j hj, Lib.add_plain, World.cell?_drewN]
        exact cell?_putRow (fun (b : UInt8) => Value.int .u8 (b.toNat : Int)) _ w.heap.size 0 _ dk HH0.out (by rw [hF.size, Array.size_replicate]) j (by rw [hF.size]; rw [Lib.decDigits_length] at hj; exact hj))
      rw [Lib.decDigits_length] at h
      exact h
    go_wp2
    go_ret
    obtain ⟨os, eo⟩ := fin_pos0 w (.cells Lib.zeros24 243) dk k
    exact ⟨rfl, k, os, eo⟩
theorem below_grow {B : Nat} (w : World) (k : Nat) (os : Array Obj) (h : B ≤ w.heap.size) : Below B w (grow (w.drewN k) os) :=
  ⟨rfl, rfl, rfl, by simp [grow], fun i hi => by
    show (w.heap ++ os)[i]? = w.heap[i]?
    rw [Array.getElem?_append_left (by omega)]⟩
set_option maxRecDepth 100000 in
/-- strconv.FormatUint at base 10. -/
theorem FormatUint_c (u : Nat) (hu64 : u < 18446744073709551616) (w : World) (htab : Tab w) :
    Calls Tryz.prog 97 #[.int .u64 u, .int .i64 10] w fun e w' => e = .returned (.string ⟨(Lib.decDigits u).toArray⟩) ∧ Below w.heap.size w w' := by
  go_enter Tryz.func97, Tryz.ntmps97
  go_wp2_with (go_at_call 168; refine (iFormatUint_c u hu64 _ htab).mono ?_; rintro e w' ⟨rfl, k, os, rfl⟩)
  go_ret
  exact ⟨rfl, below_grow _ _ _ (Nat.le_refl _)⟩
end Go.Proofs.YtdamegaedmckbaaGreatDoor
end
section
namespace Go.Proofs.YtdamegaedmckbaaGreatDoor
open Go.RowKit

theorem bld_keep {B b : Nat} {bs : List Value} {w w' : World} (h : Lib.IsBuilder 106 5 B b bs w) (hb : Below w.heap.size w w') : Lib.IsBuilder 106 5 B b bs w' := by
  have key : ∀ p, Lib.BuilderAt 106 5 B b p bs w → Lib.BuilderAt 106 5 B b p bs w' := by
    rintro p ⟨h1, v, h2, h3, h4⟩
    refine ⟨h1, v, ?_, ownsRow_keep h3 hb, h4⟩
    have hlt : b < w.heap.size := by
      rcases Nat.lt_or_ge b w.heap.size with h' | h'
      · exact h'
      · rw [Array.getElem?_eq_none h'] at h2; cases h2
    rw [hb.block b hlt]
    exact h2
  exact h.imp (key _) (key _)
def RetStr (w : World) (l : List UInt8) (e : Ending) (w' : World) : Prop := e = .returned (.string ⟨l.toArray⟩) ∧ Below w.heap.size w w'
/-- What Text has written when the parts from j on are over. -/
def sofar (z : Int) (j : Nat) : List UInt8 := (if z < 0 then [45] else []) ++ tx ((dg z.natAbs).drop j)
theorem sofar_zero {z : Int} (hz : z ≠ 0) : sofar z 0 = Lib.itoa z := by
  rw [sofar, List.drop_zero, tx_dg _ (by omega), Lib.itoa]
  split
  · rfl
  · rw [show z.toNat = z.natAbs by omega]; rfl
theorem sofar_none : sofar 0 0 = [] := by
  rw [sofar, if_neg (by omega), show (0 : Int).natAbs = 0 from rfl, dg_zero]
  rfl
theorem itoa_none : Lib.itoa 0 = [48] := by
  rw [Lib.itoa, if_neg (by omega), show (0 : Int).toNat = 0 from rfl, Lib.decDigits_one (by omega)]
  rfl
theorem decDigits_ne (u : Nat) : Lib.decDigits u ≠ [] := by
  rw [Lib.decDigits]
  split <;> simp
theorem itoa_ne (z : Int) : Lib.itoa z ≠ [] := by
  rw [Lib.itoa]
  split
  · simp
  · exact decDigits_ne _
theorem byteCells_app (l m : List UInt8) : Lib.byteCells l ++ Lib.strCells ⟨m.toArray⟩ = Lib.byteCells (l ++ m) := by
  show Lib.byteCells l ++ Lib.byteCells m = _
  simp [Lib.byteCells]
theorem sofar_top {z : Int} {i x : Nat} (hd : (dg z.natAbs).drop i = x :: (dg z.natAbs).drop (i + 1)) (h : (dg z.natAbs).drop (i + 1) = []) : sofar z i = sofar z (i + 1) ++ Lib.decDigits x := by
  rw [sofar, sofar, hd, h, tx_one, tx_nil, List.append_nil]
theorem sofar_next {z : Int} {i x : Nat} (hd : (dg z.natAbs).drop i = x :: (dg z.natAbs).drop (i + 1)) (hx : x < 1000000000) (h : (dg z.natAbs).drop (i + 1) ≠ []) : sofar z i = sofar z (i + 1) ++ (Lib.repeatL [48] (9 - (Lib.decDigits x).length) ++ Lib.decDigits x) := by
  rw [sofar, sofar, hd, tx_cons x _ hx h (val_pos_of_canon (canon_drop (canon_dg _) _) h), List.append_assoc]
theorem ba_size (l : List UInt8) : (⟨l.toArray⟩ : ByteArray).size = l.length := rfl
theorem ba_app (l m : List UInt8) : ((⟨l.toArray⟩ : ByteArray) ++ (⟨m.toArray⟩ : ByteArray)) = ⟨(l ++ m).toArray⟩ := by
  apply ByteArray.ext
  simp
theorem byteCells_len (l : List UInt8) : (Lib.byteCells l).length = l.length := by simp [Lib.byteCells]
set_option maxRecDepth 100000 in
set_option maxHeartbeats 4000000 in
theorem Text_c (w : World) (g : Bool) (a : Option Addr) (n c : Nat) (z : Int) (h : NumAt w g a n c z) (hT : Tab w) (hn : n ≤ 1000000) :
    Calls Tryz.prog 26 #[.agg #[.bool g, .slice a n c]] w (RetStr w (Lib.itoa z)) := by
  have HB := Below.refl w.heap.size w
  go_enter Tryz.func26, Tryz.ntmps26
  go_wp2_with fail
  refine (of_c _ g a n c z (h.keep (by go_grown))).mono ?_
  rintro e w1 ⟨rfl, hb⟩
  obtain ⟨hc, hf⟩ := bcell hb; have hz := hb.size; (try simp only [World.size_alloc, World.size_drew] at hz)
  replace HB : Below w.heap.size w w1 := Below.trans (by go_grown) (hb.mono (by go_size))
  have s0_0 : w1.cell? ⟨w.heap.size, 0, none⟩ = some (.bool g) := (hc _ _ (by go_size)).trans (by first | assumption | (simp [go_sem]; done)); have s0_1 : w1.cell? ⟨w.heap.size, 1, none⟩ = some (.slice a n c) := (hc _ _ (by go_size)).trans (by first | assumption | (simp [go_sem]; done))
  have f0_0 : w1.frozen? ⟨w.heap.size, 0, none⟩ = false := (hf _ _ (by go_size)).trans (by simp [go_sem])
  have f0_1 : w1.frozen? ⟨w.heap.size, 1, none⟩ = false := (hf _ _ (by go_size)).trans (by simp [go_sem])
  clear hc hf hb
  have hk : w.heap.size < w1.heap.size := hz
  go_upto_region 3 with fail
  have hbd := Lib.fresh_isBuilder 106 5 ((w1.setCell ⟨w.heap.size, 0, none⟩ (.bool g)).setCell ⟨w.heap.size, 1, none⟩ (.slice a n c))
  simp only [World.size_setCell] at hbd
  have HB2 : Below w.heap.size w (((w1.setCell ⟨w.heap.size, 0, none⟩ (.bool g)).setCell ⟨w.heap.size, 1, none⟩ (.slice a n c)).alloc (.cells #[.pointer none, .slice none 0 0] 106)) := by go_grown
  have e0 : (((w1.setCell ⟨w.heap.size, 0, none⟩ (.bool g)).setCell ⟨w.heap.size, 1, none⟩ (.slice a n c)).alloc (.cells #[.pointer none, .slice none 0 0] 106)).cell? ⟨w.heap.size, 0, none⟩ = some (.bool g) := by simp [*, go_sem]
  have e1 : (((w1.setCell ⟨w.heap.size, 0, none⟩ (.bool g)).setCell ⟨w.heap.size, 1, none⟩ (.slice a n c)).alloc (.cells #[.pointer none, .slice none 0 0] 106)).cell? ⟨w.heap.size, 1, none⟩ = some (.slice a n c) := by simp [*, go_sem]
  have hsz : (((w1.setCell ⟨w.heap.size, 0, none⟩ (.bool g)).setCell ⟨w.heap.size, 1, none⟩ (.slice a n c)).alloc (.cells #[.pointer none, .slice none 0 0] 106)).heap.size = w1.heap.size + 1 := by simp
  generalize (((w1.setCell ⟨w.heap.size, 0, none⟩ (.bool g)).setCell ⟨w.heap.size, 1, none⟩ (.slice a n c)).alloc (.cells #[.pointer none, .slice none 0 0] 106)) = w2 at *
  generalize w1.heap.size = P at *
  clear s0_0 s0_1 f0_0 f0_1 HB hz
  have hlen := h.rd.len
  have hdn : (dg z.natAbs).drop n = [] := by rw [List.drop_eq_nil_iff]; omega
  go_upto_if 9 with (fail)
  go_cut [] (fun wc => Lib.IsBuilder 106 5 P P (Lib.byteCells (sofar z n)) wc ∧ Below P w2 wc)
  case first =>
    have HDN := Lib.hid hdn
    have hg := Lib.hid h.neg
    clear hdn
    cases g
    · go_wp2_with fail
      go_meet
      case rel =>
        refine ⟨?_, Below.refl _ _⟩
        have h1 := hg.out
        rw [sofar, HDN.out, if_neg (by simpa using h1)]
        exact hbd
    · go_wp2_with fail
      refine (WriteByte_c P P [] 45 _ hbd (by simp) (by omega)).mono ?_
      rintro e w3 ⟨rfl, hb3, hB3⟩
      go_wp2_with fail
      go_meet
      case rel =>
        refine ⟨.inr ?_, hB3⟩
        have h1 := hg.out
        rw [sofar, HDN.out, if_pos (by simpa using h1)]
        exact hb3
  case rest =>
    obtain ⟨hbc, hBc⟩ := hcut
    clear hbd
    have HBc : Below w.heap.size w wc := HB2.trans (hBc.mono (by omega))
    have hsc := hBc.size
    have q0 : wc.cell? ⟨w.heap.size, 0, none⟩ = some (.bool g) := (hBc.cell (p := ⟨w.heap.size, 0, none⟩) hk).trans e0
    have q1 : wc.cell? ⟨w.heap.size, 1, none⟩ = some (.slice a n c) := (hBc.cell (p := ⟨w.heap.size, 1, none⟩) hk).trans e1
    clear e0 e1 hBc HB2
    have HDN := Lib.hid hdn
    clear hdn
    go_wp2_with fail
    go_loopw [4] (fun v4 wr => ∃ j : Nat, j ≤ n ∧ v4 = .int .i64 ((j : Int) - 1) ∧ Lib.IsBuilder 106 5 P P (Lib.byteCells (sofar z j)) wr ∧ (sofar z j).length ≤ 9 * (n - j) + 1 ∧ Below P wc wr)
      (fun v4 _ => (intOf v4 + 1).toNat)
    case atStart => exact ⟨n, Nat.le_refl _, by first | rfl | (rw [IntWalk.i64_in _ (by omega)]), hbc, by rw [sofar, HDN.out, tx_nil]; split <;> simp, Below.refl _ _⟩
    case round =>
      obtain ⟨j, hj, rfl, hbr, hbl, hBr⟩ := hrel
      have HBr : Below w.heap.size w wr := HBc.trans (hBr.mono (by omega))
      have hsr := hBr.size
      have r0 : wr.cell? ⟨w.heap.size, 0, none⟩ = some (.bool g) := (hBr.cell (p := ⟨w.heap.size, 0, none⟩) hk).trans q0
      have r1 : wr.cell? ⟨w.heap.size, 1, none⟩ = some (.slice a n c) := (hBr.cell (p := ⟨w.heap.size, 1, none⟩) hk).trans q1
      cases j with
      | zero =>
        have hm : ((0 : Nat) : Int) - 1 = -1 := by omega
        rw [hm]
        clear r0 r1 q0 q1
        by_cases hz0 : z = 0
        · have hs0 : sofar z 0 = [] := by rw [hz0]; exact sofar_none
          have hr : Lib.itoa z = [48] := by rw [hz0]; exact itoa_none
          rw [hs0] at hbr
          have hr := Lib.hid hr
          go_wp2_with fail
          refine (Tryz.Builder_Len P P _ wr hbr).mono ?_
          rintro e w4 ⟨rfl, rfl⟩
          rw [show (Lib.byteCells []).length = 0 from rfl]
          go_wp2_with fail
          go_ret
          exact ⟨by rw [hr.out]; rfl, HBr⟩
        · rw [sofar_zero hz0] at hbr
          have hl0 : (Lib.byteCells (Lib.itoa z)).length = (Lib.itoa z).length := byteCells_len _
          have hl1 : (((Lib.itoa z).length : Int) == 0) = false := by
            have := List.length_pos_iff.2 (itoa_ne z)
            rw [beq_eq_false_iff_ne]; omega
          go_wp2_with fail
          refine (Tryz.Builder_Len P P _ wr hbr).mono ?_
          rintro e w4 ⟨rfl, rfl⟩
          rw [hl0]
          go_wp2_with fail
          refine (Tryz.Builder_String_any P P _ w4 hbr (by omega)).mono ?_
          rintro e w5 ⟨rfl, hb5⟩
          go_wp2_with fail
          go_ret
          exact ⟨rfl, HBr.trans (hb5.mono (by omega))⟩
      | succ i =>
        have hm : ((i + 1 : Nat) : Int) - 1 = (i : Int) := by omega
        rw [hm]
        obtain ⟨b, o, rfl, hci⟩ := h.rd.at' (i := i) (by omega)
        have hci' := cell_keep HBr hci
        obtain ⟨x, hx⟩ : ∃ x : Nat, lim (dg z.natAbs) i = (x : Int) := ⟨(lim (dg z.natAbs) i).toNat, by have := h.rd.small i; omega⟩
        rw [hx] at hci'
        have hdi := drop_lim (d := dg z.natAbs) (j := i) (by omega)
        rw [hx, Int.toNat_natCast] at hdi
        have hxl : x < 1000000000 := dg_lt z.natAbs x (by rw [← List.take_append_drop i (dg z.natAbs), hdi]; simp)
        have hxw : IntKind.u64.wrap (x : Int) = (x : Int) := IntWalk.u64_in _ (by omega)
        have HDI := Lib.hid hdi
        have hdl := dec_len hxl
        clear hx hci hdi q0 q1
        by_cases htop : i + 1 = n
        · have htop' : decide ((i : Int) < (n : Int) - 1) = false := by simp; omega
          go_wp2_with fail
          refine (FormatUint_c x (by omega) wr (hT.keep HBr)).mono ?_
          rintro e w4 ⟨rfl, hb4⟩
          have hz4 := hb4.size
          replace hbr := bld_keep hbr hb4
          have r0' := cell_keep hb4 r0
          have r1' := cell_keep hb4 r1
          go_wp2_with fail
          refine (WriteString_c P P _ ⟨(Lib.decDigits x).toArray⟩ w4 hbr (by rw [byteCells_len]; rw [ba_size]; omega) (by omega)).mono ?_
          rintro e w6 ⟨rfl, hb6, hB6⟩
          have q6 : Lib.IsBuilder 106 5 P P (Lib.byteCells (sofar z i)) w6 := by
            rw [sofar_top HDI.out (by rw [htop]; exact HDN.out), ← byteCells_app]
            exact .inr hb6
          have q7 : (sofar z i).length ≤ 9 * (n - i) + 1 := by rw [sofar_top HDI.out (by rw [htop]; exact HDN.out), List.length_append]; omega
          have q8 : Below P wc w6 := (hBr.trans (hb4.mono (by omega))).trans hB6
          clear hbr hb6 hB6 hb4
          go_wp2_with fail
          go_roundw
          case rel => exact ⟨i, by omega, by first | rfl | (simp; done) | (rw [IntWalk.i64_in _ (by omega)]), q6, q7, q8⟩
          case measure => (first | (simp [intOf]; omega) | (simp [intOf]; done))
        · have htop' : decide ((i : Int) < (n : Int) - 1) = true := by simp; omega
          go_wp2_with fail
          refine (FormatUint_c x (by omega) wr (hT.keep HBr)).mono ?_
          rintro e w4 ⟨rfl, hb4⟩
          have hz4 := hb4.size
          replace hbr := bld_keep hbr hb4
          have r0' := cell_keep hb4 r0
          have r1' := cell_keep hb4 r1
          go_wp2_with fail
          have hsub : (9 : Int) - ((Lib.decDigits x).length : Int) = ((9 - (Lib.decDigits x).length : Nat) : Int) := by omega
          rw [hsub]
          refine (Tryz.strings_Repeat ⟨#[48]⟩ (9 - (Lib.decDigits x).length) w4 (by omega) (by show 1 * _ ≤ _; omega)).mono ?_
          rintro e w5 ⟨rfl, hb5⟩
          replace hbr := bld_keep hbr hb5
          have r0'' := cell_keep hb5 r0'
          have r1'' := cell_keep hb5 r1'
          have hz5 := hb5.size
          have hrl : (Lib.repeatL [48] (9 - (Lib.decDigits x).length)).length ≤ 9 := by rw [repeatL_zero, List.length_replicate]; omega
          have hcat : (⟨(Lib.repeatL [48] (9 - (Lib.decDigits x).length)).toArray⟩ : ByteArray).size + (⟨(Lib.decDigits x).toArray⟩ : ByteArray).size ≤ 9223372036854775807 := by rw [ba_size, ba_size]; omega
          go_wp2_with fail
          have happ : ((⟨(Lib.repeatL [48] (9 - (Lib.decDigits x).length)).toArray⟩ : ByteArray) ++ (⟨(Lib.decDigits x).toArray⟩ : ByteArray)) = ⟨(Lib.repeatL [48] (9 - (Lib.decDigits x).length) ++ Lib.decDigits x).toArray⟩ := ba_app _ _
          rw [happ]
          refine (WriteString_c P P _ ⟨(Lib.repeatL [48] (9 - (Lib.decDigits x).length) ++ Lib.decDigits x).toArray⟩ w5 hbr (by rw [byteCells_len, ba_size, List.length_append]; omega) (by omega)).mono ?_
          rintro e w6 ⟨rfl, hb6, hB6⟩
          have hne : (dg z.natAbs).drop (i + 1) ≠ [] := by rw [Ne, List.drop_eq_nil_iff]; omega
          have q6 : Lib.IsBuilder 106 5 P P (Lib.byteCells (sofar z i)) w6 := by
            rw [sofar_next HDI.out hxl hne, ← byteCells_app]
            exact .inr hb6
          have q7 : (sofar z i).length ≤ 9 * (n - i) + 1 := by
            have h1 := congrArg List.length (sofar_next HDI.out hxl hne)
            rw [List.length_append, List.length_append, repeatL_zero, List.length_replicate] at h1
            omega
          have q8 : Below P wc w6 := ((hBr.trans (hb4.mono (by omega))).trans (hb5.mono (by omega))).trans hB6
          clear hbr hb6 hB6 hb4 hne happ
          go_wp2_with fail
          go_roundw
          case rel => exact ⟨i, by omega, by first | rfl | (simp; done) | (rw [IntWalk.i64_in _ (by omega)]), q6, q7, q8⟩
          case measure => (first | (simp [intOf]; omega) | (simp [intOf]; done))
end Go.Proofs.YtdamegaedmckbaaGreatDoor
end
