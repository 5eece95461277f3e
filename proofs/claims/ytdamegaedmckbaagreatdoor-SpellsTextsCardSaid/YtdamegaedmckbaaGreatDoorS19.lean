/- Package limbs: Text. Premise: the table of the powers of ten. -/
import Derived.Test.YtdamegaedmckbaaGreatDoorS18
set_option linter.unusedSimpArgs false
set_option linter.unusedVariables false
set_option linter.unusedSimpArgs false
namespace Go.Proofs.YtdamegaedmckbaaGreatDoor
open Go.RowKit

theorem bld_keep {B b : Nat} {bs : List Value} {w w' : World} (h : Lib.IsBuilder 106 5 B b bs w) (hb : Below w.heap.size w w') : Lib.IsBuilder 106 5 B b bs w' := by
  have key : ∀ p, Lib.BuilderAt 106 5 B b p bs w → Lib.BuilderAt 106 5 B b p bs w' := by
    rintro p ⟨h1, v, h2, h3, h4⟩
    refine ⟨h1, v, ?_, ownsRow_keep h3 hb, h4⟩
    have hlt : b < w.heap.size := by
      rcases Nat.lt_or_ge b w.heap.size with h' | h'
      · exact h'
      · rw [Array.getElem?_eq_none h'] at h2; cases h2
    rw [hb.block b hlt]
    exact h2
  exact h.imp (key _) (key _)

def RetStr (w : World) (l : List UInt8) (e : Ending) (w' : World) : Prop := e = .returned (.string ⟨l.toArray⟩) ∧ Below w.heap.size w w'

/-- What Text has written when the parts from j on are over. -/
def sofar (z : Int) (j : Nat) : List UInt8 := (if z < 0 then [45] else []) ++ tx ((dg z.natAbs).drop j)

theorem sofar_zero {z : Int} (hz : z ≠ 0) : sofar z 0 = Lib.itoa z := by
  rw [sofar, List.drop_zero, tx_dg _ (by omega), Lib.itoa]
  split
  · rfl
  · rw [show z.toNat = z.natAbs by omega]; rfl

theorem sofar_none : sofar 0 0 = [] := by
  rw [sofar, if_neg (by omega), show (0 : Int).natAbs = 0 from rfl, dg_zero]
  rfl

theorem itoa_none : Lib.itoa 0 = [48] := by
  rw [Lib.itoa, if_neg (by omega), show (0 : Int).toNat = 0 from rfl, Lib.decDigits_one (by omega)]
  rfl

theorem decDigits_ne (u : Nat) : Lib.decDigits u ≠ [] := by
  rw [Lib.decDigits]
  split <;> simp

theorem itoa_ne (z : Int) : Lib.itoa z ≠ [] := by
  rw [Lib.itoa]
  split
  · simp
  · exact decDigits_ne _

theorem byteCells_app (l m : List UInt8) : Lib.byteCells l ++ Lib.strCells ⟨m.toArray⟩ = Lib.byteCells (l ++ m) := by
  show Lib.byteCells l ++ Lib.byteCells m = _
  simp [Lib.byteCells]

theorem sofar_top {z : Int} {i x : Nat} (hd : (dg z.natAbs).drop i = x :: (dg z.natAbs).drop (i + 1)) (h : (dg z.natAbs).drop (i + 1) = []) : sofar z i = sofar z (i + 1) ++ Lib.decDigits x := by
  rw [sofar, sofar, hd, h, tx_one, tx_nil, List.append_nil]

theorem sofar_next {z : Int} {i x : Nat} (hd : (dg z.natAbs).drop i = x :: (dg z.natAbs).drop (i + 1)) (hx : x < 1000000000) (h : (dg z.natAbs).drop (i + 1) ≠ []) : sofar z i = sofar z (i + 1) ++ (Lib.repeatL [48] (9 - (Lib.decDigits x).length) ++ Lib.decDigits x) := by
  rw [sofar, sofar, hd, tx_cons x _ hx h (val_pos_of_canon (canon_drop (canon_dg _) _) h), List.append_assoc]

theorem ba_size (l : List UInt8) : (⟨l.toArray⟩ : ByteArray).size = l.length := rfl

theorem ba_app (l m : List UInt8) : ((⟨l.toArray⟩ : ByteArray) ++ (⟨m.toArray⟩ : ByteArray)) = ⟨(l ++ m).toArray⟩ := by
  apply ByteArray.ext
  simp

theorem byteCells_len (l : List UInt8) : (Lib.byteCells l).length = l.length := by simp [Lib.byteCells]

set_option maxRecDepth 100000 in
set_option maxHeartbeats 4000000 in
theorem Text_c (w : World) (g : Bool) (a : Option Addr) (n c : Nat) (z : Int) (h : NumAt w g a n c z) (hT : Tab w) (hn : n ≤ 1000000) :
    Calls Tryz.prog 26 #[.agg #[.bool g, .slice a n c]] w (RetStr w (Lib.itoa z)) := by
  have HB := Below.refl w.heap.size w
  go_enter Tryz.func26, Tryz.ntmps26
  go_wp2_with fail
  refine (of_c _ g a n c z (h.keep (by go_grown))).mono ?_
  rintro e w1 ⟨rfl, hb⟩
  obtain ⟨hc, hf⟩ := bcell hb; have hz := hb.size; (try simp only [World.size_alloc, World.size_drew] at hz)
  replace HB : Below w.heap.size w w1 := Below.trans (by go_grown) (hb.mono (by go_size))
  have s0_0 : w1.cell? ⟨w.heap.size, 0, none⟩ = some (.bool g) := (hc _ _ (by go_size)).trans (by first | assumption | (simp [go_sem]; done)); have s0_1 : w1.cell? ⟨w.heap.size, 1, none⟩ = some (.slice a n c) := (hc _ _ (by go_size)).trans (by first | assumption | (simp [go_sem]; done))
  have f0_0 : w1.frozen? ⟨w.heap.size, 0, none⟩ = false := (hf _ _ (by go_size)).trans (by simp [go_sem])
  have f0_1 : w1.frozen? ⟨w.heap.size, 1, none⟩ = false := (hf _ _ (by go_size)).trans (by simp [go_sem])
  clear hc hf hb
  have hk : w.heap.size < w1.heap.size := hz
  go_upto_region 3 with fail
  have hbd := Lib.fresh_isBuilder 106 5 ((w1.setCell ⟨w.heap.size, 0, none⟩ (.bool g)).setCell ⟨w.heap.size, 1, none⟩ (.slice a n c))
  simp only [World.size_setCell] at hbd
  have HB2 : Below w.heap.size w (((w1.setCell ⟨w.heap.size, 0, none⟩ (.bool g)).setCell ⟨w.heap.size, 1, none⟩ (.slice a n c)).alloc (.cells #[.pointer none, .slice none 0 0] 106)) := by go_grown
  have e0 : (((w1.setCell ⟨w.heap.size, 0, none⟩ (.bool g)).setCell ⟨w.heap.size, 1, none⟩ (.slice a n c)).alloc (.cells #[.pointer none, .slice none 0 0] 106)).cell? ⟨w.heap.size, 0, none⟩ = some (.bool g) := by simp [*, go_sem]
  have e1 : (((w1.setCell ⟨w.heap.size, 0, none⟩ (.bool g)).setCell ⟨w.heap.size, 1, none⟩ (.slice a n c)).alloc (.cells #[.pointer none, .slice none 0 0] 106)).cell? ⟨w.heap.size, 1, none⟩ = some (.slice a n c) := by simp [*, go_sem]
  have hsz : (((w1.setCell ⟨w.heap.size, 0, none⟩ (.bool g)).setCell ⟨w.heap.size, 1, none⟩ (.slice a n c)).alloc (.cells #[.pointer none, .slice none 0 0] 106)).heap.size = w1.heap.size + 1 := by simp
  generalize (((w1.setCell ⟨w.heap.size, 0, none⟩ (.bool g)).setCell ⟨w.heap.size, 1, none⟩ (.slice a n c)).alloc (.cells #[.pointer none, .slice none 0 0] 106)) = w2 at *
  generalize w1.heap.size = P at *
  clear s0_0 s0_1 f0_0 f0_1 HB hz
  have hlen := h.rd.len
  have hdn : (dg z.natAbs).drop n = [] := by rw [List.drop_eq_nil_iff]; omega
  go_upto_if 9 with (fail)
  go_cut [] (fun wc => Lib.IsBuilder 106 5 P P (Lib.byteCells (sofar z n)) wc ∧ Below P w2 wc)
  case first =>
    have HDN := Lib.hid hdn
    have hg := Lib.hid h.neg
    clear hdn
    cases g
    · go_wp2_with fail
      go_meet
      case rel =>
        refine ⟨?_, Below.refl _ _⟩
        have h1 := hg.out
        rw [sofar, HDN.out, if_neg (by simpa using h1)]
        exact hbd
    · go_wp2_with fail
      refine (WriteByte_c P P [] 45 _ hbd (by simp) (by omega)).mono ?_
      rintro e w3 ⟨rfl, hb3, hB3⟩
      go_wp2_with fail
      go_meet
      case rel =>
        refine ⟨.inr ?_, hB3⟩
        have h1 := hg.out
        rw [sofar, HDN.out, if_pos (by simpa using h1)]
        exact hb3
  case rest =>
    obtain ⟨hbc, hBc⟩ := hcut
    clear hbd
    have HBc : Below w.heap.size w wc := HB2.trans (hBc.mono (by omega))
    have hsc := hBc.size
    have q0 : wc.cell? ⟨w.heap.size, 0, none⟩ = some (.bool g) := (hBc.cell (p := ⟨w.heap.size, 0, none⟩) hk).trans e0
    have q1 : wc.cell? ⟨w.heap.size, 1, none⟩ = some (.slice a n c) := (hBc.cell (p := ⟨w.heap.size, 1, none⟩) hk).trans e1
    clear e0 e1 hBc HB2
    have HDN := Lib.hid hdn
    clear hdn
    go_wp2_with fail
    go_loopw [4] (fun v4 wr => ∃ j : Nat, j ≤ n ∧ v4 = .int .i64 ((j : Int) - 1) ∧ Lib.IsBuilder 106 5 P P (Lib.byteCells (sofar z j)) wr ∧ (sofar z j).length ≤ 9 * (n - j) + 1 ∧ Below P wc wr)
      (fun v4 _ => (intOf v4 + 1).toNat)
    case atStart => exact ⟨n, Nat.le_refl _, by first | rfl | (rw [IntWalk.i64_in _ (by omega)]), hbc, by rw [sofar, HDN.out, tx_nil]; split <;> simp, Below.refl _ _⟩
    case round =>
      obtain ⟨j, hj, rfl, hbr, hbl, hBr⟩ := hrel
      have HBr : Below w.heap.size w wr := HBc.trans (hBr.mono (by omega))
      have hsr := hBr.size
      have r0 : wr.cell? ⟨w.heap.size, 0, none⟩ = some (.bool g) := (hBr.cell (p := ⟨w.heap.size, 0, none⟩) hk).trans q0
      have r1 : wr.cell? ⟨w.heap.size, 1, none⟩ = some (.slice a n c) := (hBr.cell (p := ⟨w.heap.size, 1, none⟩) hk).trans q1
      cases j with
      | zero =>
        have hm : ((0 : Nat) : Int) - 1 = -1 := by omega
        rw [hm]
        clear r0 r1 q0 q1
        by_cases hz0 : z = 0
        · have hs0 : sofar z 0 = [] := by rw [hz0]; exact sofar_none
          have hr : Lib.itoa z = [48] := by rw [hz0]; exact itoa_none
          rw [hs0] at hbr
          have hr := Lib.hid hr
          go_wp2_with fail
          refine (Tryz.Builder_Len P P _ wr hbr).mono ?_
          rintro e w4 ⟨rfl, rfl⟩
          rw [show (Lib.byteCells []).length = 0 from rfl]
          go_wp2_with fail
          go_ret
          exact ⟨by rw [hr.out]; rfl, HBr⟩
        · rw [sofar_zero hz0] at hbr
          have hl0 : (Lib.byteCells (Lib.itoa z)).length = (Lib.itoa z).length := byteCells_len _
          have hl1 : (((Lib.itoa z).length : Int) == 0) = false := by
            have := List.length_pos_iff.2 (itoa_ne z)
            rw [beq_eq_false_iff_ne]; omega
          go_wp2_with fail
          refine (Tryz.Builder_Len P P _ wr hbr).mono ?_
          rintro e w4 ⟨rfl, rfl⟩
          rw [hl0]
          go_wp2_with fail
          refine (Tryz.Builder_String_any P P _ w4 hbr (by omega)).mono ?_
          rintro e w5 ⟨rfl, hb5⟩
          go_wp2_with fail
          go_ret
          exact ⟨rfl, HBr.trans (hb5.mono (by omega))⟩
      | succ i =>
        have hm : ((i + 1 : Nat) : Int) - 1 = (i : Int) := by omega
        rw [hm]
        obtain ⟨b, o, rfl, hci⟩ := h.rd.at' (i := i) (by omega)
        have hci' := cell_keep HBr hci
        obtain ⟨x, hx⟩ : ∃ x : Nat, lim (dg z.natAbs) i = (x : Int) := ⟨(lim (dg z.natAbs) i).toNat, by have := h.rd.small i; omega⟩
        rw [hx] at hci'
        have hdi := drop_lim (d := dg z.natAbs) (j := i) (by omega)
        rw [hx, Int.toNat_natCast] at hdi
        have hxl : x < 1000000000 := dg_lt z.natAbs x (by rw [← List.take_append_drop i (dg z.natAbs), hdi]; simp)
        have hxw : IntKind.u64.wrap (x : Int) = (x : Int) := IntWalk.u64_in _ (by omega)
        have HDI := Lib.hid hdi
        have hdl := dec_len hxl
        clear hx hci hdi q0 q1
        by_cases htop : i + 1 = n
        · have htop' : decide ((i : Int) < (n : Int) - 1) = false := by simp; omega
          go_wp2_with fail
          refine (FormatUint_c x (by omega) wr (hT.keep HBr)).mono ?_
          rintro e w4 ⟨rfl, hb4⟩
          have hz4 := hb4.size
          replace hbr := bld_keep hbr hb4
          have r0' := cell_keep hb4 r0
          have r1' := cell_keep hb4 r1
          go_wp2_with fail
          refine (WriteString_c P P _ ⟨(Lib.decDigits x).toArray⟩ w4 hbr (by rw [byteCells_len]; rw [ba_size]; omega) (by omega)).mono ?_
          rintro e w6 ⟨rfl, hb6, hB6⟩
          have q6 : Lib.IsBuilder 106 5 P P (Lib.byteCells (sofar z i)) w6 := by
            rw [sofar_top HDI.out (by rw [htop]; exact HDN.out), ← byteCells_app]
            exact .inr hb6
          have q7 : (sofar z i).length ≤ 9 * (n - i) + 1 := by rw [sofar_top HDI.out (by rw [htop]; exact HDN.out), List.length_append]; omega
          have q8 : Below P wc w6 := (hBr.trans (hb4.mono (by omega))).trans hB6
          clear hbr hb6 hB6 hb4
          go_wp2_with fail
          go_roundw
          case rel => exact ⟨i, by omega, by first | rfl | (simp; done) | (rw [IntWalk.i64_in _ (by omega)]), q6, q7, q8⟩
          case measure => (first | (simp [intOf]; omega) | (simp [intOf]; done))
        · have htop' : decide ((i : Int) < (n : Int) - 1) = true := by simp; omega
          go_wp2_with fail
          refine (FormatUint_c x (by omega) wr (hT.keep HBr)).mono ?_
          rintro e w4 ⟨rfl, hb4⟩
          have hz4 := hb4.size
          replace hbr := bld_keep hbr hb4
          have r0' := cell_keep hb4 r0
          have r1' := cell_keep hb4 r1
          go_wp2_with fail
          have hsub : (9 : Int) - ((Lib.decDigits x).length : Int) = ((9 - (Lib.decDigits x).length : Nat) : Int) := by omega
          rw [hsub]
          refine (Tryz.strings_Repeat ⟨#[48]⟩ (9 - (Lib.decDigits x).length) w4 (by omega) (by show 1 * _ ≤ _; omega)).mono ?_
          rintro e w5 ⟨rfl, hb5⟩
          replace hbr := bld_keep hbr hb5
          have r0'' := cell_keep hb5 r0'
          have r1'' := cell_keep hb5 r1'
          have hz5 := hb5.size
          have hrl : (Lib.repeatL [48] (9 - (Lib.decDigits x).length)).length ≤ 9 := by rw [repeatL_zero, List.length_replicate]; omega
          have hcat : (⟨(Lib.repeatL [48] (9 - (Lib.decDigits x).length)).toArray⟩ : ByteArray).size + (⟨(Lib.decDigits x).toArray⟩ : ByteArray).size ≤ 9223372036854775807 := by rw [ba_size, ba_size]; omega
          go_wp2_with fail
          have happ : ((⟨(Lib.repeatL [48] (9 - (Lib.decDigits x).length)).toArray⟩ : ByteArray) ++ (⟨(Lib.decDigits x).toArray⟩ : ByteArray)) = ⟨(Lib.repeatL [48] (9 - (Lib.decDigits x).length) ++ Lib.decDigits x).toArray⟩ := ba_app _ _
          rw [happ]
          refine (WriteString_c P P _ ⟨(Lib.repeatL [48] (9 - (Lib.decDigits x).length) ++ Lib.decDigits x).toArray⟩ w5 hbr (by rw [byteCells_len, ba_size, List.length_append]; omega) (by omega)).mono ?_
          rintro e w6 ⟨rfl, hb6, hB6⟩
          have hne : (dg z.natAbs).drop (i + 1) ≠ [] := by rw [Ne, List.drop_eq_nil_iff]; omega
          have q6 : Lib.IsBuilder 106 5 P P (Lib.byteCells (sofar z i)) w6 := by
            rw [sofar_next HDI.out hxl hne, ← byteCells_app]
            exact .inr hb6
          have q7 : (sofar z i).length ≤ 9 * (n - i) + 1 := by
            have h1 := congrArg List.length (sofar_next HDI.out hxl hne)
            rw [List.length_append, List.length_append, repeatL_zero, List.length_replicate] at h1
            omega
          have q8 : Below P wc w6 := ((hBr.trans (hb4.mono (by omega))).trans (hb5.mono (by omega))).trans hB6
          clear hbr hb6 hB6 hb4 hne happ
          go_wp2_with fail
          go_roundw
          case rel => exact ⟨i, by omega, by first | rfl | (simp; done) | (rw [IntWalk.i64_in _ (by omega)]), q6, q7, q8⟩
          case measure => (first | (simp [intOf]; omega) | (simp [intOf]; done))
end Go.Proofs.YtdamegaedmckbaaGreatDoor
