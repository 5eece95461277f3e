/- The reader of the shipped package: begins, power, fraction. No further condition. The reader of the shipped package: power. Condition: the variable ErrRange holds something. The reader of the shipped package: fraction. No further condition. -/
import Derived.Test.YtdamegaedmckbaaGreatDoorM38
import Derived.Test.YtdamegaedmckbaaGreatDoorM39
set_option linter.unusedSimpArgs false
set_option linter.unusedVariables false
section
namespace Go.Proofs.YtdamegaedmckbaaGreatDoor
open Go.RowKit

set_option maxRecDepth 100000 in
theorem starts_index (b : UInt8) : decide (0 ≤ Lib.indexByte [120, 121, 122, 116, 48, 49, 50, 51, 52, 53, 54, 55, 56, 57] b) = startsB b := by
  have h : ∀ n : Fin 256, decide (0 ≤ Lib.indexByte [120, 121, 122, 116, 48, 49, 50, 51, 52, 53, 54, 55, 56, 57] (UInt8.ofNat n)) = startsB (UInt8.ofNat n) := by decide
  have := h ⟨b.toNat, b.toNat_lt⟩
  simpa only [UInt8.ofNat_toNat] using this
set_option maxRecDepth 100000 in
set_option maxHeartbeats 4000000 in
theorem begins_c (w : World) (R : Nat) (L : List UInt8) (many : Bool) (h : RdrAt w R L many) (hL : L.length < 1000000000) :
    Calls Tryz.prog 192 #[.pointer (some ⟨R, 0, none⟩)] w fun e w' => e = .returned (.bool (startsL L)) ∧ Below w.heap.size w w' := by
  have h0 := h.c0
  cases L with
  | nil =>
    go_enter Tryz.func192, Tryz.ntmps192
    go_wp2_with fail
    exact bodyPost_ret (v := .bool false) (by simp [results, Tryz.results192, go_sem]) rfl ⟨rfl, Below.refl _ _⟩
  | cons b r =>
    have hy : (⟨(b :: r).toArray⟩ : ByteArray)[0]'(by simp [ByteArray.size]) = b := by simp [ByteArray.getElem_eq_getElem_data]
    have hI : ∀ W : World, Calls Tryz.prog 193 #[.string ⟨#[120, 121, 122, 116, 48, 49, 50, 51, 52, 53, 54, 55, 56, 57]⟩, .int .u8 (b.toNat : Int)] W fun e w' => e = .returned (.int .i64 (Lib.indexByte [120, 121, 122, 116, 48, 49, 50, 51, 52, 53, 54, 55, 56, 57] b)) ∧ w' = W := fun W => by
      have := Tryz.strings_IndexByte ⟨#[120, 121, 122, 116, 48, 49, 50, 51, 52, 53, 54, 55, 56, 57]⟩ (b.toNat : Int) W
      have e : ((b.toNat : Int).toNat.toUInt8) = b := by simp
      rw [e] at this
      exact this
    have hs := starts_index b
    generalize Lib.indexByte [120, 121, 122, 116, 48, 49, 50, 51, 52, 53, 54, 55, 56, 57] b = ix at *
    have HS := Lib.hid hs
    clear hs
    go_enter Tryz.func192, Tryz.ntmps192
    go_wp2_with (first | (go_at_call 193; refine (hI _).mono ?_; rintro e w1 ⟨rfl, rfl⟩))
    refine bodyPost_ret (v := .bool (decide (0 ≤ ix))) (by simp [results, Tryz.results192, go_sem]) rfl ⟨?_, Below.refl _ _⟩
    rw [HS.out]
    rfl
end Go.Proofs.YtdamegaedmckbaaGreatDoor
end
section
namespace Go.Proofs.YtdamegaedmckbaaGreatDoor
open Go.RowKit

theorem rdTakes_c (w : World) (R : Nat) (L : List UInt8) (many : Bool) (c : Int) (h : RdrAt w R L many) (h1 : 0 ≤ c) (h2 : c < 256) (hL : L.length < 1000000000) :
    Calls Tryz.prog 129 #[.pointer (some ⟨R, 0, none⟩), .int .u8 c] w fun e w' => e = .returned (.bool (headIs L c)) ∧ RdrAt w' R (if headIs L c then L.tail else L) many ∧ w.grownBy w' (some R) := by
  refine (takes_129 w R L c h.c0 h.f0 h1 h2 hL).mono ?_
  rintro e w' ⟨rfl, rfl⟩
  refine ⟨rfl, ?_, ?_⟩
  · split
    · exact h.set0 _
    · exact h
  · split
    · exact grown_set _ (grown_refl _ _)
    · exact grown_refl _ _
/-- The variable ErrRange holds an error, or none. -/
def ErrV (w : World) : Prop := ∃ ev, w.cell? ⟨7, 0, none⟩ = some ev ∧ (ev = .nilIface ∨ ∃ te pe, ev = .iface te pe)
theorem ErrV.grown {w w' : World} {row : Option Nat} (h : ErrV w) (hg : w.grownBy w' row) (hr : some 7 ≠ row) : ErrV w' := by
  obtain ⟨ev, h1, h2⟩ := h
  exact ⟨ev, hg.cell h1 hr, h2⟩
/-- What power ends with. -/
def PowPost (w : World) (R : Nat) (x : Option (Nat × List UInt8 × Bool)) (e : Ending) (w' : World) : Prop :=
  w.grownBy w' (some R) ∧ match x with | none => e = .panicked noSum | some (n, r, m) => e = .returned (.int .i64 (n : Nat)) ∧ RdrAt w' R r m
theorem PowPost.no {w w' : World} {R : Nat} (h : w.grownBy w' (some R)) : PowPost w R none (.panicked noSum) w' := ⟨h, rfl⟩
theorem PowPost.yes {w w' : World} {R n : Nat} {r : List UInt8} {m : Bool} (h : w.grownBy w' (some R)) (hr : RdrAt w' R r m) : PowPost w R (some (n, r, m)) (.returned (.int .i64 (n : Nat))) w' := ⟨h, rfl, hr⟩
theorem bytes_or' {w w' : World} (h : w' = w ∨ ∃ t, w' = Lib.bytesWorld w 5 t) : Below w.heap.size w w' := by
  rcases h with rfl | ⟨t, rfl⟩
  · exact Below.refl _ _
  · exact Lib.bytesWorld_below _ _ _
set_option maxRecDepth 100000 in
set_option maxHeartbeats 4000000 in
theorem power_c (w : World) (R : Nat) (L : List UInt8) (many : Bool) (h : RdrAt w R L many) (hL : L.length < 1000000000) (hV : ErrV w) (hR : 7 < R) :
    Calls Tryz.prog 194 #[.pointer (some ⟨R, 0, none⟩)] w (PowPost w R (rdPow L many)) := by
  have hne : some 7 ≠ some R := by simp; omega
  go_enter Tryz.func194, Tryz.ntmps194
  go_wp2_with fail
  refine (rdTakes_c _ R L many 94 h (by omega) (by omega) hL).mono ?_
  rintro e w1 ⟨rfl, hr1, hg1⟩
  cases h94 : headIs L 94
  · rw [h94] at hr1
    have HX := Lib.hid (show rdPow L many = some (1, L, many) by unfold rdPow; rw [h94]; rfl)
    go_wp2_with fail
    refine bodyPost_ret (v := .int .i64 1) (by simp [results, Tryz.results194, go_sem]) rfl ?_
    rw [HX.out]
    exact .yes hg1 hr1
  · rw [h94] at hr1
    simp only [if_true] at hr1
    have hV1 := hV.grown hg1 hne
    go_wp2_with fail
    refine (positive_c _ R L.tail many hr1 (by simp; omega)).mono ?_
    rintro e w2 ⟨hg2, hp⟩
    have hg12 := hg1.trans hg2
    cases hx : rdPos L.tail many with
    | none =>
      rw [hx] at hp
      subst hp
      refine ⟨rfl, ?_⟩
      rw [show rdPow L many = none by unfold rdPow; rw [h94, hx]; rfl]
      exact .no hg12
    | some x =>
      obtain ⟨d, r, m⟩ := x
      rw [hx] at hp
      obtain ⟨rfl, hr⟩ := hp
      have hdig := rdNum_digits (rdPos_num hx).1
      have hdl := rdPos_len hx
      have hat := atoi_digits hdig
      have hV2 := hV1.grown hg2 hne
      have hdlen : d.length < 1000000000 := by simp at hdl; omega
      have HX := Lib.hid (show rdPow L many = if 1000 < numN d then some (0, r, true) else some (numN d, r, m) by unfold rdPow; rw [h94, hx]; rfl)
      clear hx hdig hdl h94 hV hV1 hL
      by_cases h63 : numN d < 9223372036854775808
      · rw [if_pos h63] at hat
        have hA := fun W => Tryz.strconv_Atoi_ok ⟨d.toArray⟩ (by simp [ByteArray.size]; omega) _ hat W
        clear hat
        by_cases hm : 1000 < numN d
        · rw [if_pos hm] at HX
          go_wp2_with (first | (go_at_call 242; refine (hA _).mono ?_; rintro e w3 ⟨rfl, hw3⟩; replace hw3 := bytes_or' hw3; have hr3 := hr.keep hw3; have k0 := hr3.c0; have k1 := hr3.c1; have l0 := hr3.f0; have l1 := hr3.f1))
          refine bodyPost_ret (v := .int .i64 0) (by simp [results, Tryz.results194, go_sem]) rfl ?_
          rw [HX.out]
          exact .yes (grown_set _ (hg12.trans (grown_below hw3 _))) (hr3.set1 true)
        · rw [if_neg hm] at HX
          go_wp2_with (first | (go_at_call 242; refine (hA _).mono ?_; rintro e w3 ⟨rfl, hw3⟩; replace hw3 := bytes_or' hw3; have hr3 := hr.keep hw3; have k0 := hr3.c0; have k1 := hr3.c1; have l0 := hr3.f0; have l1 := hr3.f1))
          refine bodyPost_ret (v := .int .i64 (numN d : Nat)) (by simp [results, Tryz.results194, go_sem]) rfl ?_
          rw [HX.out]
          exact .yes (hg12.trans (grown_below hw3 _)) hr3
      · rw [if_neg h63] at hat
        obtain ⟨ev, hv1, hv2⟩ := hV2
        have hA := Tryz.strconv_Atoi_range ⟨d.toArray⟩ (by simp [ByteArray.size]; omega) hat ev w2 hv1 hv2
        rw [if_pos (by omega)] at HX
        clear hat
        go_wp2_with (first | (go_at_call 242; refine hA.mono ?_; rintro e w3 ⟨N, rfl, hN, hb3, hw3⟩; clear hb3 hN; have hr3 := hr.keep hw3; have k0 := hr3.c0; have k1 := hr3.c1; have l0 := hr3.f0; have l1 := hr3.f1))
        refine bodyPost_ret (v := .int .i64 0) (by simp [results, Tryz.results194, go_sem]) rfl ?_
        rw [HX.out]
        exact .yes (grown_set _ (hg12.trans (grown_below hw3 _))) (hr3.set1 true)
end Go.Proofs.YtdamegaedmckbaaGreatDoor
end
section
namespace Go.Proofs.YtdamegaedmckbaaGreatDoor
open Go.RowKit

/-- A fraction, or the struct that is none and counts as 0. -/
def FrVal (w : World) (B : Nat) (v : Value) (c : PC) : Prop := FrIs w B v c ∨ (v = frV false none 0 0 false none 0 0 ∧ c = (0, 1))
/-- What fraction ends with. -/
def FracPost (w : World) (R : Nat) (x : Option (PC × List UInt8 × Bool)) (e : Ending) (w' : World) : Prop :=
  w.grownBy w' (some R) ∧ match x with | none => e = .panicked noSum | some (c, r, m) => ∃ v, e = .returned v ∧ FrVal w' w.heap.size v c ∧ RdrAt w' R r m
theorem FracPost.no {w w' : World} {R : Nat} (h : w.grownBy w' (some R)) : FracPost w R none (.panicked noSum) w' := ⟨h, rfl⟩
theorem grown_frozen {w w' : World} {row : Option Nat} {b i : Nat} (hg : w.grownBy w' row) (hlt : b < w.heap.size) (hne : some b ≠ row) : w'.frozen? ⟨b, i, none⟩ = w.frozen? ⟨b, i, none⟩ :=
  World.frozen?_of_block (a := ⟨b, i, none⟩) (hg.block b hlt hne)
theorem grown_setNew {w w' : World} {row : Option Nat} {p : Addr} (v : Value) (h : w.grownBy w' row) (hp : w.heap.size ≤ p.block) : w.grownBy (w'.setCell p v) row := by
  have hb : Below p.block w' (w'.setCell p v) := (Below.refl p.block w').setCell (p := p) (Nat.le_refl _) v
  exact ⟨hb.os.trans h.os, hb.tape.trans h.tape, hb.output.trans h.output, Nat.le_trans h.size hb.size, fun k hk hne => (hb.block k (by omega)).trans (h.block k hk hne)⟩
theorem grown_allocR {w w' : World} {row : Option Nat} (o : Obj) (h : w.grownBy w' row) : w.grownBy (w'.alloc o) row := h.trans (World.grownBy_alloc w' o row)
theorem RdrAt.setOther {w : World} {R : Nat} {L : List UInt8} {many : Bool} (h : RdrAt w R L many) {p : Addr} (v : Value) (hp : p.block ≠ R) : RdrAt (w.setCell p v) R L many := by
  have hh : ∀ i, (w.setCell p v).heap[(⟨R, i, none⟩ : Addr).block]? = w.heap[(⟨R, i, none⟩ : Addr).block]? := fun i => Below.heap_setCell w p v R (fun e => hp e.symm)
  exact ⟨(World.cell?_of_block (hh 0)).trans h.c0, (World.cell?_of_block (hh 1)).trans h.c1, (World.frozen?_of_block (hh 0)).trans h.f0, (World.frozen?_of_block (hh 1)).trans h.f1⟩
theorem RdrAt.allocR {w : World} {R : Nat} {L : List UInt8} {many : Bool} (h : RdrAt w R L many) (o : Obj) : RdrAt (w.alloc o) R L many := h.keep ((Below.refl _ _).alloc (Nat.le_refl _) o)
theorem numZ_one : numZ [49] = 1 := by decide
set_option maxRecDepth 100000 in
set_option maxHeartbeats 4000000 in
theorem fraction_c (w : World) (R : Nat) (L : List UInt8) (many : Bool) (h : RdrAt w R L many) (hL : L.length < 1000000000) :
    Calls Tryz.prog 195 #[.pointer (some ⟨R, 0, none⟩)] w (FracPost w R (rdFrac L many)) := by
  have hRlt := h.lt
  have hne : some w.heap.size ≠ some R := by simp; omega
  have W0 := World.grownBy_alloc w (.cells #[.bool false, .slice none 0 0, .bool false, .slice none 0 0] 64) (some R)
  have hb0 : Below w.heap.size w (w.alloc (.cells #[.bool false, .slice none 0 0, .bool false, .slice none 0 0] 64)) := by go_grown
  have d0 : (w.alloc (.cells #[.bool false, .slice none 0 0, .bool false, .slice none 0 0] 64)).cell? ⟨w.heap.size, 0, none⟩ = some (.bool false) := by simp [go_sem]
  have g0 : (w.alloc (.cells #[.bool false, .slice none 0 0, .bool false, .slice none 0 0] 64)).frozen? ⟨w.heap.size, 0, none⟩ = false := by simp [go_sem]
  have d1 : (w.alloc (.cells #[.bool false, .slice none 0 0, .bool false, .slice none 0 0] 64)).cell? ⟨w.heap.size, 1, none⟩ = some (.slice none 0 0) := by simp [go_sem]
  have g1 : (w.alloc (.cells #[.bool false, .slice none 0 0, .bool false, .slice none 0 0] 64)).frozen? ⟨w.heap.size, 1, none⟩ = false := by simp [go_sem]
  have d2 : (w.alloc (.cells #[.bool false, .slice none 0 0, .bool false, .slice none 0 0] 64)).cell? ⟨w.heap.size, 2, none⟩ = some (.bool false) := by simp [go_sem]
  have g2 : (w.alloc (.cells #[.bool false, .slice none 0 0, .bool false, .slice none 0 0] 64)).frozen? ⟨w.heap.size, 2, none⟩ = false := by simp [go_sem]
  have d3 : (w.alloc (.cells #[.bool false, .slice none 0 0, .bool false, .slice none 0 0] 64)).cell? ⟨w.heap.size, 3, none⟩ = some (.slice none 0 0) := by simp [go_sem]
  have g3 : (w.alloc (.cells #[.bool false, .slice none 0 0, .bool false, .slice none 0 0] 64)).frozen? ⟨w.heap.size, 3, none⟩ = false := by simp [go_sem]
  go_enter Tryz.func195, Tryz.ntmps195
  go_wp2_with fail
  refine (number_c _ R L many (h.keep hb0) hL).mono ?_
  rintro e w1 ⟨hg1, hp⟩
  replace g0 := (grown_frozen hg1 (World.block_lt_of_cell? _ _ d0) hne).trans g0
  replace d0 := World.grownBy.cell hg1 d0 hne
  replace g1 := (grown_frozen hg1 (World.block_lt_of_cell? _ _ d1) hne).trans g1
  replace d1 := World.grownBy.cell hg1 d1 hne
  replace g2 := (grown_frozen hg1 (World.block_lt_of_cell? _ _ d2) hne).trans g2
  replace d2 := World.grownBy.cell hg1 d2 hne
  replace g3 := (grown_frozen hg1 (World.block_lt_of_cell? _ _ d3) hne).trans g3
  replace d3 := World.grownBy.cell hg1 d3 hne
  have hgw := W0.trans hg1
  cases hx : rdNum L many with
  | none =>
    rw [hx] at hp
    subst hp
    refine ⟨rfl, ?_⟩
    rw [show rdFrac L many = none by unfold rdFrac; rw [hx]]
    exact .no hgw
  | some x =>
    obtain ⟨t, r, m⟩ := x
    rw [hx] at hp
    obtain ⟨rfl, hr1⟩ := hp
    have hdt := rdNum_digits hx
    have hlt := rdNum_len hx
    have htl : t.length < 1000000000 := by omega
    have hrl : r.length < 1000000000 := by omega
    clear W0 hb0 hg1
    go_wp2_with fail
    refine (rdTakes_c _ R r m 47 hr1 (by omega) (by omega) hrl).mono ?_
    rintro e w2 ⟨rfl, hr2, hg2⟩
    replace g0 := (grown_frozen hg2 (World.block_lt_of_cell? _ _ d0) hne).trans g0
    replace d0 := World.grownBy.cell hg2 d0 hne
    replace g1 := (grown_frozen hg2 (World.block_lt_of_cell? _ _ d1) hne).trans g1
    replace d1 := World.grownBy.cell hg2 d1 hne
    replace g2 := (grown_frozen hg2 (World.block_lt_of_cell? _ _ d2) hne).trans g2
    replace d2 := World.grownBy.cell hg2 d2 hne
    replace g3 := (grown_frozen hg2 (World.block_lt_of_cell? _ _ d3) hne).trans g3
    replace d3 := World.grownBy.cell hg2 d3 hne
    replace hgw := hgw.trans hg2
    clear hr1 hg2
    cases h47 : headIs r 47
    · rw [h47] at hr2
      simp only [Bool.false_eq_true, if_false] at hr2
      have HX := Lib.hid (show rdFrac L many = some (mkFr (numZ t) (numZ [49]), r, m) by rw [numZ_one]; unfold rdFrac; rw [hx]; simp only; rw [h47]; rfl)
      have hd1 : digitsB [49] = true := by decide
      have hl1 : ([49] : List UInt8).length < 1000000000 := by decide
      clear hx h47 hlt hL
      have hz' := numZ_few hd1
      have hzt := numZ_few hdt
      go_wp2_with (first
        | (go_at_call 245; (with_reducible refine (limbsParse_c _ t hdt htl).mono ?_); rintro e w4 ⟨gt, at', nt, ct, kt, rfl, hnt, hb4⟩; replace g0 := (Below.frozen hb4 (World.block_lt_of_cell? _ _ d0)).trans g0; replace d0 := cell_keep hb4 d0; replace g1 := (Below.frozen hb4 (World.block_lt_of_cell? _ _ d1)).trans g1; replace d1 := cell_keep hb4 d1; replace g2 := (Below.frozen hb4 (World.block_lt_of_cell? _ _ d2)).trans g2; replace d2 := cell_keep hb4 d2; replace g3 := (Below.frozen hb4 (World.block_lt_of_cell? _ _ d3)).trans g3; replace d3 := cell_keep hb4 d3)
        | (go_at_call 245; (with_reducible refine (limbsParse_c _ [49] hd1 hl1).mono ?_); rintro e w5 ⟨gl, al, nl, cl, kl, rfl, hnl, hb5⟩; have nb0 := cell_keep hb5 (by simp [go_sem] : World.cell? _ ⟨w4.heap.size, 0, none⟩ = some (.bool gt)); have nb1 := cell_keep hb5 (by simp [go_sem] : World.cell? _ ⟨w4.heap.size, 1, none⟩ = some (.slice at' nt ct)); have HB45 : Below w4.heap.size w4 w5 := Below.trans (by go_grown) (hb5.mono (by go_size)); have hz45 : w4.heap.size < w5.heap.size := (by have := hb5.size; simp only [World.size_alloc] at this; omega); replace g0 := (Below.frozen HB45 (World.block_lt_of_cell? _ _ d0)).trans g0; replace d0 := cell_keep HB45 d0; replace g1 := (Below.frozen HB45 (World.block_lt_of_cell? _ _ d1)).trans g1; replace d1 := cell_keep HB45 d1; replace g2 := (Below.frozen HB45 (World.block_lt_of_cell? _ _ d2)).trans g2; replace d2 := cell_keep HB45 d2; replace g3 := (Below.frozen HB45 (World.block_lt_of_cell? _ _ d3)).trans g3; replace d3 := cell_keep HB45 d3))
      have et := hnt.rd.len
      have el := hnl.rd.len
      simp only [Int.natAbs_natCast] at et el
      have hnt5 := hnt.keep HB45
      have hr5 := (hr2.keep hb4).keep HB45
      have hgw5 := (hgw.trans (grown_below hb4 _)).trans (grown_below HB45 _)
      have hz5 := hgw5.size
      clear hb4 hb5 hnt hgw hr2 HB45
      by_cases h0 : numZ [49] = 0
      · exact absurd h0 (by rw [numZ_one]; decide)
      · have HX2 := Lib.hid (show mkFr (numZ t) (numZ [49]) = (lowP (numZ t : Nat) (numZ [49] : Nat), lowQ (numZ t : Nat) (numZ [49] : Nat)) by unfold mkFr; rw [if_neg h0])
        go_wp2_with (first | (go_at_call 246; (with_reducible refine (Make_pos _ _ _ _ _ _ (hnt5.keep (by go_grown)) _ _ _ _ _ (hnl.keep (by go_grown)) (by omega) (by omega) (by omega)).mono ?_); rintro e w6 ⟨ge, ae, ne, ce, gf, af, nf, cf, rfl, hfr, hfe, hff, hb6⟩; have HB56 : Below w5.heap.size w5 w6 := Below.trans (by go_grown) (hb6.mono (by go_size)); have hz56 : w5.heap.size < w6.heap.size := (by have := hb6.size; simp only [World.size_alloc] at this; omega); replace g0 := (Below.frozen HB56 (World.block_lt_of_cell? _ _ d0)).trans g0; replace d0 := cell_keep HB56 d0; replace g1 := (Below.frozen HB56 (World.block_lt_of_cell? _ _ d1)).trans g1; replace d1 := cell_keep HB56 d1; replace g2 := (Below.frozen HB56 (World.block_lt_of_cell? _ _ d2)).trans g2; replace d2 := cell_keep HB56 d2; replace g3 := (Below.frozen HB56 (World.block_lt_of_cell? _ _ d3)).trans g3; replace d3 := cell_keep HB56 d3; have hk6 : w.heap.size < w6.heap.size := World.block_lt_of_cell? _ _ d0))
        refine bodyPost_ret (v := frV ge ae ne ce gf af nf cf) (by simp [*, results, Tryz.results195, go_sem]) rfl ?_
        rw [HX.out, HX2.out]
        have hg6 := hgw5.trans (grown_below HB56 _)
        have hne' : w.heap.size ≠ R := by omega
        have hr6 := hr5.keep HB56
        have fe : Fresh (w.heap.size + 1) w6 ae ce := hfe.mono (by go_size)
        have ff : Fresh (w.heap.size + 1) w6 af cf := hff.mono (by go_size)
        have ke : Nw w.heap.size ne ae := Nw.mono (fe.newA hfr.top.rd) (by omega)
        have kf : Nw w.heap.size nf af := Nw.mono (ff.newA hfr.low.rd) (by omega)
        have u : w.heap.size < w.heap.size + 1 := Nat.lt_succ_self _
        exact ⟨grown_allocR _ (grown_setNew _ (grown_setNew _ (grown_setNew _ (grown_setNew _ hg6 (Nat.le_refl _)) (Nat.le_refl _)) (Nat.le_refl _)) (Nat.le_refl _)), _, rfl, .inl (FrIs.keep ⟨_, _, _, _, _, _, _, _, rfl, ⟨hfr.top.set4 fe _ _ _ _ _ _ _ _ u u u u, hfr.low.set4 ff _ _ _ _ _ _ _ _ u u u u, hfr.pos, hfr.red⟩, ke, kf⟩ ((Below.refl _ _).alloc (Nat.le_refl _) _)), ((((hr6.setOther _ hne').setOther _ hne').setOther _ hne').setOther _ hne').allocR _⟩
    · rw [h47] at hr2
      simp only [if_true] at hr2
      go_wp2_with fail
      refine (positive_c _ R r.tail m hr2 (by simp; omega)).mono ?_
      rintro e w3 ⟨hg3, hp⟩
      replace g0 := (grown_frozen hg3 (World.block_lt_of_cell? _ _ d0) hne).trans g0
      replace d0 := World.grownBy.cell hg3 d0 hne
      replace g1 := (grown_frozen hg3 (World.block_lt_of_cell? _ _ d1) hne).trans g1
      replace d1 := World.grownBy.cell hg3 d1 hne
      replace g2 := (grown_frozen hg3 (World.block_lt_of_cell? _ _ d2) hne).trans g2
      replace d2 := World.grownBy.cell hg3 d2 hne
      replace g3 := (grown_frozen hg3 (World.block_lt_of_cell? _ _ d3) hne).trans g3
      replace d3 := World.grownBy.cell hg3 d3 hne
      replace hgw := hgw.trans hg3
      cases hy : rdPos r.tail m with
      | none =>
        rw [hy] at hp
        subst hp
        refine ⟨rfl, ?_⟩
        rw [show rdFrac L many = none by unfold rdFrac; rw [hx]; simp only; rw [h47, hy]; rfl]
        exact .no hgw
      | some y =>
        obtain ⟨l, r', m'⟩ := y
        rw [hy] at hp
        obtain ⟨rfl, hr3⟩ := hp
        have hdl := rdNum_digits (rdPos_num hy).1
        have hll := rdPos_len hy
        have hll' : l.length < 1000000000 := by simp at hll; omega
        have HX := Lib.hid (show rdFrac L many = some (mkFr (numZ t) (numZ l), r', m') by unfold rdFrac; rw [hx]; simp only; rw [h47, hy]; rfl)
        clear hx hy h47 hlt hL hr2 hg3 hll
        have hz' := numZ_few hdl
        have hzt := numZ_few hdt
        go_wp2_with (first
          | (go_at_call 245; (with_reducible refine (limbsParse_c _ t hdt htl).mono ?_); rintro e w4 ⟨gt, at', nt, ct, kt, rfl, hnt, hb4⟩; replace g0 := (Below.frozen hb4 (World.block_lt_of_cell? _ _ d0)).trans g0; replace d0 := cell_keep hb4 d0; replace g1 := (Below.frozen hb4 (World.block_lt_of_cell? _ _ d1)).trans g1; replace d1 := cell_keep hb4 d1; replace g2 := (Below.frozen hb4 (World.block_lt_of_cell? _ _ d2)).trans g2; replace d2 := cell_keep hb4 d2; replace g3 := (Below.frozen hb4 (World.block_lt_of_cell? _ _ d3)).trans g3; replace d3 := cell_keep hb4 d3)
          | (go_at_call 245; (with_reducible refine (limbsParse_c _ l hdl hll').mono ?_); rintro e w5 ⟨gl, al, nl, cl, kl, rfl, hnl, hb5⟩; have nb0 := cell_keep hb5 (by simp [go_sem] : World.cell? _ ⟨w4.heap.size, 0, none⟩ = some (.bool gt)); have nb1 := cell_keep hb5 (by simp [go_sem] : World.cell? _ ⟨w4.heap.size, 1, none⟩ = some (.slice at' nt ct)); have HB45 : Below w4.heap.size w4 w5 := Below.trans (by go_grown) (hb5.mono (by go_size)); have hz45 : w4.heap.size < w5.heap.size := (by have := hb5.size; simp only [World.size_alloc] at this; omega); replace g0 := (Below.frozen HB45 (World.block_lt_of_cell? _ _ d0)).trans g0; replace d0 := cell_keep HB45 d0; replace g1 := (Below.frozen HB45 (World.block_lt_of_cell? _ _ d1)).trans g1; replace d1 := cell_keep HB45 d1; replace g2 := (Below.frozen HB45 (World.block_lt_of_cell? _ _ d2)).trans g2; replace d2 := cell_keep HB45 d2; replace g3 := (Below.frozen HB45 (World.block_lt_of_cell? _ _ d3)).trans g3; replace d3 := cell_keep HB45 d3))
        have et := hnt.rd.len
        have el := hnl.rd.len
        simp only [Int.natAbs_natCast] at et el
        have hnt5 := hnt.keep HB45
        have hr5 := (hr3.keep hb4).keep HB45
        have hgw5 := (hgw.trans (grown_below hb4 _)).trans (grown_below HB45 _)
        have hz5 := hgw5.size
        clear hb4 hb5 hnt hgw hr3 HB45
        by_cases h0 : numZ l = 0
        · have HX2 := Lib.hid (show mkFr (numZ t) (numZ l) = (0, 1) by unfold mkFr; rw [if_pos h0])
          rw [h0] at hnl
          go_wp2_with (first | (go_at_call 246; (with_reducible refine (Make_zero _ _ _ _ _ _ (hnt5.keep (by go_grown)) _ _ _ _ (hnl.keep (by go_grown))).mono ?_); rintro e w6 ⟨rfl, hb6⟩; have HB56 : Below w5.heap.size w5 w6 := Below.trans (by go_grown) (hb6.mono (by go_size)); have hz56 : w5.heap.size < w6.heap.size := (by have := hb6.size; simp only [World.size_alloc] at this; omega); replace g0 := (Below.frozen HB56 (World.block_lt_of_cell? _ _ d0)).trans g0; replace d0 := cell_keep HB56 d0; replace g1 := (Below.frozen HB56 (World.block_lt_of_cell? _ _ d1)).trans g1; replace d1 := cell_keep HB56 d1; replace g2 := (Below.frozen HB56 (World.block_lt_of_cell? _ _ d2)).trans g2; replace d2 := cell_keep HB56 d2; replace g3 := (Below.frozen HB56 (World.block_lt_of_cell? _ _ d3)).trans g3; replace d3 := cell_keep HB56 d3; have hk6 : w.heap.size < w6.heap.size := World.block_lt_of_cell? _ _ d0))
          refine bodyPost_ret (v := frV false none 0 0 false none 0 0) (by simp [*, results, Tryz.results195, go_sem]) rfl ?_
          rw [HX.out, HX2.out]
          have hg6 := hgw5.trans (grown_below HB56 _)
          have hne' : w.heap.size ≠ R := by omega
          have hr6 := hr5.keep HB56
          exact ⟨grown_allocR _ (grown_setNew _ (grown_setNew _ (grown_setNew _ (grown_setNew _ hg6 (Nat.le_refl _)) (Nat.le_refl _)) (Nat.le_refl _)) (Nat.le_refl _)), _, rfl, .inr ⟨rfl, rfl⟩, ((((hr6.setOther _ hne').setOther _ hne').setOther _ hne').setOther _ hne').allocR _⟩
        · have HX2 := Lib.hid (show mkFr (numZ t) (numZ l) = (lowP (numZ t : Nat) (numZ l : Nat), lowQ (numZ t : Nat) (numZ l : Nat)) by unfold mkFr; rw [if_neg h0])
          go_wp2_with (first | (go_at_call 246; (with_reducible refine (Make_pos _ _ _ _ _ _ (hnt5.keep (by go_grown)) _ _ _ _ _ (hnl.keep (by go_grown)) (by omega) (by omega) (by omega)).mono ?_); rintro e w6 ⟨ge, ae, ne, ce, gf, af, nf, cf, rfl, hfr, hfe, hff, hb6⟩; have HB56 : Below w5.heap.size w5 w6 := Below.trans (by go_grown) (hb6.mono (by go_size)); have hz56 : w5.heap.size < w6.heap.size := (by have := hb6.size; simp only [World.size_alloc] at this; omega); replace g0 := (Below.frozen HB56 (World.block_lt_of_cell? _ _ d0)).trans g0; replace d0 := cell_keep HB56 d0; replace g1 := (Below.frozen HB56 (World.block_lt_of_cell? _ _ d1)).trans g1; replace d1 := cell_keep HB56 d1; replace g2 := (Below.frozen HB56 (World.block_lt_of_cell? _ _ d2)).trans g2; replace d2 := cell_keep HB56 d2; replace g3 := (Below.frozen HB56 (World.block_lt_of_cell? _ _ d3)).trans g3; replace d3 := cell_keep HB56 d3; have hk6 : w.heap.size < w6.heap.size := World.block_lt_of_cell? _ _ d0))
          refine bodyPost_ret (v := frV ge ae ne ce gf af nf cf) (by simp [*, results, Tryz.results195, go_sem]) rfl ?_
          rw [HX.out, HX2.out]
          have hg6 := hgw5.trans (grown_below HB56 _)
          have hne' : w.heap.size ≠ R := by omega
          have hr6 := hr5.keep HB56
          have fe : Fresh (w.heap.size + 1) w6 ae ce := hfe.mono (by go_size)
          have ff : Fresh (w.heap.size + 1) w6 af cf := hff.mono (by go_size)
          have ke : Nw w.heap.size ne ae := Nw.mono (fe.newA hfr.top.rd) (by omega)
          have kf : Nw w.heap.size nf af := Nw.mono (ff.newA hfr.low.rd) (by omega)
          have u : w.heap.size < w.heap.size + 1 := Nat.lt_succ_self _
          exact ⟨grown_allocR _ (grown_setNew _ (grown_setNew _ (grown_setNew _ (grown_setNew _ hg6 (Nat.le_refl _)) (Nat.le_refl _)) (Nat.le_refl _)) (Nat.le_refl _)), _, rfl, .inl (FrIs.keep ⟨_, _, _, _, _, _, _, _, rfl, ⟨hfr.top.set4 fe _ _ _ _ _ _ _ _ u u u u, hfr.low.set4 ff _ _ _ _ _ _ _ _ u u u u, hfr.pos, hfr.red⟩, ke, kf⟩ ((Below.refl _ _).alloc (Nat.le_refl _) _)), ((((hr6.setOther _ hne').setOther _ hne').setOther _ hne').setOther _ hne').allocR _⟩
end Go.Proofs.YtdamegaedmckbaaGreatDoor
end
