/- The reader of the shipped package: begins, power, fraction. No further condition. The reader of the shipped package: power. Condition: the variable ErrRange holds something. The reader of the shipped package: fraction. No further condition. The reader's term under way: what lies in memory. No condition. -/
import Derived.Test.YtdamegaedmckbaaGreatDoorX32
import Derived.Test.YtdamegaedmckbaaGreatDoorX33
import Derived.Test.YtdamegaedmckbaaGreatDoorX31
set_option linter.unusedSimpArgs false
set_option linter.unusedVariables false
section
namespace Go.Proofs.YtdamegaedmckbaaGreatDoor
open Go.RowKit

set_option maxRecDepth 100000 in
theorem starts_index (b : UInt8) : decide (0 ≤ Lib.indexByte [120, 121, 122, 116, 48, 49, 50, 51, 52, 53, 54, 55, 56, 57] b) = startsB b := by
  have h : ∀ n : Fin 256, decide (0 ≤ Lib.indexByte [120, 121, 122, 116, 48, 49, 50, 51, 52, 53, 54, 55, 56, 57] (UInt8.ofNat n)) = startsB (UInt8.ofNat n) := by decide
  have := h ⟨b.toNat, b.toNat_lt⟩
  simpa only [UInt8.ofNat_toNat] using this
set_option maxRecDepth 100000 in
set_option maxHeartbeats 4000000 in
theorem begins_c (w : World) (R : Nat) (L : List UInt8) (many : Bool) (h : RdrAt w R L many) (hL : L.length < 1000000000) :
    Calls Tryz.prog 192 #[.pointer (some ⟨R, 0, none⟩)] w fun e w' => e = .returned (.bool (startsL L)) ∧ Below w.heap.size w w' := by
  have h0 := h.c0
  cases L with
  | nil =>
    go_enter Tryz.func192, Tryz.ntmps192
    go_wp2_with fail
    exact bodyPost_ret (v := .bool false) (by simp [results, Tryz.results192, go_sem]) rfl ⟨rfl, Below.refl _ _⟩
  | cons b r =>
    have hy : (⟨(b :: r).toArray⟩ : ByteArray)[0]'(by simp [ByteArray.size]) = b := by simp [ByteArray.getElem_eq_getElem_data]
    have hI : ∀ W : World, Calls Tryz.prog 193 #[.string ⟨#[120, 121, 122, 116, 48, 49, 50, 51, 52, 53, 54, 55, 56, 57]⟩, .int .u8 (b.toNat : Int)] W fun e w' => e = .returned (.int .i64 (Lib.indexByte [120, 121, 122, 116, 48, 49, 50, 51, 52, 53, 54, 55, 56, 57] b)) ∧ w' = W := fun W => by
      have := Tryz.strings_IndexByte ⟨#[120, 121, 122, 116, 48, 49, 50, 51, 52, 53, 54, 55, 56, 57]⟩ (b.toNat : Int) W
      have e : ((b.toNat : Int).toNat.toUInt8) = b := by simp
      rw [e] at this
      exact this
    have hs := starts_index b
    generalize Lib.indexByte [120, 121, 122, 116, 48, 49, 50, 51, 52, 53, 54, 55, 56, 57] b = ix at *
    have HS := Lib.hid hs
    clear hs
    go_enter Tryz.func192, Tryz.ntmps192
    go_wp2_with (first | (go_at_call 193; refine (hI _).mono ?_; rintro e w1 ⟨rfl, rfl⟩))
    refine bodyPost_ret (v := .bool (decide (0 ≤ ix))) (by simp [results, Tryz.results192, go_sem]) rfl ⟨?_, Below.refl _ _⟩
    rw [HS.out]
    rfl
end Go.Proofs.YtdamegaedmckbaaGreatDoor
end
section
namespace Go.Proofs.YtdamegaedmckbaaGreatDoor
open Go.RowKit

theorem rdTakes_c (w : World) (R : Nat) (L : List UInt8) (many : Bool) (c : Int) (h : RdrAt w R L many) (h1 : 0 ≤ c) (h2 : c < 256) (hL : L.length < 1000000000) :
    Calls Tryz.prog 129 #[.pointer (some ⟨R, 0, none⟩), .int .u8 c] w fun e w' => e = .returned (.bool (headIs L c)) ∧ RdrAt w' R (if headIs L c then L.tail else L) many ∧ w.grownBy w' (some R) := by
  refine (takes_129 w R L c h.c0 h.f0 h1 h2 hL).mono ?_
  rintro e w' ⟨rfl, rfl⟩
  refine ⟨rfl, ?_, ?_⟩
  · split
    · exact h.set0 _
    · exact h
  · split
    · exact grown_set _ (grown_refl _ _)
    · exact grown_refl _ _
/-- The variable ErrRange holds an error, or none. -/
def ErrV (w : World) : Prop := ∃ ev, w.cell? ⟨7, 0, none⟩ = some ev ∧ (ev = .nilIface ∨ ∃ te pe, ev = .iface te pe)
theorem ErrV.grown {w w' : World} {row : Option Nat} (h : ErrV w) (hg : w.grownBy w' row) (hr : some 7 ≠ row) : ErrV w' := by
  obtain ⟨ev, h1, h2⟩ := h
  exact ⟨ev, hg.cell h1 hr, h2⟩
/-- What power ends with. -/
def PowPost (w : World) (R : Nat) (x : Option (Nat × List UInt8 × Bool)) (e : Ending) (w' : World) : Prop :=
  w.grownBy w' (some R) ∧ match x with | none => e = .panicked noSum | some (n, r, m) => e = .returned (.int .i64 (n : Nat)) ∧ RdrAt w' R r m
theorem PowPost.no {w w' : World} {R : Nat} (h : w.grownBy w' (some R)) : PowPost w R none (.panicked noSum) w' := ⟨h, rfl⟩
theorem PowPost.yes {w w' : World} {R n : Nat} {r : List UInt8} {m : Bool} (h : w.grownBy w' (some R)) (hr : RdrAt w' R r m) : PowPost w R (some (n, r, m)) (.returned (.int .i64 (n : Nat))) w' := ⟨h, rfl, hr⟩
theorem bytes_or' {w w' : World} (h : w' = w ∨ ∃ t, w' = Lib.bytesWorld w 5 t) : Below w.heap.size w w' := by
  rcases h with rfl | ⟨t, rfl⟩
  · exact Below.refl _ _
  · exact Lib.bytesWorld_below _ _ _
set_option maxRecDepth 100000 in
set_option maxHeartbeats 4000000 in
theorem power_c (w : World) (R : Nat) (L : List UInt8) (many : Bool) (h : RdrAt w R L many) (hL : L.length < 1000000000) (hV : ErrV w) (hR : 7 < R) :
    Calls Tryz.prog 194 #[.pointer (some ⟨R, 0, none⟩)] w (PowPost w R (rdPow L many)) := by
  have hne : some 7 ≠ some R := by simp; omega
  go_enter Tryz.func194, Tryz.ntmps194
  go_wp2_with fail
  refine (rdTakes_c _ R L many 94 h (by omega) (by omega) hL).mono ?_
  rintro e w1 ⟨rfl, hr1, hg1⟩
  cases h94 : headIs L 94
  · rw [h94] at hr1
    have HX := Lib.hid (show rdPow L many = some (1, L, many) by unfold rdPow; rw [h94]; rfl)
    go_wp2_with fail
    refine bodyPost_ret (v := .int .i64 1) (by simp [results, Tryz.results194, go_sem]) rfl ?_
    rw [HX.out]
    exact .yes hg1 hr1
  · rw [h94] at hr1
    simp only [if_true] at hr1
    have hV1 := hV.grown hg1 hne
    go_wp2_with fail
    refine (positive_c _ R L.tail many hr1 (by simp; omega)).mono ?_
    rintro e w2 ⟨hg2, hp⟩
    have hg12 := hg1.trans hg2
    cases hx : rdPos L.tail many with
    | none =>
      rw [hx] at hp
      subst hp
      refine ⟨rfl, ?_⟩
      rw [show rdPow L many = none by unfold rdPow; rw [h94, hx]; rfl]
      exact .no hg12
    | some x =>
      obtain ⟨d, r, m⟩ := x
      rw [hx] at hp
      obtain ⟨rfl, hr⟩ := hp
      have hdig := rdNum_digits (rdPos_num hx).1
      have hdl := rdPos_len hx
      have hat := atoi_digits hdig
      have hV2 := hV1.grown hg2 hne
      have hdlen : d.length < 1000000000 := by simp at hdl; omega
      have HX := Lib.hid (show rdPow L many = if 1000 < numN d then some (0, r, true) else some (numN d, r, m) by unfold rdPow; rw [h94, hx]; rfl)
      clear hx hdig hdl h94 hV hV1 hL
      by_cases h63 : numN d < 9223372036854775808
      · rw [if_pos h63] at hat
        have hA := fun W => Tryz.strconv_Atoi_ok ⟨d.toArray⟩ (by simp [ByteArray.size]; omega) _ hat W
        clear hat
        by_cases hm : 1000 < numN d
        · rw [if_pos hm] at HX
          go_wp2_with (first | (go_at_call 242; refine (hA _).mono ?_; rintro e w3 ⟨rfl, hw3⟩; replace hw3 := bytes_or' hw3; have hr3 := hr.keep hw3; have k0 := hr3.c0; have k1 := hr3.c1; have l0 := hr3.f0; have l1 := hr3.f1))
          refine bodyPost_ret (v := .int .i64 0) (by simp [results, Tryz.results194, go_sem]) rfl ?_
          rw [HX.out]
          exact .yes (grown_set _ (hg12.trans (grown_below hw3 _))) (hr3.set1 true)
        · rw [if_neg hm] at HX
          go_wp2_with (first | (go_at_call 242; refine (hA _).mono ?_; rintro e w3 ⟨rfl, hw3⟩; replace hw3 := bytes_or' hw3; have hr3 := hr.keep hw3; have k0 := hr3.c0; have k1 := hr3.c1; have l0 := hr3.f0; have l1 := hr3.f1))
          refine bodyPost_ret (v := .int .i64 (numN d : Nat)) (by simp [results, Tryz.results194, go_sem]) rfl ?_
          rw [HX.out]
          exact .yes (hg12.trans (grown_below hw3 _)) hr3
      · rw [if_neg h63] at hat
        obtain ⟨ev, hv1, hv2⟩ := hV2
        have hA := Tryz.strconv_Atoi_range ⟨d.toArray⟩ (by simp [ByteArray.size]; omega) hat ev w2 hv1 hv2
        rw [if_pos (by omega)] at HX
        clear hat
        go_wp2_with (first | (go_at_call 242; refine hA.mono ?_; rintro e w3 ⟨N, rfl, hN, hb3, hw3⟩; clear hb3 hN; have hr3 := hr.keep hw3; have k0 := hr3.c0; have k1 := hr3.c1; have l0 := hr3.f0; have l1 := hr3.f1))
        refine bodyPost_ret (v := .int .i64 0) (by simp [results, Tryz.results194, go_sem]) rfl ?_
        rw [HX.out]
        exact .yes (grown_set _ (hg12.trans (grown_below hw3 _))) (hr3.set1 true)
end Go.Proofs.YtdamegaedmckbaaGreatDoor
end
section
namespace Go.Proofs.YtdamegaedmckbaaGreatDoor
open Go.RowKit

/-- A fraction, or the struct that is none and counts as 0. -/
def FrVal (w : World) (B : Nat) (v : Value) (c : PC) : Prop := FrIs w B v c ∨ (v = frV false none 0 0 false none 0 0 ∧ c = (0, 1))
/-- What fraction ends with. -/
def FracPost (w : World) (R : Nat) (x : Option (PC × List UInt8 × Bool)) (e : Ending) (w' : World) : Prop :=
  w.grownBy w' (some R) ∧ match x with | none => e = .panicked noSum | some (c, r, m) => ∃ v, e = .returned v ∧ FrVal w' w.heap.size v c ∧ RdrAt w' R r m
theorem FracPost.no {w w' : World} {R : Nat} (h : w.grownBy w' (some R)) : FracPost w R none (.panicked noSum) w' := ⟨h, rfl⟩
theorem grown_frozen {w w' : World} {row : Option Nat} {b i : Nat} (hg : w.grownBy w' row) (hlt : b < w.heap.size) (hne : some b ≠ row) : w'.frozen? ⟨b, i, none⟩ = w.frozen? ⟨b, i, none⟩ :=
  World.frozen?_of_block (a := ⟨b, i, none⟩) (hg.block b hlt hne)
theorem grown_setNew {w w' : World} {row : Option Nat} {p : Addr} (v : Value) (h : w.grownBy w' row) (hp : w.heap.size ≤ p.block) : w.grownBy (w'.setCell p v) row := by
  have hb : Below p.block w' (w'.setCell p v) := (Below.refl p.block w').setCell (p := p) (Nat.le_refl _) v
  exact ⟨hb.os.trans h.os, hb.tape.trans h.tape, hb.output.trans h.output, Nat.le_trans h.size hb.size, fun k hk hne => (hb.block k (by omega)).trans (h.block k hk hne)⟩
theorem grown_allocR {w w' : World} {row : Option Nat} (o : Obj) (h : w.grownBy w' row) : w.grownBy (w'.alloc o) row := h.trans (World.grownBy_alloc w' o row)
theorem RdrAt.setOther {w : World} {R : Nat} {L : List UInt8} {many : Bool} (h : RdrAt w R L many) {p : Addr} (v : Value) (hp : p.block ≠ R) : RdrAt (w.setCell p v) R L many := by
  have hh : ∀ i, (w.setCell p v).heap[(⟨R, i, none⟩ : Addr).block]? = w.heap[(⟨R, i, none⟩ : Addr).block]? := fun i => Below.heap_setCell w p v R (fun e => hp e.symm)
  exact ⟨(World.cell?_of_block (hh 0)).trans h.c0, (World.cell?_of_block (hh 1)).trans h.c1, (World.frozen?_of_block (hh 0)).trans h.f0, (World.frozen?_of_block (hh 1)).trans h.f1⟩
theorem RdrAt.allocR {w : World} {R : Nat} {L : List UInt8} {many : Bool} (h : RdrAt w R L many) (o : Obj) : RdrAt (w.alloc o) R L many := h.keep ((Below.refl _ _).alloc (Nat.le_refl _) o)
theorem numZ_one : numZ [49] = 1 := by decide
set_option maxRecDepth 100000 in
set_option maxHeartbeats 4000000 in
theorem fraction_c (w : World) (R : Nat) (L : List UInt8) (many : Bool) (h : RdrAt w R L many) (hL : L.length < 1000000000) :
    Calls Tryz.prog 195 #[.pointer (some ⟨R, 0, none⟩)] w (FracPost w R (rdFrac L many)) := by
  have hRlt := h.lt
  have hne : some w.heap.size ≠ some R := by simp; omega
  have W0 := World.grownBy_alloc w (.cells #[.bool false, .slice none 0 0, .bool false, .slice none 0 0] 64) (some R)
  have hb0 : Below w.heap.size w (w.alloc (.cells #[.bool false, .slice none 0 0, .bool false, .slice none 0 0] 64)) := by go_grown
  have d0 : (w.alloc (.cells #[.bool false, .slice none 0 0, .bool false, .slice none 0 0] 64)).cell? ⟨w.heap.size, 0, none⟩ = some (.bool false) := by simp [go_sem]
  have g0 : (w.alloc (.cells #[.bool false, .slice none 0 0, .bool false, .slice none 0 0] 64)).frozen? ⟨w.heap.size, 0, none⟩ = false := by simp [go_sem]
  have d1 : (w.alloc (.cells #[.bool false, .slice none 0 0, .bool false, .slice none 0 0] 64)).cell? ⟨w.heap.size, 1, none⟩ = some (.slice none 0 0) := by simp [go_sem]
  have g1 : (w.alloc (.cells #[.bool false, .slice none 0 0, .bool false, .slice none 0 0] 64)).frozen? ⟨w.heap.size, 1, none⟩ = false := by simp [go_sem]
  have d2 : (w.alloc (.cells #[.bool false, .slice none 0 0, .bool false, .slice none 0 0] 64)).cell? ⟨w.heap.size, 2, none⟩ = some (.bool false) := by simp [go_sem]
  have g2 : (w.alloc (.cells #[.bool false, .slice none 0 0, .bool false, .slice none 0 0] 64)).frozen? ⟨w.heap.size, 2, none⟩ = false := by simp [go_sem]
  have d3 : (w.alloc (.cells #[.bool false, .slice none 0 0, .bool false, .slice none 0 0] 64)).cell? ⟨w.heap.size, 3, none⟩ = some (.slice none 0 0) := by simp [go_sem]
  have g3 : (w.alloc (.cells #[.bool false, .slice none 0 0, .bool false, .slice none 0 0] 64)).frozen? ⟨w.heap.size, 3, none⟩ = false := by simp [go_sem]
  go_enter Tryz.func195, Tryz.ntmps195
  go_wp2_with fail
  refine (number_c _ R L many (h.keep hb0) hL).mono ?_
  rintro e w1 ⟨hg1, hp⟩
  replace g0 := (grown_frozen hg1 (World.block_lt_of_cell? _ _ d0) hne).trans g0
  replace d0 := World.grownBy.cell hg1 d0 hne
  replace g1 := (grown_frozen hg1 (World.block_lt_of_cell? _ _ d1) hne).trans g1
  replace d1 := World.grownBy.cell hg1 d1 hne
  replace g2 := (grown_frozen hg1 (World.block_lt_of_cell? _ _ d2) hne).trans g2
  replace d2 := World.grownBy.cell hg1 d2 hne
  replace g3 := (grown_frozen hg1 (World.block_lt_of_cell? _ _ d3) hne).trans g3
  replace d3 := World.grownBy.cell hg1 d3 hne
  have hgw := W0.trans hg1
  cases hx : rdNum L many with
  | none =>
    rw [hx] at hp
    subst hp
    refine ⟨rfl, ?_⟩
    rw [show rdFrac L many = none by unfold rdFrac; rw [hx]]
    exact .no hgw
  | some x =>
    obtain ⟨t, r, m⟩ := x
    rw [hx] at hp
    obtain ⟨rfl, hr1⟩ := hp
    have hdt := rdNum_digits hx
    have hlt := rdNum_len hx
    have htl : t.length < 1000000000 := by omega
    have hrl : r.length < 1000000000 := by omega
    clear W0 hb0 hg1
    go_wp2_with fail
    refine (rdTakes_c _ R r m 47 hr1 (by omega) (by omega) hrl).mono ?_
    rintro e w2 ⟨rfl, hr2, hg2⟩
    replace g0 := (grown_frozen hg2 (World.block_lt_of_cell? _ _ d0) hne).trans g0
    replace d0 := World.grownBy.cell hg2 d0 hne
    replace g1 := (grown_frozen hg2 (World.block_lt_of_cell? _ _ d1) hne).trans g1
    replace d1 := World.grownBy.cell hg2 d1 hne
    replace g2 := (grown_frozen hg2 (World.block_lt_of_cell? _ _ d2) hne).trans g2
    replace d2 := World.grownBy.cell hg2 d2 hne
    replace g3 := (grown_frozen hg2 (World.block_lt_of_cell? _ _ d3) hne).trans g3
    replace d3 := World.grownBy.cell hg2 d3 hne
    replace hgw := hgw.trans hg2
    clear hr1 hg2
    cases h47 : headIs r 47
    · rw [h47] at hr2
      simp only [Bool.false_eq_true, if_false] at hr2
      have HX := Lib.hid (show rdFrac L many = some (mkFr (numZ t) (numZ [49]), r, m) by rw [numZ_one]; unfold rdFrac; rw [hx]; simp only; rw [h47]; rfl)
      have hd1 : digitsB [49] = true := by decide
      have hl1 : ([49] : List UInt8).length < 1000000000 := by decide
      clear hx h47 hlt hL
      have hz' := numZ_few hd1
      have hzt := numZ_few hdt
      go_wp2_with (first
        | (go_at_call 245; (with_reducible refine (limbsParse_c _ t hdt htl).mono ?_); rintro e w4 ⟨gt, at', nt, ct, kt, rfl, hnt, hb4⟩; replace g0 := (Below.frozen hb4 (World.block_lt_of_cell? _ _ d0)).trans g0; replace d0 := cell_keep hb4 d0; replace g1 := (Below.frozen hb4 (World.block_lt_of_cell? _ _ d1)).trans g1; replace d1 := cell_keep hb4 d1; replace g2 := (Below.frozen hb4 (World.block_lt_of_cell? _ _ d2)).trans g2; replace d2 := cell_keep hb4 d2; replace g3 := (Below.frozen hb4 (World.block_lt_of_cell? _ _ d3)).trans g3; replace d3 := cell_keep hb4 d3)
        | (go_at_call 245; (with_reducible refine (limbsParse_c _ [49] hd1 hl1).mono ?_); rintro e w5 ⟨gl, al, nl, cl, kl, rfl, hnl, hb5⟩; have nb0 := cell_keep hb5 (by simp [go_sem] : World.cell? _ ⟨w4.heap.size, 0, none⟩ = some (.bool gt)); have nb1 := cell_keep hb5 (by simp [go_sem] : World.cell? _ ⟨w4.heap.size, 1, none⟩ = some (.slice at' nt ct)); have HB45 : Below w4.heap.size w4 w5 := Below.trans (by go_grown) (hb5.mono (by go_size)); have hz45 : w4.heap.size < w5.heap.size := (by have := hb5.size; simp only [World.size_alloc] at this; omega); replace g0 := (Below.frozen HB45 (World.block_lt_of_cell? _ _ d0)).trans g0; replace d0 := cell_keep HB45 d0; replace g1 := (Below.frozen HB45 (World.block_lt_of_cell? _ _ d1)).trans g1; replace d1 := cell_keep HB45 d1; replace g2 := (Below.frozen HB45 (World.block_lt_of_cell? _ _ d2)).trans g2; replace d2 := cell_keep HB45 d2; replace g3 := (Below.frozen HB45 (World.block_lt_of_cell? _ _ d3)).trans g3; replace d3 := cell_keep HB45 d3))
      have et := hnt.rd.len
      have el := hnl.rd.len
      simp only [Int.natAbs_natCast] at et el
      have hnt5 := hnt.keep HB45
      have hr5 := (hr2.keep hb4).keep HB45
      have hgw5 := (hgw.trans (grown_below hb4 _)).trans (grown_below HB45 _)
      have hz5 := hgw5.size
      clear hb4 hb5 hnt hgw hr2 HB45
      by_cases h0 : numZ [49] = 0
      · exact absurd h0 (by rw [numZ_one]; decide)
      · have HX2 := Lib.hid (show mkFr (numZ t) (numZ [49]) = (lowP (numZ t : Nat) (numZ [49] : Nat), lowQ (numZ t : Nat) (numZ [49] : Nat)) by unfold mkFr; rw [if_neg h0])
        go_wp2_with (first | (go_at_call 246; (with_reducible refine (Make_pos _ _ _ _ _ _ (hnt5.keep (by go_grown)) _ _ _ _ _ (hnl.keep (by go_grown)) (by omega) (by omega) (by omega)).mono ?_); rintro e w6 ⟨ge, ae, ne, ce, gf, af, nf, cf, rfl, hfr, hfe, hff, hb6⟩; have HB56 : Below w5.heap.size w5 w6 := Below.trans (by go_grown) (hb6.mono (by go_size)); have hz56 : w5.heap.size < w6.heap.size := (by have := hb6.size; simp only [World.size_alloc] at this; omega); replace g0 := (Below.frozen HB56 (World.block_lt_of_cell? _ _ d0)).trans g0; replace d0 := cell_keep HB56 d0; replace g1 := (Below.frozen HB56 (World.block_lt_of_cell? _ _ d1)).trans g1; replace d1 := cell_keep HB56 d1; replace g2 := (Below.frozen HB56 (World.block_lt_of_cell? _ _ d2)).trans g2; replace d2 := cell_keep HB56 d2; replace g3 := (Below.frozen HB56 (World.block_lt_of_cell? _ _ d3)).trans g3; replace d3 := cell_keep HB56 d3; have hk6 : w.heap.size < w6.heap.size := World.block_lt_of_cell? _ _ d0))
        refine bodyPost_ret (v := frV ge ae ne ce gf af nf cf) (by simp [*, results, Tryz.results195, go_sem]) rfl ?_
        rw [HX.out, HX2.out]
        have hg6 := hgw5.trans (grown_below HB56 _)
        have hne' : w.heap.size ≠ R := by omega
        have hr6 := hr5.keep HB56
        have fe : Fresh (w.heap.size + 1) w6 ae ce := hfe.mono (by go_size)
        have ff : Fresh (w.heap.size + 1) w6 af cf := hff.mono (by go_size)
        have ke : Nw w.heap.size ne ae := Nw.mono (fe.newA hfr.top.rd) (by omega)
        have kf : Nw w.heap.size nf af := Nw.mono (ff.newA hfr.low.rd) (by omega)
        have u : w.heap.size < w.heap.size + 1 := Nat.lt_succ_self _
        exact ⟨grown_allocR _ (grown_setNew _ (grown_setNew _ (grown_setNew _ (grown_setNew _ hg6 (Nat.le_refl _)) (Nat.le_refl _)) (Nat.le_refl _)) (Nat.le_refl _)), _, rfl, .inl (FrIs.keep ⟨_, _, _, _, _, _, _, _, rfl, ⟨hfr.top.set4 fe _ _ _ _ _ _ _ _ u u u u, hfr.low.set4 ff _ _ _ _ _ _ _ _ u u u u, hfr.pos, hfr.red⟩, ke, kf⟩ ((Below.refl _ _).alloc (Nat.le_refl _) _)), ((((hr6.setOther _ hne').setOther _ hne').setOther _ hne').setOther _ hne').allocR _⟩
    · rw [h47] at hr2
      simp only [if_true] at hr2
      go_wp2_with fail
      refine (positive_c _ R r.tail m hr2 (by simp; omega)).mono ?_
      rintro e w3 ⟨hg3, hp⟩
      replace g0 := (grown_frozen hg3 (World.block_lt_of_cell? _ _ d0) hne).trans g0
      replace d0 := World.grownBy.cell hg3 d0 hne
      replace g1 := (grown_frozen hg3 (World.block_lt_of_cell? _ _ d1) hne).trans g1
      replace d1 := World.grownBy.cell hg3 d1 hne
      replace g2 := (grown_frozen hg3 (World.block_lt_of_cell? _ _ d2) hne).trans g2
      replace d2 := World.grownBy.cell hg3 d2 hne
      replace g3 := (grown_frozen hg3 (World.block_lt_of_cell? _ _ d3) hne).trans g3
      replace d3 := World.grownBy.cell hg3 d3 hne
      replace hgw := hgw.trans hg3
      cases hy : rdPos r.tail m with
      | none =>
        rw [hy] at hp
        subst hp
        refine ⟨rfl, ?_⟩
        rw [show rdFrac L many = none by unfold rdFrac; rw [hx]; simp only; rw [h47, hy]; rfl]
        exact .no hgw
      | some y =>
        obtain ⟨l, r', m'⟩ := y
        rw [hy] at hp
        obtain ⟨rfl, hr3⟩ := hp
        have hdl := rdNum_digits (rdPos_num hy).1
        have hll := rdPos_len hy
        have hll' : l.length < 1000000000 := by simp at hll; omega
        have HX := Lib.hid (show rdFrac L many = some (mkFr (numZ t) (numZ l), r', m') by unfold rdFrac; rw [hx]; simp only; rw [h47, hy]; rfl)
        clear hx hy h47 hlt hL hr2 hg3 hll
        have hz' := numZ_few hdl
        have hzt := numZ_few hdt
        go_wp2_with (first
          | (go_at_call 245; (with_reducible refine (limbsParse_c _ t hdt htl).mono ?_); rintro e w4 ⟨gt, at', nt, ct, kt, rfl, hnt, hb4⟩; replace g0 := (Below.frozen hb4 (World.block_lt_of_cell? _ _ d0)).trans g0; replace d0 := cell_keep hb4 d0; replace g1 := (Below.frozen hb4 (World.block_lt_of_cell? _ _ d1)).trans g1; replace d1 := cell_keep hb4 d1; replace g2 := (Below.frozen hb4 (World.block_lt_of_cell? _ _ d2)).trans g2; replace d2 := cell_keep hb4 d2; replace g3 := (Below.frozen hb4 (World.block_lt_of_cell? _ _ d3)).trans g3; replace d3 := cell_keep hb4 d3)
          | (go_at_call 245; (with_reducible refine (limbsParse_c _ l hdl hll').mono ?_); rintro e w5 ⟨gl, al, nl, cl, kl, rfl, hnl, hb5⟩; have nb0 := cell_keep hb5 (by simp [go_sem] : World.cell? _ ⟨w4.heap.size, 0, none⟩ = some (.bool gt)); have nb1 := cell_keep hb5 (by simp [go_sem] : World.cell? _ ⟨w4.heap.size, 1, none⟩ = some (.slice at' nt ct)); have HB45 : Below w4.heap.size w4 w5 := Below.trans (by go_grown) (hb5.mono (by go_size)); have hz45 : w4.heap.size < w5.heap.size := (by have := hb5.size; simp only [World.size_alloc] at this; omega); replace g0 := (Below.frozen HB45 (World.block_lt_of_cell? _ _ d0)).trans g0; replace d0 := cell_keep HB45 d0; replace g1 := (Below.frozen HB45 (World.block_lt_of_cell? _ _ d1)).trans g1; replace d1 := cell_keep HB45 d1; replace g2 := (Below.frozen HB45 (World.block_lt_of_cell? _ _ d2)).trans g2; replace d2 := cell_keep HB45 d2; replace g3 := (Below.frozen HB45 (World.block_lt_of_cell? _ _ d3)).trans g3; replace d3 := cell_keep HB45 d3))
        have et := hnt.rd.len
        have el := hnl.rd.len
        simp only [Int.natAbs_natCast] at et el
        have hnt5 := hnt.keep HB45
        have hr5 := (hr3.keep hb4).keep HB45
        have hgw5 := (hgw.trans (grown_below hb4 _)).trans (grown_below HB45 _)
        have hz5 := hgw5.size
        clear hb4 hb5 hnt hgw hr3 HB45
        by_cases h0 : numZ l = 0
        · have HX2 := Lib.hid (show mkFr (numZ t) (numZ l) = (0, 1) by unfold mkFr; rw [if_pos h0])
          rw [h0] at hnl
          go_wp2_with (first | (go_at_call 246; (with_reducible refine (Make_zero _ _ _ _ _ _ (hnt5.keep (by go_grown)) _ _ _ _ (hnl.keep (by go_grown))).mono ?_); rintro e w6 ⟨rfl, hb6⟩; have HB56 : Below w5.heap.size w5 w6 := Below.trans (by go_grown) (hb6.mono (by go_size)); have hz56 : w5.heap.size < w6.heap.size := (by have := hb6.size; simp only [World.size_alloc] at this; omega); replace g0 := (Below.frozen HB56 (World.block_lt_of_cell? _ _ d0)).trans g0; replace d0 := cell_keep HB56 d0; replace g1 := (Below.frozen HB56 (World.block_lt_of_cell? _ _ d1)).trans g1; replace d1 := cell_keep HB56 d1; replace g2 := (Below.frozen HB56 (World.block_lt_of_cell? _ _ d2)).trans g2; replace d2 := cell_keep HB56 d2; replace g3 := (Below.frozen HB56 (World.block_lt_of_cell? _ _ d3)).trans g3; replace d3 := cell_keep HB56 d3; have hk6 : w.heap.size < w6.heap.size := World.block_lt_of_cell? _ _ d0))
          refine bodyPost_ret (v := frV false none 0 0 false none 0 0) (by simp [*, results, Tryz.results195, go_sem]) rfl ?_
          rw [HX.out, HX2.out]
          have hg6 := hgw5.trans (grown_below HB56 _)
          have hne' : w.heap.size ≠ R := by omega
          have hr6 := hr5.keep HB56
          exact ⟨grown_allocR _ (grown_setNew _ (grown_setNew _ (grown_setNew _ (grown_setNew _ hg6 (Nat.le_refl _)) (Nat.le_refl _)) (Nat.le_refl _)) (Nat.le_refl _)), _, rfl, .inr ⟨rfl, rfl⟩, ((((hr6.setOther _ hne').setOther _ hne').setOther _ hne').setOther _ hne').allocR _⟩
        · have HX2 := Lib.hid (show mkFr (numZ t) (numZ l) = (lowP (numZ t : Nat) (numZ l : Nat), lowQ (numZ t : Nat) (numZ l : Nat)) by unfold mkFr; rw [if_neg h0])
          go_wp2_with (first | (go_at_call 246; (with_reducible refine (Make_pos _ _ _ _ _ _ (hnt5.keep (by go_grown)) _ _ _ _ _ (hnl.keep (by go_grown)) (by omega) (by omega) (by omega)).mono ?_); rintro e w6 ⟨ge, ae, ne, ce, gf, af, nf, cf, rfl, hfr, hfe, hff, hb6⟩; have HB56 : Below w5.heap.size w5 w6 := Below.trans (by go_grown) (hb6.mono (by go_size)); have hz56 : w5.heap.size < w6.heap.size := (by have := hb6.size; simp only [World.size_alloc] at this; omega); replace g0 := (Below.frozen HB56 (World.block_lt_of_cell? _ _ d0)).trans g0; replace d0 := cell_keep HB56 d0; replace g1 := (Below.frozen HB56 (World.block_lt_of_cell? _ _ d1)).trans g1; replace d1 := cell_keep HB56 d1; replace g2 := (Below.frozen HB56 (World.block_lt_of_cell? _ _ d2)).trans g2; replace d2 := cell_keep HB56 d2; replace g3 := (Below.frozen HB56 (World.block_lt_of_cell? _ _ d3)).trans g3; replace d3 := cell_keep HB56 d3; have hk6 : w.heap.size < w6.heap.size := World.block_lt_of_cell? _ _ d0))
          refine bodyPost_ret (v := frV ge ae ne ce gf af nf cf) (by simp [*, results, Tryz.results195, go_sem]) rfl ?_
          rw [HX.out, HX2.out]
          have hg6 := hgw5.trans (grown_below HB56 _)
          have hne' : w.heap.size ≠ R := by omega
          have hr6 := hr5.keep HB56
          have fe : Fresh (w.heap.size + 1) w6 ae ce := hfe.mono (by go_size)
          have ff : Fresh (w.heap.size + 1) w6 af cf := hff.mono (by go_size)
          have ke : Nw w.heap.size ne ae := Nw.mono (fe.newA hfr.top.rd) (by omega)
          have kf : Nw w.heap.size nf af := Nw.mono (ff.newA hfr.low.rd) (by omega)
          have u : w.heap.size < w.heap.size + 1 := Nat.lt_succ_self _
          exact ⟨grown_allocR _ (grown_setNew _ (grown_setNew _ (grown_setNew _ (grown_setNew _ hg6 (Nat.le_refl _)) (Nat.le_refl _)) (Nat.le_refl _)) (Nat.le_refl _)), _, rfl, .inl (FrIs.keep ⟨_, _, _, _, _, _, _, _, rfl, ⟨hfr.top.set4 fe _ _ _ _ _ _ _ _ u u u u, hfr.low.set4 ff _ _ _ _ _ _ _ _ u u u u, hfr.pos, hfr.red⟩, ke, kf⟩ ((Below.refl _ _).alloc (Nat.le_refl _) _)), ((((hr6.setOther _ hne').setOther _ hne').setOther _ hne').setOther _ hne').allocR _⟩
end Go.Proofs.YtdamegaedmckbaaGreatDoor
end
section
namespace Go.Proofs.YtdamegaedmckbaaGreatDoor
open Go.RowKit

/-- Nothing, or not in block k. -/
def Ap (k n : Nat) (a : Option Addr) : Prop := n = 0 ∨ ∀ x, a = some x → x.block ≠ k
theorem RdL.ap {w w' : World} {a : Option Addr} {n c k : Nat} {d : List Nat} (h : RdL w a n c d) (ha : Ap k n a) (hg : w.grownBy w' (some k)) : RdL w' a n c d := by
  refine ⟨h.len, h.cap, h.few, h.top, h.small, ?_⟩
  rcases h.cell with h0 | ⟨b, o, hb, hc⟩
  · exact .inl h0
  · rcases ha with h0 | ha
    · exact .inl h0
    · exact .inr ⟨b, o, hb, fun i hi => hg.cell (hc i hi) fun e => ha _ hb (by simpa using e)⟩
theorem FracAt.ap {w w' : World} {g1 : Bool} {a1 : Option Addr} {n1 c1 : Nat} {p : Int} {g2 : Bool} {a2 : Option Addr} {n2 c2 k : Nat} {q : Int} (h : FracAt w g1 a1 n1 c1 p g2 a2 n2 c2 q) (h1 : Ap k n1 a1) (h2 : Ap k n2 a2) (hg : w.grownBy w' (some k)) : FracAt w' g1 a1 n1 c1 p g2 a2 n2 c2 q :=
  ⟨⟨h.top.neg, h.top.rd.ap h1 hg⟩, ⟨h.low.neg, h.low.rd.ap h2 hg⟩, h.pos, h.red⟩
theorem Nw.ap {B n k : Nat} {a : Option Addr} (h : Nw B n a) (hk : k < B) : Ap k n a := h.imp id fun h x hx e => by have := h x hx; omega
theorem RdL.ap_of {w : World} {a : Option Addr} {n c k : Nat} {d : List Nat} (h : RdL w a n c d) (hk : w.heap.size ≤ k) : Ap k n a := by
  rcases h.cell with h0 | ⟨b, o, hb, hc⟩
  · exact .inl h0
  · by_cases h0 : n = 0
    · exact .inl h0
    · right
      intro x hx e
      rw [hb] at hx
      cases hx
      have := World.block_lt_of_cell? _ _ (hc 0 (by omega))
      simp at this e
      omega
/-- The fraction of a term under way, in its box. -/
def BoxAt (w0 w : World) (CB OB : Nat) (c : PC) : Prop :=
  ∃ g1 a1 n1 c1 g2 a2 n2 c2, w.cell? ⟨CB, 0, none⟩ = some (.bool g1) ∧ w.cell? ⟨CB, 1, none⟩ = some (.slice a1 n1 c1) ∧ w.cell? ⟨CB, 2, none⟩ = some (.bool g2) ∧ w.cell? ⟨CB, 3, none⟩ = some (.slice a2 n2 c2) ∧
    FracAt w g1 a1 n1 c1 c.1 g2 a2 n2 c2 c.2 ∧ Nw w0.heap.size n1 a1 ∧ Nw w0.heap.size n2 a2 ∧ Ap CB n1 a1 ∧ Ap CB n2 a2 ∧ Ap OB n1 a1 ∧ Ap OB n2 a2
structure TermAt (w0 w : World) (R CB OB : Nat) (st : TS) : Prop where
  rdr : RdrAt w R st.L st.many
  fr : BoxAt w0 w CB OB st.c
  cf : ∀ i, i < 4 → w.frozen? ⟨CB, i, none⟩ = false
  oc : ∀ i, i < 4 → w.cell? ⟨OB, i, none⟩ = some (.int .i64 (st.o i : Nat))
  of : ∀ i, i < 4 → w.frozen? ⟨OB, i, none⟩ = false
  grown : w0.grownBy w (some R)
  h1 : R < w0.heap.size
  h2 : w0.heap.size ≤ CB
  h3 : CB < OB
  h4 : OB < w.heap.size
theorem BoxAt.grown {w0 w w' : World} {R CB OB : Nat} {c : PC} (h : BoxAt w0 w CB OB c) (hg : w.grownBy w' (some R)) (hR : R < w0.heap.size) (hC : CB ≠ R) : BoxAt w0 w' CB OB c := by
  obtain ⟨g1, a1, n1, c1, g2, a2, n2, c2, e0, e1, e2, e3, hf, k1, k2, k3, k4, k5, k6⟩ := h
  have hne : ∀ i, some (⟨CB, i, none⟩ : Addr).block ≠ some R := fun i => by simpa using hC
  exact ⟨g1, a1, n1, c1, g2, a2, n2, c2, hg.cell e0 (hne 0), hg.cell e1 (hne 1), hg.cell e2 (hne 2), hg.cell e3 (hne 3), hf.butR k1 k2 hg (fun k hk => by cases hk; exact hR), k1, k2, k3, k4, k5, k6⟩
theorem BoxAt.keep {w0 w w' : World} {CB OB : Nat} {c : PC} (h : BoxAt w0 w CB OB c) (hb : Below w.heap.size w w') : BoxAt w0 w' CB OB c := by
  obtain ⟨g1, a1, n1, c1, g2, a2, n2, c2, e0, e1, e2, e3, hf, k1, k2, k3, k4, k5, k6⟩ := h
  exact ⟨g1, a1, n1, c1, g2, a2, n2, c2, cell_keep hb e0, cell_keep hb e1, cell_keep hb e2, cell_keep hb e3, hf.keep hb, k1, k2, k3, k4, k5, k6⟩
/-- The reader has read on. -/
theorem TermAt.rd {w0 w w' : World} {R CB OB : Nat} {st : TS} (h : TermAt w0 w R CB OB st) (hg : w.grownBy w' (some R)) {L : List UInt8} {m : Bool} (hr : RdrAt w' R L m) : TermAt w0 w' R CB OB ⟨st.c, st.o, L, m⟩ := by
  have k1 := h.h1; have k2 := h.h2; have k3 := h.h3; have k4 := h.h4
  have hsz := hg.size
  refine ⟨hr, h.fr.grown hg h.h1 (by omega), fun i hi => ?_, fun i hi => hg.cell (h.oc i hi) (by simp; omega), fun i hi => ?_, h.grown.trans hg, h.h1, h.h2, h.h3, by omega⟩
  · exact (grown_frozen hg (by omega) (by simp; omega)).trans (h.cf i hi)
  · exact (grown_frozen hg (by omega) (by simp; omega)).trans (h.of i hi)
/-- New memory has been laid. -/
theorem TermAt.keep {w0 w w' : World} {R CB OB : Nat} {st : TS} (h : TermAt w0 w R CB OB st) (hb : Below w.heap.size w w') : TermAt w0 w' R CB OB st := by
  have k3 := h.h3; have k4 := h.h4
  have hsz := hb.size
  exact ⟨h.rdr.keep hb, h.fr.keep hb, fun i hi => (Below.frozen hb (by show CB < _; omega)).trans (h.cf i hi), fun i hi => cell_keep hb (h.oc i hi), fun i hi => (Below.frozen hb (by show OB < _; omega)).trans (h.of i hi), h.grown.trans (grown_below hb _), h.h1, h.h2, h.h3, by omega⟩
/-- A power has been added. -/
theorem TermAt.setO {w0 w : World} {R CB OB : Nat} {st : TS} (h : TermAt w0 w R CB OB st) (i : Nat) (hi : i < 4) (n : Nat) : TermAt w0 (w.setCell ⟨OB, i, none⟩ (.int .i64 (st.o i + n : Nat))) R CB OB ⟨st.c, bump st.o i n, st.L, st.many⟩ := by
  have k1 := h.h1; have k2 := h.h2; have k3 := h.h3; have k4 := h.h4
  have hg : w.grownBy (w.setCell ⟨OB, i, none⟩ (.int .i64 (st.o i + n : Nat))) (some OB) := grown_set _ (grown_refl _ _)
  obtain ⟨g1, a1, n1, c1, g2, a2, n2, c2, e0, e1, e2, e3, hf, q1, q2, q3, q4, q5, q6⟩ := h.fr
  have hne : ∀ j, some (⟨CB, j, none⟩ : Addr).block ≠ some OB := fun j => by simp; omega
  refine ⟨h.rdr.setOther _ (by show OB ≠ R; omega), ⟨g1, a1, n1, c1, g2, a2, n2, c2, hg.cell e0 (hne 0), hg.cell e1 (hne 1), hg.cell e2 (hne 2), hg.cell e3 (hne 3), hf.ap q5 q6 hg, q1, q2, q3, q4, q5, q6⟩, fun j hj => ?_, fun j hj => ?_, fun j hj => ?_, grown_setNew _ h.grown (by show w0.heap.size ≤ OB; omega), h.h1, h.h2, h.h3, by simpa using h.h4⟩
  · exact (grown_frozen hg (by omega) (by simp; omega)).trans (h.cf j hj)
  · show World.cell? _ _ = some (Value.int .i64 (bump st.o i n j : Nat))
    unfold bump
    by_cases e : j = i
    · subst e
      rw [if_pos rfl]
      have := h.oc j hi
      simp [*, go_sem]
    · rw [if_neg e, ← h.oc j hj]
      exact World.cell?_setCell_other (w := w) (a := ⟨OB, i, none⟩) (b := ⟨OB, j, none⟩) _ (by intro e'; injection e' with e1' e2'; exact e e2'.symm)
  · rw [← h.of j hj]; simp [go_sem]
/-- The fraction has been multiplied. -/
theorem TermAt.setC {w0 w : World} {R CB OB : Nat} {st : TS} (h : TermAt w0 w R CB OB st) {g1 : Bool} {a1 : Option Addr} {n1 c1 : Nat} {g2 : Bool} {a2 : Option Addr} {n2 c2 : Nat} {c : PC} (hf : FracAt w g1 a1 n1 c1 c.1 g2 a2 n2 c2 c.2) (k1 : Nw (OB + 1) n1 a1) (k2 : Nw (OB + 1) n2 a2) :
    TermAt w0 ((((w.setCell ⟨CB, 0, none⟩ (.bool g1)).setCell ⟨CB, 1, none⟩ (.slice a1 n1 c1)).setCell ⟨CB, 2, none⟩ (.bool g2)).setCell ⟨CB, 3, none⟩ (.slice a2 n2 c2)) R CB OB ⟨c, st.o, st.L, st.many⟩ := by
  have q1 := h.h1; have q2 := h.h2; have q3 := h.h3; have q4 := h.h4
  have hg : w.grownBy ((((w.setCell ⟨CB, 0, none⟩ (.bool g1)).setCell ⟨CB, 1, none⟩ (.slice a1 n1 c1)).setCell ⟨CB, 2, none⟩ (.bool g2)).setCell ⟨CB, 3, none⟩ (.slice a2 n2 c2)) (some CB) := grown_set _ (grown_set _ (grown_set _ (grown_set _ (grown_refl _ _))))
  obtain ⟨_, _, _, _, _, _, _, _, e0, e1, e2, e3, _⟩ := h.fr
  have hCR : CB ≠ R := by omega
  have cz : ∀ i, i < 4 → w.frozen? ⟨CB, i, none⟩ = false := h.cf
  refine ⟨(((h.rdr.setOther _ hCR).setOther _ hCR).setOther _ hCR).setOther _ hCR, ⟨g1, a1, n1, c1, g2, a2, n2, c2, by simp [*, go_sem], by simp [*, go_sem], by simp [*, go_sem], by simp [*, go_sem], hf.ap (k1.ap (by omega)) (k2.ap (by omega)) hg, k1.mono (by omega), k2.mono (by omega), k1.ap (by omega), k2.ap (by omega), k1.ap (by omega), k2.ap (by omega)⟩, fun j hj => ?_, fun j hj => hg.cell (h.oc j hj) (by simp; omega), fun j hj => (grown_frozen hg (by omega) (by simp; omega)).trans (h.of j hj), grown_setNew _ (grown_setNew _ (grown_setNew _ (grown_setNew _ h.grown h.h2) h.h2) h.h2) h.h2, h.h1, h.h2, h.h3, by simpa using h.h4⟩
  rw [← h.cf j hj]; simp [go_sem]
end Go.Proofs.YtdamegaedmckbaaGreatDoor
end
