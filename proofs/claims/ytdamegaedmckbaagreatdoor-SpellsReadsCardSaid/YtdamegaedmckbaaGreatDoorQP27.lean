/- The reader of the shipped package: begins, power, fraction. -/
import Derived.Test.YtdamegaedmckbaaGreatDoorQP26
set_option linter.unusedSimpArgs false
set_option linter.unusedVariables false
set_option maxRecDepth 100000
set_option maxHeartbeats 4000000
section
namespace Go.Proofs.YtdamegaedmckbaaGreatDoor
open Go.RowKit
theorem Pz (b : UInt8) : decide (0 ≤ Lib.indexByte [120, 121, 122, 116, 48, 49, 50, 51, 52, 53, 54, 55, 56, 57] b) = E8 b := by
 have h : ∀ n : Fin 256, decide (0 ≤ Lib.indexByte [120, 121, 122, 116, 48, 49, 50, 51, 52, 53, 54, 55, 56, 57] (UInt8.ofNat n)) = E8 (UInt8.ofNat n) := by decide
 have := h ⟨b.toNat, b.toNat_lt⟩
 simpa only [UInt8.ofNat_toNat] using this
theorem Ku (w : World) (R : Nat) (L : List UInt8) (many : Bool) (h : By w R L many) (hL : L.length < 1000000000) :
  Calls Tryz.prog 192 #[.pointer (some ⟨R, 0, none⟩)] w fun e w' => e = .returned (.bool (Bz L)) ∧ Below w.heap.size w w' := by
 have h0 := h.c0
 cases L with
 | nil =>
  go_enter Tryz.func192, Tryz.ntmps192
  go_wp2_with fail
  exact bodyPost_ret (v := .bool false) (by simp [results, Tryz.results192, go_sem]) rfl ⟨rfl, Ac _ _⟩
 | cons b r =>
  have hy : (⟨(b :: r).toArray⟩ : ByteArray)[0]'(by simp [ByteArray.size]) = b := by simp [ByteArray.getElem_eq_getElem_data]
  have hI : ∀ W : World, Calls Tryz.prog 193 #[.string ⟨#[120, 121, 122, 116, 48, 49, 50, 51, 52, 53, 54, 55, 56, 57]⟩, .int .u8 (b.toNat : Int)] W fun e w' => e = .returned (.int .i64 (Lib.indexByte [120, 121, 122, 116, 48, 49, 50, 51, 52, 53, 54, 55, 56, 57] b)) ∧ w' = W := fun W => by
   have := Tryz.strings_IndexByte ⟨#[120, 121, 122, 116, 48, 49, 50, 51, 52, 53, 54, 55, 56, 57]⟩ (b.toNat : Int) W
   have e : ((b.toNat : Int).toNat.toUInt8) = b := by simp
   rw [e] at this
   exact this
  have hs := Pz b
  generalize Lib.indexByte [120, 121, 122, 116, 48, 49, 50, 51, 52, 53, 54, 55, 56, 57] b = ix at *
  have HS := Ae hs
  clear hs
  go_enter Tryz.func192, Tryz.ntmps192
  go_wp2_with (first | (go_at_call 193; refine (hI _).mono ?_; rintro e w1 ⟨rfl, rfl⟩))
  refine bodyPost_ret (v := .bool (decide (0 ≤ ix))) (by simp [results, Tryz.results192, go_sem]) rfl ⟨?_, Ac _ _⟩
  rw [HS.out]
  rfl
theorem De (w : World) (R : Nat) (L : List UInt8) (many : Bool) (c : Int) (h : By w R L many) (h1 : 0 ≤ c) (h2 : c < 256) (hL : L.length < 1000000000) :
  Calls Tryz.prog 129 #[.pointer (some ⟨R, 0, none⟩), .int .u8 c] w fun e w' => e = .returned (.bool (A6 L c)) ∧ By w' R (if A6 L c then L.tail else L) many ∧ w.grownBy w' (some R) := by
 refine (Xa w R L c h.c0 h.f0 h1 h2 hL).mono ?_
 rintro e w' ⟨rfl, rfl⟩
 refine ⟨rfl, ?_, ?_⟩
 ·split
  ·exact h.set0 _
  ·exact h
 ·split
  ·exact Aw _ (Bc _ _)
  ·exact Bc _ _
def Kr (w : World) : Prop := ∃ ev, w.cell? ⟨7, 0, none⟩ = some ev ∧ (ev = .nilIface ∨ ∃ te pe, ev = .iface te pe)
theorem Kr.grown {w w' : World} {row : Option Nat} (h : Kr w) (hg : w.grownBy w' row) (hr : some 7 ≠ row) : Kr w' := by
 obtain ⟨ev, h1, h2⟩ := h
 exact ⟨ev, hg.cell h1 hr, h2⟩
def Lk (w : World) (R : Nat) (x : Option (Nat × List UInt8 × Bool)) (e : Ending) (w' : World) : Prop :=
 w.grownBy w' (some R) ∧ match x with | none => e = .panicked Iu | some (n, r, m) => e = .returned (.int .i64 (n : Nat)) ∧ By w' R r m
theorem Lk.no {w w' : World} {R : Nat} (h : w.grownBy w' (some R)) : Lk w R none (.panicked Iu) w' := ⟨h, rfl⟩
theorem Lk.yes {w w' : World} {R n : Nat} {r : List UInt8} {m : Bool} (h : w.grownBy w' (some R)) (hr : By w' R r m) : Lk w R (some (n, r, m)) (.returned (.int .i64 (n : Nat))) w' := ⟨h, rfl, hr⟩
theorem Pa {w w' : World} (h : w' = w ∨ ∃ t, w' = Lib.bytesWorld w 5 t) : Below w.heap.size w w' := by
 rcases h with rfl | ⟨t, rfl⟩
 ·exact Ac _ _
 ·exact Lib.bytesWorld_below _ _ _
theorem Qt (w : World) (R : Nat) (L : List UInt8) (many : Bool) (h : By w R L many) (hL : L.length < 1000000000) (hV : Kr w) (hR : 7 < R) :
  Calls Tryz.prog 194 #[.pointer (some ⟨R, 0, none⟩)] w (Lk w R (Cp L many)) := by
 have hne : some 7 ≠ some R := by simp; omega
 go_enter Tryz.func194, Tryz.ntmps194
 go_wp2_with fail
 refine (De _ R L many 94 h qB qB hL).mono ?_
 rintro e w1 ⟨rfl, hr1, hg1⟩
 cases h94 : A6 L 94
 ·rw [h94] at hr1
  have HX := Ae (show Cp L many = some (1, L, many) by unfold Cp; rw [h94]; rfl)
  go_wp2_with fail
  refine bodyPost_ret (v := .int .i64 1) (by simp [results, Tryz.results194, go_sem]) rfl ?_
  rw [HX.out]
  exact .yes hg1 hr1
 ·rw [h94] at hr1
  simp only [if_true] at hr1
  have hV1 := hV.grown hg1 hne
  go_wp2_with fail
  refine (Oh _ R L.tail many hr1 qL).mono ?_
  rintro e w2 ⟨hg2, hp⟩
  have hg12 := hg1.trans hg2
  cases hx : Eq L.tail many with
  | none =>
   rw [hx] at hp
   subst hp
   refine ⟨rfl, ?_⟩
   rw [show Cp L many = none by unfold Cp; rw [h94, hx]; rfl]
   exact .no hg12
  | some x =>
   obtain ⟨d, r, m⟩ := x
   rw [hx] at hp
   obtain ⟨rfl, hr⟩ := hp
   have hdig := Fv (Lw hx).1
   have hdl := Id hx
   have hat := Q3 hdig
   have hV2 := hV1.grown hg2 hne
   have hdlen : d.length < 1000000000 := by simp at hdl; omega
   have HX := Ae (show Cp L many = if 1000 < Bd d then some (0, r, true) else some (Bd d, r, m) by unfold Cp; rw [h94, hx]; rfl)
   clear hx hdig hdl h94 hV hV1 hL
   by_cases h63 : Bd d < 9223372036854775808
   ·rw [if_pos h63] at hat
    have hA := fun W => Tryz.strconv_Atoi_ok ⟨d.toArray⟩ (by simp [ByteArray.size]; omega) _ hat W
    clear hat
    by_cases hm : 1000 < Bd d
    ·rw [if_pos hm] at HX
     go_wp2_with (first | (go_at_call 242; refine (hA _).mono ?_; rintro e w3 ⟨rfl, hw3⟩; replace hw3 := Pa hw3; have hr3 := hr.keep hw3; have k0 := hr3.c0; have k1 := hr3.c1; have l0 := hr3.f0; have l1 := hr3.f1))
     exact qDq
    ·rw [if_neg hm] at HX
     go_wp2_with (first | (go_at_call 242; refine (hA _).mono ?_; rintro e w3 ⟨rfl, hw3⟩; replace hw3 := Pa hw3; have hr3 := hr.keep hw3; have k0 := hr3.c0; have k1 := hr3.c1; have l0 := hr3.f0; have l1 := hr3.f1))
     refine bodyPost_ret (v := .int .i64 (Bd d : Nat)) (by simp [results, Tryz.results194, go_sem]) rfl ?_
     rw [HX.out]
     exact .yes (hg12.trans (Az hw3 _)) hr3
   ·rw [if_neg h63] at hat
    obtain ⟨ev, hv1, hv2⟩ := hV2
    have hA := Tryz.strconv_Atoi_range ⟨d.toArray⟩ (by simp [ByteArray.size]; omega) hat ev w2 hv1 hv2
    rw [if_pos qB] at HX
    clear hat
    go_wp2_with (first | (go_at_call 242; refine hA.mono ?_; rintro e w3 ⟨N, rfl, hN, hb3, hw3⟩; clear hb3 hN; have hr3 := hr.keep hw3; have k0 := hr3.c0; have k1 := hr3.c1; have l0 := hr3.f0; have l1 := hr3.f1))
    exact qDq
def eJ (w : World) (B : Nat) (v : Value) (c : PC) : Prop := Sh w B v c ∨ (v = frV false none 0 0 false none 0 0 ∧ c = (0, 1))
def M8 (w : World) (R : Nat) (x : Option (PC × List UInt8 × Bool)) (e : Ending) (w' : World) : Prop :=
 w.grownBy w' (some R) ∧ match x with | none => e = .panicked Iu | some (c, r, m) => ∃ v, e = .returned v ∧ eJ w' w.heap.size v c ∧ By w' R r m
theorem M8.no {w w' : World} {R : Nat} (h : w.grownBy w' (some R)) : M8 w R none (.panicked Iu) w' := ⟨h, rfl⟩
theorem Bg {w w' : World} {row : Option Nat} {b i : Nat} (hg : w.grownBy w' row) (hlt : b < w.heap.size) (hne : some b ≠ row) : w'.frozen? ⟨b, i, none⟩ = w.frozen? ⟨b, i, none⟩ :=
 World.frozen?_of_block (a := ⟨b, i, none⟩) (hg.block b hlt hne)
theorem A5 {w w' : World} {row : Option Nat} {p : Addr} (v : Value) (h : w.grownBy w' row) (hp : w.heap.size ≤ p.block) : w.grownBy (w'.setCell p v) row := by
 have hb : Below p.block w' (w'.setCell p v) := (Ac p.block w').setCell (p := p) (Ad _) v
 exact ⟨hb.os.trans h.os, hb.tape.trans h.tape, hb.output.trans h.output, Ah h.size hb.size, fun k hk hne => (hb.block k qB).trans (h.block k hk hne)⟩
theorem Fm {w w' : World} {row : Option Nat} (o : Obj) (h : w.grownBy w' row) : w.grownBy (w'.alloc o) row := h.trans (World.grownBy_alloc w' o row)
theorem By.setOther {w : World} {R : Nat} {L : List UInt8} {many : Bool} (h : By w R L many) {p : Addr} (v : Value) (hp : p.block ≠ R) : By (w.setCell p v) R L many := by
 have hh : ∀ i, (w.setCell p v).heap[(⟨R, i, none⟩ : Addr).block]? = w.heap[(⟨R, i, none⟩ : Addr).block]? := fun i => Below.heap_setCell w p v R (fun e => hp e.symm)
 exact ⟨(Af (hh 0)).trans h.c0, (Af (hh 1)).trans h.c1, (World.frozen?_of_block (hh 0)).trans h.f0, (World.frozen?_of_block (hh 1)).trans h.f1⟩
theorem By.allocR {w : World} {R : Nat} {L : List UInt8} {many : Bool} (h : By w R L many) (o : Obj) : By (w.alloc o) R L many := h.keep ((Ac _ _).alloc (Ad _) o)
theorem Sq : Ec [49] = 1 := by decide
theorem Kp (w : World) (R : Nat) (L : List UInt8) (many : Bool) (h : By w R L many) (hL : L.length < 1000000000) :
  Calls Tryz.prog 195 #[.pointer (some ⟨R, 0, none⟩)] w (M8 w R (Do L many)) := by
 have hRlt := h.lt
 have hne : some w.heap.size ≠ some R := by simp; omega
 have W0 := World.grownBy_alloc w (.cells #[.bool false, .slice none 0 0, .bool false, .slice none 0 0] 64) (some R)
 have hb0 : Below w.heap.size w (w.alloc (.cells #[.bool false, .slice none 0 0, .bool false, .slice none 0 0] 64)) := by go_grown
 have d0 : (w.alloc (.cells #[.bool false, .slice none 0 0, .bool false, .slice none 0 0] 64)).cell? ⟨w.heap.size, 0, none⟩ = some (.bool false) := by simp [go_sem]
 have g0 : (w.alloc (.cells #[.bool false, .slice none 0 0, .bool false, .slice none 0 0] 64)).frozen? ⟨w.heap.size, 0, none⟩ = false := by simp [go_sem]
 have d1 : (w.alloc (.cells #[.bool false, .slice none 0 0, .bool false, .slice none 0 0] 64)).cell? ⟨w.heap.size, 1, none⟩ = some (.slice none 0 0) := by simp [go_sem]
 have g1 : (w.alloc (.cells #[.bool false, .slice none 0 0, .bool false, .slice none 0 0] 64)).frozen? ⟨w.heap.size, 1, none⟩ = false := by simp [go_sem]
 have d2 : (w.alloc (.cells #[.bool false, .slice none 0 0, .bool false, .slice none 0 0] 64)).cell? ⟨w.heap.size, 2, none⟩ = some (.bool false) := by simp [go_sem]
 have g2 : (w.alloc (.cells #[.bool false, .slice none 0 0, .bool false, .slice none 0 0] 64)).frozen? ⟨w.heap.size, 2, none⟩ = false := by simp [go_sem]
 have d3 : (w.alloc (.cells #[.bool false, .slice none 0 0, .bool false, .slice none 0 0] 64)).cell? ⟨w.heap.size, 3, none⟩ = some (.slice none 0 0) := by simp [go_sem]
 have g3 : (w.alloc (.cells #[.bool false, .slice none 0 0, .bool false, .slice none 0 0] 64)).frozen? ⟨w.heap.size, 3, none⟩ = false := by simp [go_sem]
 go_enter Tryz.func195, Tryz.ntmps195
 go_wp2_with fail
 refine (Q9 _ R L many (h.keep hb0) hL).mono ?_
 rintro e w1 ⟨hg1, hp⟩
 replace g0 := (Bg hg1 (Aa _ _ d0) hne).trans g0
 replace d0 := An hg1 d0 hne
 replace g1 := (Bg hg1 (Aa _ _ d1) hne).trans g1
 replace d1 := An hg1 d1 hne
 replace g2 := (Bg hg1 (Aa _ _ d2) hne).trans g2
 replace d2 := An hg1 d2 hne
 replace g3 := (Bg hg1 (Aa _ _ d3) hne).trans g3
 replace d3 := An hg1 d3 hne
 have hgw := W0.trans hg1
 cases hx : Fe L many with
 | none =>
  rw [hx] at hp
  subst hp
  refine ⟨rfl, ?_⟩
  rw [show Do L many = none by unfold Do; rw [hx]]
  exact .no hgw
 | some x =>
  obtain ⟨t, r, m⟩ := x
  rw [hx] at hp
  obtain ⟨rfl, hr1⟩ := hp
  have hdt := Fv hx
  have hlt := J2 hx
  have htl : t.length < 1000000000 := by omega
  have hrl : r.length < 1000000000 := by omega
  clear W0 hb0 hg1
  go_wp2_with fail
  refine (De _ R r m 47 hr1 qB qB hrl).mono ?_
  rintro e w2 ⟨rfl, hr2, hg2⟩
  replace g0 := (Bg hg2 (Aa _ _ d0) hne).trans g0
  replace d0 := An hg2 d0 hne
  replace g1 := (Bg hg2 (Aa _ _ d1) hne).trans g1
  replace d1 := An hg2 d1 hne
  replace g2 := (Bg hg2 (Aa _ _ d2) hne).trans g2
  replace d2 := An hg2 d2 hne
  replace g3 := (Bg hg2 (Aa _ _ d3) hne).trans g3
  replace d3 := An hg2 d3 hne
  replace hgw := hgw.trans hg2
  clear hr1 hg2
  cases h47 : A6 r 47
  ·rw [h47] at hr2
   simp only [Bool.false_eq_true, if_false] at hr2
   have HX := Ae (show Do L many = some (Df (Ec t) (Ec [49]), r, m) by rw [Sq]; unfold Do; rw [hx]; simp only; rw [h47]; rfl)
   have hd1 : Bb [49] = true := by decide
   have hl1 : ([49] : List UInt8).length < 1000000000 := by decide
   clear hx h47 hlt hL
   have hz' := Eh hd1
   have hzt := Eh hdt
   go_wp2_with (first
    | (go_at_call 245; (with_reducible refine (Hd _ t hdt htl).mono ?_); rintro e w4 ⟨gt, at', nt, ct, kt, rfl, hnt, hb4⟩; replace g0 := (Ab hb4 (Aa _ _ d0)).trans g0; replace d0 := Au hb4 d0; replace g1 := (Ab hb4 (Aa _ _ d1)).trans g1; replace d1 := Au hb4 d1; replace g2 := (Ab hb4 (Aa _ _ d2)).trans g2; replace d2 := Au hb4 d2; replace g3 := (Ab hb4 (Aa _ _ d3)).trans g3; replace d3 := Au hb4 d3)
    | (go_at_call 245; (with_reducible refine (Hd _ [49] hd1 hl1).mono ?_); rintro e w5 ⟨gl, al, nl, cl, kl, rfl, hnl, hb5⟩; have nb0 := Au hb5 (by simp [go_sem] : World.cell? _ ⟨w4.heap.size, 0, none⟩ = some (.bool gt)); have nb1 := Au hb5 (by simp [go_sem] : World.cell? _ ⟨w4.heap.size, 1, none⟩ = some (.slice at' nt ct)); have HB45 := zD w4 hb5; have hz45 : w4.heap.size < w5.heap.size := (by have := hb5.size; simp only [Aj] at this; omega); replace g0 := (Ab HB45 (Aa _ _ d0)).trans g0; replace d0 := Au HB45 d0; replace g1 := (Ab HB45 (Aa _ _ d1)).trans g1; replace d1 := Au HB45 d1; replace g2 := (Ab HB45 (Aa _ _ d2)).trans g2; replace d2 := Au HB45 d2; replace g3 := (Ab HB45 (Aa _ _ d3)).trans g3; replace d3 := Au HB45 d3))
   have et := hnt.rd.len
   have el := hnl.rd.len
   simp only [Int.natAbs_natCast] at et el
   have hnt5 := hnt.keep HB45
   have hr5 := (hr2.keep hb4).keep HB45
   have hgw5 := (hgw.trans (Az hb4 _)).trans (Az HB45 _)
   have hz5 := hgw5.size
   clear hb4 hb5 hnt hgw hr2 HB45
   by_cases h0 : Ec [49] = 0
   ·exact absurd h0 (by rw [Sq]; decide)
   ·have HX2 := Ae (show Df (Ec t) (Ec [49]) = (Fz (Ec t : Nat) (Ec [49] : Nat), Fj (Ec t : Nat) (Ec [49] : Nat)) by unfold Df; rw [if_neg h0])
    exact qAs
  ·rw [h47] at hr2
   simp only [if_true] at hr2
   go_wp2_with fail
   refine (Oh _ R r.tail m hr2 qL).mono ?_
   rintro e w3 ⟨hg3, hp⟩
   replace g0 := (Bg hg3 (Aa _ _ d0) hne).trans g0
   replace d0 := An hg3 d0 hne
   replace g1 := (Bg hg3 (Aa _ _ d1) hne).trans g1
   replace d1 := An hg3 d1 hne
   replace g2 := (Bg hg3 (Aa _ _ d2) hne).trans g2
   replace d2 := An hg3 d2 hne
   replace g3 := (Bg hg3 (Aa _ _ d3) hne).trans g3
   replace d3 := An hg3 d3 hne
   replace hgw := hgw.trans hg3
   cases hy : Eq r.tail m with
   | none =>
    rw [hy] at hp
    subst hp
    refine ⟨rfl, ?_⟩
    rw [show Do L many = none by unfold Do; rw [hx]; simp only; rw [h47, hy]; rfl]
    exact .no hgw
   | some y =>
    obtain ⟨l, r', m'⟩ := y
    rw [hy] at hp
    obtain ⟨rfl, hr3⟩ := hp
    have hdl := Fv (Lw hy).1
    have hll := Id hy
    have hll' : l.length < 1000000000 := by simp at hll; omega
    have HX := Ae (show Do L many = some (Df (Ec t) (Ec l), r', m') by unfold Do; rw [hx]; simp only; rw [h47, hy]; rfl)
    clear hx hy h47 hlt hL hr2 hg3 hll
    have hz' := Eh hdl
    have hzt := Eh hdt
    go_wp2_with (first
     | (go_at_call 245; (with_reducible refine (Hd _ t hdt htl).mono ?_); rintro e w4 ⟨gt, at', nt, ct, kt, rfl, hnt, hb4⟩; replace g0 := (Ab hb4 (Aa _ _ d0)).trans g0; replace d0 := Au hb4 d0; replace g1 := (Ab hb4 (Aa _ _ d1)).trans g1; replace d1 := Au hb4 d1; replace g2 := (Ab hb4 (Aa _ _ d2)).trans g2; replace d2 := Au hb4 d2; replace g3 := (Ab hb4 (Aa _ _ d3)).trans g3; replace d3 := Au hb4 d3)
     | (go_at_call 245; (with_reducible refine (Hd _ l hdl hll').mono ?_); rintro e w5 ⟨gl, al, nl, cl, kl, rfl, hnl, hb5⟩; have nb0 := Au hb5 (by simp [go_sem] : World.cell? _ ⟨w4.heap.size, 0, none⟩ = some (.bool gt)); have nb1 := Au hb5 (by simp [go_sem] : World.cell? _ ⟨w4.heap.size, 1, none⟩ = some (.slice at' nt ct)); have HB45 := zD w4 hb5; have hz45 : w4.heap.size < w5.heap.size := (by have := hb5.size; simp only [Aj] at this; omega); replace g0 := (Ab HB45 (Aa _ _ d0)).trans g0; replace d0 := Au HB45 d0; replace g1 := (Ab HB45 (Aa _ _ d1)).trans g1; replace d1 := Au HB45 d1; replace g2 := (Ab HB45 (Aa _ _ d2)).trans g2; replace d2 := Au HB45 d2; replace g3 := (Ab HB45 (Aa _ _ d3)).trans g3; replace d3 := Au HB45 d3))
    have et := hnt.rd.len
    have el := hnl.rd.len
    simp only [Int.natAbs_natCast] at et el
    have hnt5 := hnt.keep HB45
    have hr5 := (hr3.keep hb4).keep HB45
    have hgw5 := (hgw.trans (Az hb4 _)).trans (Az HB45 _)
    have hz5 := hgw5.size
    clear hb4 hb5 hnt hgw hr3 HB45
    by_cases h0 : Ec l = 0
    ·have HX2 := Ae (show Df (Ec t) (Ec l) = (0, 1) by unfold Df; rw [if_pos h0])
     rw [h0] at hnl
     go_wp2_with (first | (go_at_call 246; (with_reducible refine (Xn _ _ _ _ _ _ (hnt5.keep qF) _ _ _ _ (hnl.keep qF)).mono ?_); rintro e w6 ⟨rfl, hb6⟩; have HB56 := zD w5 hb6; have hz56 : w5.heap.size < w6.heap.size := (by have := hb6.size; simp only [Aj] at this; omega); replace g0 := (Ab HB56 (Aa _ _ d0)).trans g0; replace d0 := Au HB56 d0; replace g1 := (Ab HB56 (Aa _ _ d1)).trans g1; replace d1 := Au HB56 d1; replace g2 := (Ab HB56 (Aa _ _ d2)).trans g2; replace d2 := Au HB56 d2; replace g3 := (Ab HB56 (Aa _ _ d3)).trans g3; replace d3 := Au HB56 d3; have hk6 : w.heap.size < w6.heap.size := Aa _ _ d0))
     refine bodyPost_ret (v := frV false none 0 0 false none 0 0) (by simp [*, results, Tryz.results195, go_sem]) rfl ?_
     rw [HX.out, HX2.out]
     have hg6 := hgw5.trans (Az HB56 _)
     have hne' : w.heap.size ≠ R := by omega
     have hr6 := hr5.keep HB56
     exact ⟨Fm _ (A5 _ (A5 _ (A5 _ (A5 _ hg6 (Ad _)) (Ad _)) (Ad _)) (Ad _)), _, rfl, .inr ⟨rfl, rfl⟩, ((((hr6.setOther _ hne').setOther _ hne').setOther _ hne').setOther _ hne').allocR _⟩
    ·have HX2 := Ae (show Df (Ec t) (Ec l) = (Fz (Ec t : Nat) (Ec l : Nat), Fj (Ec t : Nat) (Ec l : Nat)) by unfold Df; rw [if_neg h0])
     exact qAs
structure Bh (w : World) (R : Nat) (L : List UInt8) (k : Nat) (e : Int) (m : Bool) : Prop where
 c0 : w.cell? ⟨R, 0, none⟩ = some (.string ⟨L.toArray⟩)
 c1 : w.cell? ⟨R, 1, none⟩ = some (.int .i64 k)
 c2 : w.cell? ⟨R, 2, none⟩ = some (.int .i64 e)
 c3 : w.cell? ⟨R, 3, none⟩ = some (.bool m)
 f1 : w.frozen? ⟨R, 1, none⟩ = false
 f2 : w.frozen? ⟨R, 2, none⟩ = false
 f3 : w.frozen? ⟨R, 3, none⟩ = false
 le : k ≤ L.length
section
variable {w w' : World} {R k k' : Nat} {L : List UInt8} {e e' : Int} {m m' : Bool}
theorem Bh.lt (h : Bh w R L k e m) : R < w.heap.size := Aa _ _ h.c0
theorem Bh.but (h : Bh w R L k e m) (hb : Er R 1 w w') (h1 : w'.cell? ⟨R, 1, none⟩ = some (.int .i64 k')) (hk : k' ≤ L.length) : Bh w' R L k' e m :=
 ⟨(hb.cell R 0 (Or.inr qC)).trans h.c0, h1, (hb.cell R 2 (Or.inr qC)).trans h.c2, (hb.cell R 3 (Or.inr qC)).trans h.c3, (hb.frozen R 1).trans h.f1, (hb.frozen R 2).trans h.f2, (hb.frozen R 3).trans h.f3, hk⟩
theorem Bh.keep (h : Bh w R L k e m) (hb : Below w.heap.size w w') : Bh w' R L k e m :=
 ⟨Au hb h.c0, Au hb h.c1, Au hb h.c2, Au hb h.c3, (Ab hb h.lt).trans h.f1, (Ab hb h.lt).trans h.f2, (Ab hb h.lt).trans h.f3, h.le⟩
theorem Bh.drewN (h : Bh w R L k e m) (n : Nat) : Bh (w.drewN n) R L k e m := ⟨h.c0, h.c1, h.c2, h.c3, h.f1, h.f2, h.f3, h.le⟩
theorem Bh.set1 (h : Bh w R L k e m) (k' : Nat) (hk : k' ≤ L.length) : Bh (w.setCell ⟨R, 1, none⟩ (.int .i64 k')) R L k' e m := by
 obtain ⟨c0, c1, c2, c3, f1, f2, f3, _⟩ := h
 exact qCk
theorem Bh.set2 (h : Bh w R L k e m) (e' : Int) : Bh (w.setCell ⟨R, 2, none⟩ (.int .i64 e')) R L k e' m := by
 obtain ⟨c0, c1, c2, c3, f1, f2, f3, hk⟩ := h
 exact qCk
theorem Bh.set3 (h : Bh w R L k e m) (m' : Bool) : Bh (w.setCell ⟨R, 3, none⟩ (.bool m')) R L k e m' := by
 obtain ⟨c0, c1, c2, c3, f1, f2, f3, hk⟩ := h
 exact qCk
end
theorem C3 {w w' : World} {row : Option Nat} (h : w.grownBy w' row) (n : Nat) : w.grownBy (w'.drewN n) row := ⟨h.os, h.tape, h.output, h.size, h.block⟩
theorem Yh {L : List UInt8} {k : Nat} (h : k < L.length) (hb : Bl L[k] = true) : (L.drop k).dropWhile Bl = (L.drop (k + 1)).dropWhile Bl := by
 exact qDw
theorem W5 {L : List UInt8} {k : Nat} (h : k < L.length) (hb : Bl L[k] = false) : (L.drop k).dropWhile Bl = L.drop k := by
 exact qDw
theorem bW {L : List UInt8} {k0 k : Nat} (h0 : k0 ≤ k) (h : k ≤ L.length) (hd : (L.drop k0).dropWhile Bl = L.drop k) : k = k0 + ((L.drop k0).takeWhile Bl).length ∧ (L.take k).drop k0 = (L.drop k0).takeWhile Bl := by
 have e := List.takeWhile_append_dropWhile (p := Bl) (l := L.drop k0)
 have hl := congrArg List.length e
 rw [hd, List.length_append, List.length_drop, List.length_drop] at hl
 have hk : k = k0 + ((L.drop k0).takeWhile Bl).length := by omega
 refine ⟨hk, ?_⟩
 rw [List.drop_take]
 have : k - k0 = ((L.drop k0).takeWhile Bl).length := by omega
 rw [this]
 have h1 := List.take_left (l₁ := (L.drop k0).takeWhile Bl) (l₂ := (L.drop k0).dropWhile Bl)
 rwa [e] at h1
theorem N4 (W : World) (s : ByteArray) (j k : Nat) (hj : j ≤ k) (hk : k ≤ s.size) : (Instr.sliceAt 9 (.string s) (some (.int .i64 (j : Int))) (some (.int .i64 (k : Int))) none).run Tryz.prog W = .ok (.string (s.extract j k)) W := by
 have h0 : (0 : Int) ≤ (k : Int) := by omega
 have h1 : (0 : Int) ≤ (j : Int) := by omega
 have h2 : (j : Int) ≤ (k : Int) := by omega
 simp [Instr.sliceAt, Instr.slice, Instr.sliceBounds, Instr.sliceBound, go_sem, h0, h1, h2, hk, hj]
theorem I1 (L : List UInt8) (j k : Nat) : (⟨L.toArray⟩ : ByteArray).extract j k = ⟨((L.take k).drop j).toArray⟩ := by
 apply ByteArray.ext
 simp [List.drop_take]
def Bn (L : List UInt8) (k : Nat) : List UInt8 := (L.drop k).takeWhile Bl
def Ih (w : World) (R : Nat) (L : List UInt8) (k : Nat) (e0 : Int) (m0 : Bool) (e : Ending) (w' : World) : Prop :=
 e = .returned (.string ⟨(Bn L k).toArray⟩) ∧ w.grownBy w' (some R) ∧ Bh w' R L (k + (Bn L k).length) (if Bb (Bn L k) then e0 else 4) (m0 || decide (200 < (Bn L k).length))
theorem Ji (wo : World) (R : Nat) (L : List UInt8) (k0 : Nat) (e0 : Int) (m0 : Bool) (h : Bh wo R L k0 e0 m0) (hL : L.length < 1000000000) :
  Calls Tryz.prog 198 #[.pointer (some ⟨R, 0, none⟩)] wo (Ih wo R L k0 e0 m0) := by
 have hk0 := h.le
 have h0 := h.c0
 have h1 := h.c1
 have hf := h.f1
 have HK := Er.refl R 1 wo
 go_enter Tryz.func198, Tryz.ntmps198
 go_wp2_with fail
 go_loopw [] (fun wr => ∃ k : Nat, k0 ≤ k ∧ k ≤ L.length ∧ Hid ((L.drop k0).dropWhile Bl = (L.drop k).dropWhile Bl) ∧ wr.cell? ⟨R, 1, none⟩ = some (.int .i64 k) ∧ Er R 1 wo wr) (fun wr => L.length - (match wr.cell? ⟨R, 1, none⟩ with | some v => (intOf v).toNat | none => 0))
 case atStart => exact ⟨k0, Ad _, hk0, Ae rfl, h1, HK⟩
 case round =>
  obtain ⟨k, hkk, hk, hw, c1, HB⟩ := hrel
  have c0 : wr.cell? ⟨R, 0, none⟩ = some (.string ⟨L.toArray⟩) := by rw [HB.cell R 0 (Or.inr qC)]; exact h0
  have f1 : wr.frozen? ⟨R, 1, none⟩ = false := by rw [HB.frozen]; exact hf
  have hD := Ae (h.but HB c1 hk)
  clear h0 h1 hf HK
  have q : ∀ W : World, (Instr.sliceAt 9 (.string ⟨L.toArray⟩) (some (.int .i64 (k0 : Int))) (some (.int .i64 (k : Int))) none).run Tryz.prog W = .ok (.string ⟨((L.take k).drop k0).toArray⟩) W := fun W => by
   rw [N4 W _ _ _ hkk (by show k ≤ L.toArray.size; simpa using hk), I1]
  by_cases hgo : ∃ hlt : k < L.length, Bl L[k] = true
  ·obtain ⟨hlt, hdg⟩ := hgo
   have hN := Ae (hw.out.trans (Yh hlt hdg))
   have hy : (⟨L.toArray⟩ : ByteArray)[k]'(by simpa [ByteArray.size] using hlt) = L[k] := by simp [ByteArray.getElem_eq_getElem_data]
   generalize L[k] = b at *
   have hb : 48 ≤ (b.toNat : Int) ∧ (b.toNat : Int) ≤ 57 := by unfold Bl at hdg; rwa [decide_eq_true_eq] at hdg
   obtain ⟨hb1, hb2⟩ := hb
   clear hdg hw q hD
   go_wp2_with fail
   go_quiet (fail)
   go_wp2_with fail
   go_roundw
   case rel => exact ⟨k + 1, by omega, by omega, hN, by simp [*, go_sem], HB.step _ _⟩
   case measure => (simp [*, go_sem, intOf]; first | omega | exact Nat.sub_lt_sub_left hlt (Ag k))
  ·have hend : (L.drop k0).dropWhile Bl = L.drop k := by
    rw [hw.out]
    by_cases hlt : k < L.length
    ·exact W5 hlt (by cases hx : Bl L[k] with | false => rfl | true => exact absurd ⟨hlt, hx⟩ hgo)
    ·rw [List.drop_eq_nil_of_le qB]; rfl
   obtain ⟨hke, hmid⟩ := bW hkk hk hend
   rw [hmid] at q
   have hP := Ae (show Ih wo R L k0 e0 m0 = fun e w' => e = .returned (.string ⟨(Bn L k0).toArray⟩) ∧ wo.grownBy w' (some R) ∧ Bh w' R L k (if Bb (Bn L k0) then e0 else 4) (m0 || decide (200 < (Bn L k0).length)) by unfold Ih; rw [show k0 + (Bn L k0).length = k from hke.symm])
   have hdl : (Bn L k0).length < 1000000000 := by unfold Bn; omega
   change ∀ W : World, (Instr.sliceAt 9 (.string ⟨L.toArray⟩) (some (.int .i64 (k0 : Int))) (some (.int .i64 (k : Int))) none).run Tryz.prog W = .ok (.string ⟨(Bn L k0).toArray⟩) W at q
   have hG := Ae HB.grown
   clear hw hmid hend hke
   generalize Bn L k0 = D at *
   have tail : ∀ n n2 : Nat, Bh ((wr.drewN n).drewN n2) R L k e0 m0 ∧ wo.grownBy ((wr.drewN n).drewN n2) (some R) := fun n n2 => ⟨(hD.out.drewN n).drewN n2, C3 (C3 hG.out n) n2⟩
   by_cases hlt : k < L.length
   ·have hy : (⟨L.toArray⟩ : ByteArray)[k]'(by simpa [ByteArray.size] using hlt) = L[k] := by simp [ByteArray.getElem_eq_getElem_data]
    have hnd : ¬ (48 ≤ (L[k].toNat : Int) ∧ (L[k].toNat : Int) ≤ 57) := fun hx => hgo ⟨hlt, by unfold Bl; rwa [decide_eq_true_eq]⟩
    clear hgo
    generalize L[k] = b at *
    rcases (by omega : ¬ (48 ≤ (b.toNat : Int)) ∨ (48 ≤ (b.toNat : Int) ∧ ¬ ((b.toNat : Int) ≤ 57))) with hb | ⟨hb1, hb2⟩
    ·replace hb : decide (48 ≤ (b.toNat : Int)) = false := decide_eq_false hb
     clear hnd
     exact qAn
    ·clear hnd
     exact qAn
   ·obtain rfl : k = L.length := by omega
    clear hgo
    exact qAn
end Go.Proofs.YtdamegaedmckbaaGreatDoor
end
