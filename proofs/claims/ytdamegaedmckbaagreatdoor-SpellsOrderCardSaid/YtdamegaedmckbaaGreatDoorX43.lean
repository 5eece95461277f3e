/- SpellsOrder: the law's own walk. Conditions: the variables that strconv asks. -/
import Derived.Test.YtdamegaedmckbaaGreatDoorX39
import Derived.Test.YtdamegaedmckbaaGreatDoorX42
set_option linter.unusedSimpArgs false
set_option linter.unusedVariables false
section
namespace Go.Proofs.YtdamegaedmckbaaGreatDoor
open Go.RowKit

/-- One term, in a block of its own. -/
theorem one_at {w : World} {g : Nat} {t : Tm} {x : PT} (hr : RdTm w t) (hx : TmIs t x) (h0 : w.cell? ⟨g, 0, none⟩ = some (.bool t.g1)) (h1 : w.cell? ⟨g, 1, none⟩ = some (.slice t.a1 t.n1 t.c1)) (h2 : w.cell? ⟨g, 2, none⟩ = some (.bool t.g2)) (h3 : w.cell? ⟨g, 3, none⟩ = some (.slice t.a2 t.n2 t.c2)) (h4 : w.cell? ⟨g, 4, none⟩ = some (.int .u16 t.m0)) (h5 : w.cell? ⟨g, 5, none⟩ = some (.int .u16 t.m1)) (h6 : w.cell? ⟨g, 6, none⟩ = some (.int .u16 t.m2)) (h7 : w.cell? ⟨g, 7, none⟩ = some (.int .u16 t.m3)) :
    PolyAt w 0 (some ⟨g, 0, none⟩) 1 1 [x] := by
  refine ⟨rfl, .inr fun _ _ => Nat.zero_le _, fun h => (by cases h), fun _ => t, ⟨Nat.le_refl _, by omega, by omega, fun _ _ => hr, .inr ⟨g, 0, rfl, fun i hi => ?_⟩⟩, fun i y hi => ?_⟩
  · obtain rfl : i = 0 := by omega
    exact ⟨h0, h1, h2, h3, h4, h5, h6, h7⟩
  · cases i with
    | zero => cases hi; exact ⟨hx, .inr fun _ _ => Nat.zero_le _, .inr fun _ _ => Nat.zero_le _⟩
    | succ i => simp at hi
theorem one_pw {x : PT} (hc : CW x.2) (h0 : x.2.1 ≠ 0) (hk : x.1 < 18446744073709551616) : PW [x] :=
  ⟨by simp, fun t ht => by simp only [List.mem_singleton] at ht; subst ht; exact ⟨hc, h0⟩, fun t ht => by simp only [List.mem_singleton] at ht; subst ht; exact hk⟩
set_option maxRecDepth 100000 in
set_option maxHeartbeats 4000000 in
theorem SpellsOrder_c (w : World) (a : Option Addr) (n c : Nat) (p : Nat → Tm) (hp : RdP w a n c p) (hnl : a = none → c = 0) (hT : Tab w) (hV : ErrV w) (h7 : 7 < w.heap.size) :
    Calls Tryz.prog 9 #[.slice a n c] w (RetTrue w) := by
  have HB := Below.refl w.heap.size w
  have HN := Lib.hid hnl
  have al := fun (W : World) (hW : Below w.heap.size w W) => alive_c W (hT.keep hW) (hV.grown (grown_below hW none) (by simp)) (by have := hW.size; omega)
  have AL := Lib.hid al
  clear hnl al
  go_enter Tryz.func9, Tryz.ntmps9
  go_wp2_with fail
  refine (AL.out w HB).mono ?_
  rintro e w1 ⟨rfl, hb1⟩
  have B1 := HB.trans (hb1.mono HB.size)
  have hs1 := B1.size
  go_wp2_with fail
  refine (Great_c _ w1.heap.size 20 a n c p (by omega) (by simp [go_sem]) (hp.keep (by go_grown))).mono ?_
  rintro e w2 ⟨r, rfl, hr, hb2⟩
  have B2 : Below w.heap.size w w2 := Below.trans (by go_grown) (hb2.mono (by have := B1.size; simp; omega))
  cases r
  · obtain ⟨hn, hsm⟩ := hr rfl
    have HSM := Lib.hid hsm
    clear hr hsm
    rcases Classical.em (POk p n) with hok | hok
    · have HOK := Lib.hid hok
      clear hok
      go_wp2_with fail
      refine (pCheck_c w2 a n c p (hp.keep B2) (fun k hk => by have := HSM.out k hk; omega) true ⟨fun _ => rfl, fun _ => HOK.out⟩).mono ?_
      rintro e w3 ⟨rfl, hb3⟩
      have B3 := B2.trans (hb3.mono B2.size)
      rcases Classical.em (FineP p n) with hf | hf
      · have HF := Lib.hid hf
        clear hf
        go_wp2_with fail
        refine (fine_c w3 a n c p (hp.keep B3) true ⟨fun _ => rfl, fun _ => HF.out⟩).mono ?_
        rintro e w4 ⟨rfl, hb4⟩
        have B4 := B3.trans (hb4.mono B3.size)
        have PA := arg_at (hp.keep B4) HOK.out HN.out
        have PWl := Lib.hid (arg_pw hp HOK.out)
        have FEW := Lib.hid (arg_few hp HOK.out (K := 10000) (fun i hi => by have := HSM.out i hi; omega))
        have FT := Lib.hid (arg_fine hp HOK.out HF.out)
        by_cases hn0 : n = 0
        · have hni : (n : Int) = 0 := by omega
          subst hn0
          go_wp2_with fail
          refine (AL.out w4 B4).mono ?_
          rintro e w5 ⟨rfl, hb5⟩
          go_wp2_with fail
          go_ret
          exact ⟨rfl, B4.trans (hb5.mono B4.size)⟩
        · have hni : ¬ (n : Int) = 0 := by omega
          go_wp2_with fail
          refine (text_at w4 0 a n c _ PA PWl.out FEW.out (by omega) (hT.keep B4)).mono ?_
          rintro e w5 ⟨rfl, hb5⟩
          have B5 := B4.trans (hb5.mono B4.size)
          have PA5 := Lib.hid (PA.keep hb5)
          have hll : (lst p n).length = n := lst_len p n
          have hlen : (txL (lst p n)).length ≤ 1 + (lst p n).length * 447 := sum_len (s := [32]) (b := [32]) (by simp) (by simp) FT.out
          have HXI : Hid (∀ i, i < n → ∃ x, (lst p n)[i]? = some x ∧ TmIs (p i) x) := Lib.hid fun i hi => ⟨tmX (p i), lst_get p hi, tmX_is (HOK.out i hi).1⟩
          have RD := Lib.hid (order_read PWl.out.falls FT.out (by omega) (by omega))
          have HBL := Lib.hid (back_len FT.out)
          have HOL := Lib.hid (opp_len FT.out)
          have HBS := Lib.hid (fun i (hi : i < (lst p n).length) => back_step FT.out hi)
          have HOS := Lib.hid (fun i (hi : i < (lst p n).length) => opp_step FT.out hi)
          have HBE := Lib.hid (back_end (lst p n))
          have HOE := Lib.hid (opp_end (lst p n))
          clear PA HOK HF hb1 hb2 hb3 hb4 hb5 B1 B2 B3
          generalize lst p n = l at *
          obtain ⟨T, hTX⟩ : ∃ T, T = txL l := ⟨_, rfl⟩
          rw [← hTX] at hlen
          rw [← hTX]
          have HTX := Lib.hid hTX
          clear hTX
          go_wp2_with fail
          go_loopw [3, 4, 5] (fun v3 v4 v5 wr => ∃ j : Nat, j ≤ n ∧ v5 = .int .i64 ((j : Int) - 1) ∧ v3 = .string ⟨(backS l j).toArray⟩ ∧ v4 = .string ⟨(T ++ oppS l j).toArray⟩ ∧ Below w.heap.size w wr ∧ Below w5.heap.size w5 wr) (fun _ _ v5 _ => ((intOf v5) + 1).toNat)
          case atStart => exact ⟨n, by omega, rfl, by rw [← hll, HBE.out], by rw [← hll, HOE.out, List.append_nil], B5, Below.refl _ _⟩
          case round =>
            obtain ⟨j, hj, rfl, rfl, rfl, HBr, HB5⟩ := hrel
            cases j with
            | zero =>
              have hlb := HBL.out 0
              have hlo := HOL.out 0
              have hln : l.length ≤ 20 := by omega
              have hP1 := parse_c wr (backS l 0) (by omega) (hV.grown (grown_below HBr none) (by simp)) (by have := HBr.size; omega)
              rw [RD.out.1] at hP1
              have hRD2 := RD.out.2
              have HT2 := Lib.hid hRD2
              clear hRD2
              go_wp2_with fail
              refine hP1.mono ?_
              rintro e w7 ⟨a7, n7, c7, rfl, P7, hb7⟩
              have B7 := HBr.trans (hb7.mono HBr.size)
              have hP2 := parse_c w7 (T ++ oppS l 0) (by rw [List.length_append]; have : T.length ≤ 1 + l.length * 447 := hlen; omega) (hV.grown (grown_below B7 none) (by simp)) (by have := B7.size; omega)
              rw [HTX.out, HT2.out] at hP2
              have PA7 := (PA5.out.keep HB5).keep hb7
              go_wp2_with fail
              rw [HTX.out]
              refine hP2.mono ?_
              rintro e w8 ⟨a8, n8, c8, rfl, P8, hb8⟩
              have B8 := B7.trans (hb8.mono B7.size)
              obtain rfl : n8 = 0 := P8.len.symm
              go_wp2_with fail
              refine (same_c w8 _ a7 n7 c7 _ (P7.keep hb8) _ a n c (PA7.keep hb8)).mono ?_
              rintro e w9 ⟨rfl, hb9⟩
              go_wp2_with fail
              go_ret
              exact ⟨by simp, B8.trans (hb9.mono B8.size)⟩
            | succ i =>
              have hi : i < n := by omega
              rw [show ((i + 1 : Nat) : Int) - 1 = (i : Int) by omega]
              obtain ⟨b, o, rfl, _⟩ := hp.cell.resolve_left (by omega)
              obtain ⟨x, hx, hti⟩ := HXI.out i hi
              have hrt := (hp.tm i hi).keep HBr
              obtain ⟨e0, e1, e2, e3, e4, e5, e6, e7⟩ := (hp.keep HBr).at hi
              have hg : ∃ h, l[i]'h = x := List.getElem?_eq_some_iff.1 hx
              obtain ⟨hil, hgx⟩ := hg
              have bs := HBS.out i (by rw [hll]; exact hi)
              have os := HOS.out i (by rw [hll]; exact hi)
              have hmem := List.getElem_mem hil
              rw [hgx] at bs os hmem
              have hbl := HBL.out (i + 1)
              have hol := HOL.out (i + 1)
              have hfx := FT.out x hmem
              have hpx := one_pw hfx.c hfx.nz (PWl.out.key x hmem)
              have hfw : FewL 10000 [x] := fun y hy => by
                simp only [List.mem_singleton] at hy; subst hy; exact FEW.out y hmem
              have hsx := HSM.out i hi
              generalize p i = t at *
              generalize backS l (i + 1) = S at *
              generalize oppS l (i + 1) = O at *
              have BS := Lib.hid bs
              have OS := Lib.hid os
              have HFX := Lib.hid hfx
              clear bs os hfx hx hgx hmem
              have hsr := HBr.size
              go_wp2_with fail
              refine (text_at _ 0 (some ⟨wr.heap.size, 0, none⟩) 1 1 [x] (one_at (hrt.keep (by go_grown)) hti (by simp [go_sem]) (by simp [go_sem]) (by simp [go_sem]) (by simp [go_sem]) (by simp [go_sem]) (by simp [go_sem]) (by simp [go_sem]) (by simp [go_sem])) hpx hfw (by omega) (hT.keep (HBr.trans (Below.mono (by go_grown : Below wr.heap.size wr _) hsr)))).mono ?_
              rintro e w6 ⟨rfl, hb6⟩
              have B6 : Below wr.heap.size wr w6 := Below.trans (by go_grown) (hb6.mono (by go_size))
              have hz6 := B6.size
              replace e0 := cell_keep B6 e0
              replace e1 := cell_keep B6 e1
              replace e2 := cell_keep B6 e2
              replace e3 := cell_keep B6 e3
              replace e4 := cell_keep B6 e4
              replace e5 := cell_keep B6 e5
              replace e6 := cell_keep B6 e6
              replace e7 := cell_keep B6 e7
              have hrt6 := hrt.keep B6
              clear hb6
              have hpn : PW [negT x] := negT_pw hpx
              have hfn : FewL 10000 [negT x] := negT_few hfw
              have HB6 := Below.refl w6.heap.size w6
              have BW6 := HBr.trans (B6.mono hsr)
              go_upto_region 9 with fail
              go_cut [7] (fun v7 wc => v7 = .string ⟨(tx1 (negT x)).toArray⟩ ∧ Below w6.heap.size w6 wc)
              case first =>
                go_region_held3 (fun W => W.cell? ⟨b, o + i * 8, none⟩ = some (.bool t.g1) ∧ W.cell? ⟨b, o + i * 8 + 1, none⟩ = some (.slice t.a1 t.n1 t.c1) ∧ W.cell? ⟨b, o + i * 8 + 2, none⟩ = some (.bool t.g2) ∧ W.cell? ⟨b, o + i * 8 + 3, none⟩ = some (.slice t.a2 t.n2 t.c2) ∧ W.cell? ⟨b, o + i * 8 + 4, none⟩ = some (.int .u16 t.m0) ∧ W.cell? ⟨b, o + i * 8 + 5, none⟩ = some (.int .u16 t.m1) ∧ W.cell? ⟨b, o + i * 8 + 6, none⟩ = some (.int .u16 t.m2) ∧ W.cell? ⟨b, o + i * 8 + 7, none⟩ = some (.int .u16 t.m3)) (first | ((try dsimp only); (repeat' apply And.intro); all_goals (first | (with_reducible assumption) | (go_keep; done) | (simp [*, go_sem]; done)))) (first
                | (go_at_call 30; (with_reducible refine (fOf_c (World.drew (World.alloc _ _)) (-1) (by omega) (by omega)).mono ?_); rintro e w7 ⟨go1, ao1, no1, co1, go2, ao2, no2, co2, rfl, hone, hfo1, hfo2, hb7⟩; have HB7 : Below w6.heap.size w6 w7 := Below.trans (by go_grown) (hb7.mono (by go_size)); have hz7 := HB7.size; replace e0 := cell_keep HB7 e0; replace e1 := cell_keep HB7 e1; replace e2 := cell_keep HB7 e2; replace e3 := cell_keep HB7 e3; replace e4 := cell_keep HB7 e4; replace e5 := cell_keep HB7 e5; replace e6 := cell_keep HB7 e6; replace e7 := cell_keep HB7 e7; have zc0 : w7.cell? ⟨w6.heap.size, 0, none⟩ = some (.bool t.g1) := cell_keep hb7 (by simp [go_sem]); have zc1 : w7.cell? ⟨w6.heap.size, 1, none⟩ = some (.slice t.a1 t.n1 t.c1) := cell_keep hb7 (by simp [go_sem]); have zc2 : w7.cell? ⟨w6.heap.size, 2, none⟩ = some (.bool t.g2) := cell_keep hb7 (by simp [go_sem]); have zc3 : w7.cell? ⟨w6.heap.size, 3, none⟩ = some (.slice t.a2 t.n2 t.c2) := cell_keep hb7 (by simp [go_sem]); have zc4 : w7.cell? ⟨w6.heap.size, 4, none⟩ = some (.int .u16 t.m0) := cell_keep hb7 (by simp [go_sem]); have zc5 : w7.cell? ⟨w6.heap.size, 5, none⟩ = some (.int .u16 t.m1) := cell_keep hb7 (by simp [go_sem]); have zc6 : w7.cell? ⟨w6.heap.size, 6, none⟩ = some (.int .u16 t.m2) := cell_keep hb7 (by simp [go_sem]); have zc7 : w7.cell? ⟨w6.heap.size, 7, none⟩ = some (.int .u16 t.m3) := cell_keep hb7 (by simp [go_sem]))
                | (go_at_call 30; (with_reducible refine (fOf_c _ (-1) (by omega) (by omega)).mono ?_); rintro e w7 ⟨go1, ao1, no1, co1, go2, ao2, no2, co2, rfl, hone, hfo1, hfo2, hb7⟩; have HB7 : Below w6.heap.size w6 w7 := Below.trans (by go_grown) (hb7.mono (by go_size)); have hz7 := HB7.size; replace e0 := cell_keep HB7 e0; replace e1 := cell_keep HB7 e1; replace e2 := cell_keep HB7 e2; replace e3 := cell_keep HB7 e3; replace e4 := cell_keep HB7 e4; replace e5 := cell_keep HB7 e5; replace e6 := cell_keep HB7 e6; replace e7 := cell_keep HB7 e7)
                | (go_at_call 29; have Q1 : PolyAt w7 0 (some ⟨w6.heap.size, 0, none⟩) 1 1 [x] := one_at (hrt6.keep HB7) hti zc0 zc1 zc2 zc3 zc4 zc5 zc6 zc7; (with_reducible refine (scale_c w7 0 (some ⟨w6.heap.size, 0, none⟩) 1 1 [x] Q1 hpx 10000 hfw (by omega) (by omega) go1 ao1 no1 co1 go2 ao2 no2 co2 hone).mono ?_); rintro e w8 ⟨a8, n8, c8, rfl, P8, hb8⟩; have HB8 : Below w6.heap.size w6 w8 := Below.trans (by go_grown) (hb8.mono (by first | exact Nat.le_refl _ | assumption | go_size | (simp; omega))); have hz8 := HB8.size; replace e0 := cell_keep (Below.trans (by go_grown) (hb8.mono (by first | exact Nat.le_refl _ | assumption | go_size | (simp; omega))) : Below w7.heap.size w7 w8) e0; replace e1 := cell_keep (Below.trans (by go_grown) (hb8.mono (by first | exact Nat.le_refl _ | assumption | go_size | (simp; omega))) : Below w7.heap.size w7 w8) e1; replace e2 := cell_keep (Below.trans (by go_grown) (hb8.mono (by first | exact Nat.le_refl _ | assumption | go_size | (simp; omega))) : Below w7.heap.size w7 w8) e2; replace e3 := cell_keep (Below.trans (by go_grown) (hb8.mono (by first | exact Nat.le_refl _ | assumption | go_size | (simp; omega))) : Below w7.heap.size w7 w8) e3; replace e4 := cell_keep (Below.trans (by go_grown) (hb8.mono (by first | exact Nat.le_refl _ | assumption | go_size | (simp; omega))) : Below w7.heap.size w7 w8) e4; replace e5 := cell_keep (Below.trans (by go_grown) (hb8.mono (by first | exact Nat.le_refl _ | assumption | go_size | (simp; omega))) : Below w7.heap.size w7 w8) e5; replace e6 := cell_keep (Below.trans (by go_grown) (hb8.mono (by first | exact Nat.le_refl _ | assumption | go_size | (simp; omega))) : Below w7.heap.size w7 w8) e6; replace e7 := cell_keep (Below.trans (by go_grown) (hb8.mono (by first | exact Nat.le_refl _ | assumption | go_size | (simp; omega))) : Below w7.heap.size w7 w8) e7)
                | (go_at_call 29; (with_reducible refine (scale_c _ 0 (some ⟨w7.heap.size, 0, none⟩) 1 1 [x] (one_at (hrt6.keep (by go_grown)) hti (by simp [go_sem]) (by simp [go_sem]) (by simp [go_sem]) (by simp [go_sem]) (by simp [go_sem]) (by simp [go_sem]) (by simp [go_sem]) (by simp [go_sem])) hpx 10000 hfw (by omega) (by omega) go1 ao1 no1 co1 go2 ao2 no2 co2 (hone.keep (by go_grown))).mono ?_); rintro e w8 ⟨a8, n8, c8, rfl, P8, hb8⟩; have HB8 : Below w6.heap.size w6 w8 := Below.trans (by go_grown) (hb8.mono (by first | exact Nat.le_refl _ | assumption | go_size | (simp; omega))); have hz8 := HB8.size; replace e0 := cell_keep (Below.trans (by go_grown) (hb8.mono (by first | exact Nat.le_refl _ | assumption | go_size | (simp; omega))) : Below w7.heap.size w7 w8) e0; replace e1 := cell_keep (Below.trans (by go_grown) (hb8.mono (by first | exact Nat.le_refl _ | assumption | go_size | (simp; omega))) : Below w7.heap.size w7 w8) e1; replace e2 := cell_keep (Below.trans (by go_grown) (hb8.mono (by first | exact Nat.le_refl _ | assumption | go_size | (simp; omega))) : Below w7.heap.size w7 w8) e2; replace e3 := cell_keep (Below.trans (by go_grown) (hb8.mono (by first | exact Nat.le_refl _ | assumption | go_size | (simp; omega))) : Below w7.heap.size w7 w8) e3; replace e4 := cell_keep (Below.trans (by go_grown) (hb8.mono (by first | exact Nat.le_refl _ | assumption | go_size | (simp; omega))) : Below w7.heap.size w7 w8) e4; replace e5 := cell_keep (Below.trans (by go_grown) (hb8.mono (by first | exact Nat.le_refl _ | assumption | go_size | (simp; omega))) : Below w7.heap.size w7 w8) e5; replace e6 := cell_keep (Below.trans (by go_grown) (hb8.mono (by first | exact Nat.le_refl _ | assumption | go_size | (simp; omega))) : Below w7.heap.size w7 w8) e6; replace e7 := cell_keep (Below.trans (by go_grown) (hb8.mono (by first | exact Nat.le_refl _ | assumption | go_size | (simp; omega))) : Below w7.heap.size w7 w8) e7)
                | (go_at_call 14; (with_reducible refine (text_at _ _ a8 n8 c8 [negT x] (P8.keep (by go_grown)) hpn hfn (by have := P8.len; simp at this; omega) (hT.keep (BW6.trans (HB8.mono BW6.size)))).mono ?_); rintro e w9 ⟨rfl, hb9⟩; have HB9 : Below w6.heap.size w6 w9 := Below.trans (by go_grown) (hb9.mono (by first | exact Nat.le_refl _ | assumption | go_size | (simp; omega))); replace e0 := cell_keep (Below.trans (by go_grown) (hb9.mono (by first | exact Nat.le_refl _ | assumption | go_size | (simp; omega))) : Below w8.heap.size w8 w9) e0; replace e1 := cell_keep (Below.trans (by go_grown) (hb9.mono (by first | exact Nat.le_refl _ | assumption | go_size | (simp; omega))) : Below w8.heap.size w8 w9) e1; replace e2 := cell_keep (Below.trans (by go_grown) (hb9.mono (by first | exact Nat.le_refl _ | assumption | go_size | (simp; omega))) : Below w8.heap.size w8 w9) e2; replace e3 := cell_keep (Below.trans (by go_grown) (hb9.mono (by first | exact Nat.le_refl _ | assumption | go_size | (simp; omega))) : Below w8.heap.size w8 w9) e3; replace e4 := cell_keep (Below.trans (by go_grown) (hb9.mono (by first | exact Nat.le_refl _ | assumption | go_size | (simp; omega))) : Below w8.heap.size w8 w9) e4; replace e5 := cell_keep (Below.trans (by go_grown) (hb9.mono (by first | exact Nat.le_refl _ | assumption | go_size | (simp; omega))) : Below w8.heap.size w8 w9) e5; replace e6 := cell_keep (Below.trans (by go_grown) (hb9.mono (by first | exact Nat.le_refl _ | assumption | go_size | (simp; omega))) : Below w8.heap.size w8 w9) e6; replace e7 := cell_keep (Below.trans (by go_grown) (hb9.mono (by first | exact Nat.le_refl _ | assumption | go_size | (simp; omega))) : Below w8.heap.size w8 w9) e7))
                · go_wp2_with fail
                  go_meet
                  case rel => exact ⟨rfl, HB9⟩
                · go_wp2_with fail
                  go_meet
                  case rel => exact ⟨rfl, HB9⟩
              case rest =>
                obtain ⟨rfl, HBC⟩ := hcut
                replace e0 := cell_keep HBC e0
                replace e1 := cell_keep HBC e1
                replace e2 := cell_keep HBC e2
                replace e3 := cell_keep HBC e3
                replace e4 := cell_keep HBC e4
                replace e5 := cell_keep HBC e5
                replace e6 := cell_keep HBC e6
                replace e7 := cell_keep HBC e7
                have hrtc := hrt6.keep HBC
                have BWC := BW6.trans (HBC.mono BW6.size)
                have hfrx := hti.frac hrtc HFX.out.c
                have hq1 := hrtc.top.few
                have hq2 := hrtc.low.few
                have hsx1 := hti.g1
                have hTl : T.length ≤ 1 + l.length * 447 := hlen
                have h1l := tx1_len HFX.out
                have h2l := tx1_len (fine_neg HFX.out)
                have hln : l.length ≤ 20 := by omega
                have HTI := Lib.hid hti
                obtain ⟨X1, hX1⟩ : ∃ X1, X1 = tx1 x := ⟨_, rfl⟩
                obtain ⟨X2, hX2⟩ : ∃ X2, X2 = tx1 (negT x) := ⟨_, rfl⟩
                rw [← hX1] at h1l
                rw [← hX2] at h2l
                rw [show txL [x] = X1 from hX1.symm, ← hX2]
                have HX1 := Lib.hid hX1
                have HX2 := Lib.hid hX2
                clear hX1 hX2 hsx1 hti hlen
                go_wp2_with fail
                refine (fSign_c wc t.g1 t.a1 t.n1 t.c1 x.2.1 t.g2 t.a2 t.n2 t.c2 x.2.2 hfrx (by omega) (by omega)).mono ?_
                rintro e wd ⟨rfl, hbd⟩
                have BWD := BWC.trans (hbd.mono BWC.size)
                have y1 := HB5.size
                have y2 := B6.size
                have y3 := HBC.size
                have B5D : Below w5.heap.size w5 wd := ((HB5.trans (B6.mono y1)).trans (HBC.mono (by omega))).trans (hbd.mono (by omega))
                clear y1 y2 y3
                by_cases hsg : x.2.1 < 0
                · have hcm : cmpI x.2.1 0 = -1 := cmpI_lt hsg
                  have hsb : sgB x = true := by unfold sgB; rw [decide_eq_true hsg]
                  have E1 := Lib.hid (show backS l i = S ++ X1 by rw [BS.out, if_pos hsb, HX1.out])
                  have E2 := Lib.hid (show oppS l i = (O ++ [43]) ++ X2 by rw [OS.out, if_pos hsb, HX2.out])
                  have c1 : (⟨S.toArray⟩ : ByteArray).size + (⟨X1.toArray⟩ : ByteArray).size ≤ 9223372036854775807 := by rw [ba_size, ba_size]; omega
                  have a1 : (⟨S.toArray⟩ : ByteArray) ++ (⟨X1.toArray⟩ : ByteArray) = ⟨(S ++ X1).toArray⟩ := ba_app _ _
                  have c2 : (⟨(T ++ O).toArray⟩ : ByteArray).size + (⟨#[43]⟩ : ByteArray).size ≤ 9223372036854775807 := by rw [ba_size, List.length_append]; show _ + 1 ≤ _; omega
                  have a2 : (⟨(T ++ O).toArray⟩ : ByteArray) ++ (⟨#[43]⟩ : ByteArray) = ⟨(T ++ (O ++ [43])).toArray⟩ := by rw [← List.append_assoc]; exact ba_app _ [43]
                  have c3 : (⟨(T ++ (O ++ [43])).toArray⟩ : ByteArray).size + (⟨X2.toArray⟩ : ByteArray).size ≤ 9223372036854775807 := by rw [ba_size, ba_size, List.length_append, List.length_append, List.length_singleton]; omega
                  have a3 : (⟨(T ++ (O ++ [43])).toArray⟩ : ByteArray) ++ (⟨X2.toArray⟩ : ByteArray) = ⟨(T ++ (O ++ 43 :: X2)).toArray⟩ := by rw [ba_app]; simp
                  rw [hcm]
                  clear hcm hsb hsg BS OS
                  go_wp2_with fail
                  go_roundw
                  case rel => exact ⟨i, by omega, by first | rfl | (congr 1; omega) | go_num, by simp [E1.out], by simp [E2.out], BWD, B5D⟩
                  case measure => (first | (simp [intOf]; omega) | (simp [intOf]; done))
                · have hnz := HFX.out.nz
                  have hcm : cmpI x.2.1 0 = 1 := cmpI_gt (by omega)
                  have hsb : sgB x = false := by unfold sgB; rw [decide_eq_false hsg]
                  have E2 := Lib.hid (show oppS l i = O ++ X2 by rw [OS.out, if_neg (by rw [hsb]; decide), HX2.out])
                  have c2 : (⟨(T ++ O).toArray⟩ : ByteArray).size + (⟨X2.toArray⟩ : ByteArray).size ≤ 9223372036854775807 := by rw [ba_size, ba_size, List.length_append]; omega
                  have a2 : (⟨(T ++ O).toArray⟩ : ByteArray) ++ (⟨X2.toArray⟩ : ByteArray) = ⟨(T ++ (O ++ X2)).toArray⟩ := by rw [ba_app]; simp
                  have c4 : (⟨#[]⟩ : ByteArray).size + (⟨X1.toArray⟩ : ByteArray).size ≤ 9223372036854775807 := by show 0 + X1.length ≤ _; omega
                  have a4 : (⟨#[]⟩ : ByteArray) ++ (⟨X1.toArray⟩ : ByteArray) = ⟨X1.toArray⟩ := ba_app [] _
                  rw [hcm]
                  clear hcm hsg hnz
                  by_cases hS : S = []
                  · have E1 := Lib.hid (show backS l i = X1 by rw [BS.out, if_neg (by rw [hsb]; decide), if_pos hS, HX1.out]; rfl)
                    clear BS OS hsb
                    subst hS
                    go_wp2_with fail
                    go_roundw
                    case rel => exact ⟨i, by omega, by first | rfl | (congr 1; omega) | go_num, by simp [E1.out], by simp [E2.out], BWD, B5D⟩
                    case measure => (first | (simp [intOf]; omega) | (simp [intOf]; done))
                  · have E1 := Lib.hid (show backS l i = (S ++ [43]) ++ X1 by rw [BS.out, if_neg (by rw [hsb]; decide), if_neg hS, HX1.out])
                    have hS1 : (S == []) = false := by rw [beq_eq_false_iff_ne]; exact hS
                    have c1 : (⟨S.toArray⟩ : ByteArray).size + (⟨#[43]⟩ : ByteArray).size ≤ 9223372036854775807 := by rw [ba_size]; show _ + 1 ≤ _; omega
                    have a1 : (⟨S.toArray⟩ : ByteArray) ++ (⟨#[43]⟩ : ByteArray) = ⟨(S ++ [43]).toArray⟩ := ba_app _ [43]
                    have c3 : (⟨(S ++ [43]).toArray⟩ : ByteArray).size + (⟨X1.toArray⟩ : ByteArray).size ≤ 9223372036854775807 := by rw [ba_size, ba_size, List.length_append, List.length_singleton]; omega
                    have a3 : (⟨(S ++ [43]).toArray⟩ : ByteArray) ++ (⟨X1.toArray⟩ : ByteArray) = ⟨(S ++ 43 :: X1).toArray⟩ := by rw [ba_app]; simp
                    clear BS OS hsb hS
                    go_wp2_with fail
                    go_roundw
                    case rel => exact ⟨i, by omega, by first | rfl | (congr 1; omega) | go_num, by simp [E1.out], by simp [E2.out], BWD, B5D⟩
                    case measure => (first | (simp [intOf]; omega) | (simp [intOf]; done))
      · have HF := Lib.hid hf
        clear hf
        go_wp2_with fail
        refine (fine_c w3 a n c p (hp.keep B3) false ⟨fun h => absurd h HF.out, fun h => by cases h⟩).mono ?_
        rintro e w4 ⟨rfl, hb4⟩
        have B4 := B3.trans (hb4.mono B3.size)
        go_wp2_with fail
        refine (AL.out w4 B4).mono ?_
        rintro e w5 ⟨rfl, hb5⟩
        go_wp2_with fail
        go_ret
        exact ⟨rfl, B4.trans (hb5.mono B4.size)⟩
    · have HOK := Lib.hid hok
      clear hok
      go_wp2_with fail
      refine (pCheck_c w2 a n c p (hp.keep B2) (fun k hk => by have := HSM.out k hk; omega) false ⟨fun h => absurd h HOK.out, fun h => by cases h⟩).mono ?_
      rintro e w3 ⟨rfl, hb3⟩
      have B3 := B2.trans (hb3.mono B2.size)
      go_wp2_with fail
      refine (AL.out w3 B3).mono ?_
      rintro e w4 ⟨rfl, hb4⟩
      go_wp2_with fail
      go_ret
      exact ⟨rfl, B3.trans (hb4.mono B3.size)⟩
  · go_wp2_with fail
    refine (AL.out w2 B2).mono ?_
    rintro e w3 ⟨rfl, hb3⟩
    go_wp2_with fail
    go_ret
    exact ⟨rfl, B2.trans (hb3.mono B2.size)⟩
end Go.Proofs.YtdamegaedmckbaaGreatDoor
end
