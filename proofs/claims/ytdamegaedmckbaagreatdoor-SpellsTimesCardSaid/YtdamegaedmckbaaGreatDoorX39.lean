/- SpellsBlanks: the law's own walk. Conditions: the variables that strconv asks. A sum that came in, read as data, is one in memory. -/
import Derived.Test.YtdamegaedmckbaaGreatDoorX36
import Derived.Test.YtdamegaedmckbaaGreatDoorX37
import Derived.Test.YtdamegaedmckbaaGreatDoorX38
import Derived.Test.YtdamegaedmckbaaGreatDoorX0
import Derived.Deep.Slices
import Derived.ChangeSame
import Derived.OpenShut
import Derived.Laws.IdiomArrays
import Derived.SizedLaws
set_option linter.unusedSimpArgs false
set_option linter.unusedVariables false
section
namespace Go.Proofs.YtdamegaedmckbaaGreatDoor
open Go.RowKit

/-- The blanks that the law puts. -/
def blkOf : Nat → List UInt8
  | 0 => [9]
  | 1 => [32, 32]
  | 2 => [32, 9, 32]
  | _ => [9, 9]
theorem blkOf_bl (k : Nat) : Bl (blkOf k) ∧ blkOf k ≠ [] ∧ (blkOf k).length ≤ 3 := by
  unfold blkOf
  split <;> exact ⟨rfl, by simp, by simp⟩
theorem repl_take {bl L : List UInt8} {i : Nat} (h : i < L.length) : repl bl (L.take (i + 1)) = repl bl (L.take i) ++ (if L[i] = 32 then bl else [L[i]]) := by
  rw [List.take_succ_eq_append_getElem h, repl_app, repl_cons, repl_nil, List.append_nil]
theorem repl_len {bl : List UInt8} (hb : bl.length ≤ 3) : ∀ L : List UInt8, (repl bl L).length ≤ 3 * L.length
  | [] => by simp [repl]
  | c :: L => by
    have := repl_len hb L
    rw [repl_cons, List.length_append, List.length_cons]
    split <;> simp <;> omega
/-- The law's text is read as the sum. -/
theorem blanks_read {l : List PT} (hl : Falls l) (hx : ∀ x ∈ l, FineT x) (hn : l.length ≤ 20) (k : Nat) : rdText (blkOf k ++ (repl (blkOf k) (txL l) ++ blkOf k)) = (l, 0) := by
  obtain ⟨h1, h2, h3⟩ := blkOf_bl k
  rw [repl_sum hx]
  refine rdText_of ?_ (sum_read hl hx (.inl ⟨h1, h2⟩) h1 h1 h1)
  have := sum_len (s := blkOf k) (b := blkOf k) h3 h3 hx
  simp only [List.length_append]
  omega
theorem at_getElem {L : List UInt8} {i : Nat} (h : i < L.length) : (⟨L.toArray⟩ : ByteArray)[i]'(by simpa [ByteArray.size] using h) = L[i] := by simp [ByteArray.getElem_eq_getElem_data]
theorem extract_one {L : List UInt8} {i : Nat} (h : i < L.length) : (⟨L.toArray⟩ : ByteArray).extract i (i + 1) = ⟨[L[i]].toArray⟩ := by
  apply ByteArray.ext
  simp
  rw [List.drop_eq_getElem_cons h]
  rfl
theorem same_c (w : World) (B : Nat) (a : Option Addr) (n c : Nat) (l : List PT) (h : PolyAt w B a n c l) (B' : Nat) (a' : Option Addr) (n' c' : Nat) (h' : PolyAt w B' a' n' c' l) :
    Calls Tryz.prog 25 #[.slice a n c, .slice a' n' c'] w fun e w' => e = .returned (.bool true) ∧ Below w.heap.size w w' := by
  go_enter Tryz.func25, Tryz.ntmps25
  go_wp2_with fail
  refine (samePoly_c w B a n c l h B' a' n' c' h').mono ?_
  rintro e w1 ⟨rfl, hb⟩
  go_wp2_with fail
  go_ret
  exact ⟨rfl, hb⟩
set_option maxRecDepth 100000 in
set_option maxHeartbeats 4000000 in
theorem SpellsBlanks_c (w : World) (a : Option Addr) (n c : Nat) (p : Nat → Tm) (hp : RdP w a n c p) (hnl : a = none → c = 0) (y : Nat) (hy : y < 256) (hT : Tab w) (hV : ErrV w) (h7 : 7 < w.heap.size) :
    Calls Tryz.prog 7 #[.slice a n c, .int .u8 y] w (RetTrue w) := by
  have HB := Below.refl w.heap.size w
  have HN := Lib.hid hnl
  have al := fun (W : World) (hW : Below w.heap.size w W) => alive_c W (hT.keep hW) (hV.grown (grown_below hW none) (by simp)) (by have := hW.size; omega)
  have AL := Lib.hid al
  clear hnl al
  go_enter Tryz.func7, Tryz.ntmps7
  go_wp2_with fail
  refine (AL.out w HB).mono ?_
  rintro e w1 ⟨rfl, hb1⟩
  have B1 := HB.trans (hb1.mono HB.size)
  have hs1 := B1.size
  go_wp2_with fail
  refine (Great_c _ w1.heap.size 20 a n c p (by omega) (by simp [go_sem]) (hp.keep (by go_grown))).mono ?_
  rintro e w2 ⟨r, rfl, hr, hb2⟩
  have B2 : Below w.heap.size w w2 := Below.trans (by go_grown) (hb2.mono (by have := B1.size; simp; omega))
  cases r
  · obtain ⟨hn, hsm⟩ := hr rfl
    have HSM := Lib.hid hsm
    clear hr hsm
    rcases Classical.em (POk p n) with hok | hok
    · have HOK := Lib.hid hok
      clear hok
      go_wp2_with fail
      refine (pCheck_c w2 a n c p (hp.keep B2) (fun k hk => by have := HSM.out k hk; omega) true ⟨fun _ => rfl, fun _ => HOK.out⟩).mono ?_
      rintro e w3 ⟨rfl, hb3⟩
      have B3 := B2.trans (hb3.mono B2.size)
      rcases Classical.em (FineP p n) with hf | hf
      · have HF := Lib.hid hf
        clear hf
        go_wp2_with fail
        refine (fine_c w3 a n c p (hp.keep B3) true ⟨fun _ => rfl, fun _ => HF.out⟩).mono ?_
        rintro e w4 ⟨rfl, hb4⟩
        have B4 := B3.trans (hb4.mono B3.size)
        have PA := arg_at (hp.keep B4) HOK.out HN.out
        have PWl := Lib.hid (arg_pw hp HOK.out)
        have FEW := Lib.hid (arg_few hp HOK.out (K := 10000) (fun i hi => by have := HSM.out i hi; omega))
        have FT := Lib.hid (arg_fine hp HOK.out HF.out)
        go_wp2_with fail
        refine (text_at w4 0 a n c _ PA PWl.out FEW.out (by omega) (hT.keep B4)).mono ?_
        rintro e w5 ⟨rfl, hb5⟩
        have B5 := B4.trans (hb5.mono B4.size)
        have PA5 := Lib.hid (PA.keep hb5)
        have hll : (lst p n).length ≤ 20 := by rw [lst_len]; omega
        have hlen : (txL (lst p n)).length ≤ 1 + (lst p n).length * 447 := sum_len (s := [32]) (b := [32]) (by simp) (by simp) FT.out
        have RD := fun k => blanks_read PWl.out.falls FT.out hll k
        have RD := Lib.hid RD
        have hcl : (w5.alloc (Obj.cells #[Value.string { data := #[9] }, Value.string { data := #[32, 32] }, Value.string { data := #[32, 9, 32] }, Value.string { data := #[9, 9] }] 9)).cell? ⟨w5.heap.size, y % 4, none⟩ = some (.string ⟨(blkOf (y % 4)).toArray⟩) := by
          rcases (by omega : y % 4 = 0 ∨ y % 4 = 1 ∨ y % 4 = 2 ∨ y % 4 = 3) with h | h | h | h <;> rw [h] <;> simp [go_sem, blkOf]
        have hbk := (blkOf_bl (y % 4)).2.2
        have RDy := Lib.hid (RD.out (y % 4))
        have hs5 := B5.size
        clear PA HOK HF HSM RD hb1 hb2 hb3 hb4 hb5 B1 B2 B3 B4
        have FTl := lst_len p n
        generalize lst p n = l at *
        generalize blkOf (y % 4) = bl at *
        generalize txL l = T at *
        have HP := Lib.hid hp
        clear hp
        go_wp2_with fail
        go_loopw [7, 8] (fun v7 v8 wr => ∃ i : Nat, i ≤ T.length ∧ v8 = .int .i64 i ∧ v7 = .string ⟨(bl ++ repl bl (T.take i)).toArray⟩ ∧ Below w.heap.size w wr ∧ Below w5.heap.size w5 wr) (fun _ v8 _ => T.length - (intOf v8).toNat)
        case atStart => exact ⟨0, by omega, rfl, by simp [repl], by go_grown, by go_grown⟩
        case round =>
          obtain ⟨i, hi, rfl, rfl, HBr, HB5⟩ := hrel
          have hrl := repl_len hbk (T.take i)
          have hsr := HBr.size
          rw [List.length_take, Nat.min_eq_left hi] at hrl
          by_cases hlt : i < T.length
          · have hyy := at_getElem hlt
            have hxx := extract_one hlt
            have hrt := repl_take (bl := bl) hlt
            generalize T[i] = ch at *
            have HRT := Lib.hid hrt
            clear hrt
            obtain ⟨S, hS⟩ : ∃ S, S = bl ++ repl bl (T.take i) := ⟨_, rfl⟩
            have hSl : S.length ≤ 3 + 3 * i := by rw [hS, List.length_append]; omega
            rw [← hS]
            have HS := Lib.hid hS
            clear hS hrl
            by_cases h32 : ch = 32
            · have h32' : (ch.toNat : Int) = 32 := by rw [h32]; rfl
              have hcat : (⟨S.toArray⟩ : ByteArray).size + (⟨bl.toArray⟩ : ByteArray).size ≤ 9223372036854775807 := by rw [ba_size, ba_size]; omega
              have happ : (⟨S.toArray⟩ : ByteArray) ++ (⟨bl.toArray⟩ : ByteArray) = ⟨(S ++ bl).toArray⟩ := ba_app _ _
              have HC := Lib.hid h32
              clear h32
              go_wp2_with fail
              go_roundw
              case rel => exact ⟨i + 1, by omega, by go_num, by rw [HRT.out, if_pos HC.out, ← List.append_assoc, ← HS.out], HBr, HB5⟩
              case measure => (first | (simp [intOf]; omega) | (simp [intOf]; done))
            · have h32' : ¬ (ch.toNat : Int) = 32 := by
                intro e
                apply h32
                apply UInt8.toNat_inj.1
                show ch.toNat = 32
                omega
              have hcat : (⟨S.toArray⟩ : ByteArray).size + (⟨[ch].toArray⟩ : ByteArray).size ≤ 9223372036854775807 := by rw [ba_size, ba_size, List.length_singleton]; omega
              have happ : (⟨S.toArray⟩ : ByteArray) ++ (⟨[ch].toArray⟩ : ByteArray) = ⟨(S ++ [ch]).toArray⟩ := ba_app _ _
              have HC := Lib.hid h32
              clear h32
              go_wp2_with fail
              go_roundw
              case rel => exact ⟨i + 1, by omega, by go_num, by rw [HRT.out, if_neg HC.out, ← List.append_assoc, ← HS.out], HBr, HB5⟩
              case measure => (first | (simp [intOf]; omega) | (simp [intOf]; done))
          · obtain rfl : i = T.length := by omega
            rw [List.take_length] at *
            have hcat : (⟨(bl ++ repl bl T).toArray⟩ : ByteArray).size + (⟨bl.toArray⟩ : ByteArray).size ≤ 9223372036854775807 := by rw [ba_size, ba_size, List.length_append]; omega
            have happ : (⟨(bl ++ repl bl T).toArray⟩ : ByteArray) ++ (⟨bl.toArray⟩ : ByteArray) = ⟨(bl ++ (repl bl T ++ bl)).toArray⟩ := by rw [ba_app, List.append_assoc]
            have hP := parse_c wr (bl ++ (repl bl T ++ bl)) (by simp only [List.length_append]; omega) (hV.grown (grown_below HBr none) (by simp)) (by omega)
            rw [RDy.out] at hP
            go_wp2_with fail
            refine hP.mono ?_
            rintro e w7 ⟨a7, n7, c7, rfl, P7, hb7⟩
            have HB7 := HBr.trans (hb7.mono HBr.size)
            have PA7 := (PA5.out.keep HB5).keep hb7
            go_wp2_with fail
            refine (same_c w7 _ a7 n7 c7 _ P7 _ a n c PA7).mono ?_
            rintro e w8 ⟨rfl, hb8⟩
            go_wp2_with fail
            go_ret
            exact ⟨by simp, HB7.trans (hb8.mono HB7.size)⟩
      · have HF := Lib.hid hf
        clear hf
        go_wp2_with fail
        refine (fine_c w3 a n c p (hp.keep B3) false ⟨fun h => absurd h HF.out, fun h => by cases h⟩).mono ?_
        rintro e w4 ⟨rfl, hb4⟩
        have B4 := B3.trans (hb4.mono B3.size)
        go_wp2_with fail
        refine (AL.out w4 B4).mono ?_
        rintro e w5 ⟨rfl, hb5⟩
        go_wp2_with fail
        go_ret
        exact ⟨rfl, B4.trans (hb5.mono B4.size)⟩
    · have HOK := Lib.hid hok
      clear hok
      go_wp2_with fail
      refine (pCheck_c w2 a n c p (hp.keep B2) (fun k hk => by have := HSM.out k hk; omega) false ⟨fun h => absurd h HOK.out, fun h => by cases h⟩).mono ?_
      rintro e w3 ⟨rfl, hb3⟩
      have B3 := B2.trans (hb3.mono B2.size)
      go_wp2_with fail
      refine (AL.out w3 B3).mono ?_
      rintro e w4 ⟨rfl, hb4⟩
      go_wp2_with fail
      go_ret
      exact ⟨rfl, B3.trans (hb4.mono B3.size)⟩
  · go_wp2_with fail
    refine (AL.out w2 B2).mono ?_
    rintro e w3 ⟨rfl, hb3⟩
    go_wp2_with fail
    go_ret
    exact ⟨rfl, B2.trans (hb3.mono B2.size)⟩
end Go.Proofs.YtdamegaedmckbaaGreatDoor
end
section
namespace Go.Proofs.YtdamegaedmckbaaGreatDoor
open Go.ChangeShapes Go.WideShapes Go.RowKit Go.Deep
variable {H : Type} {enc : TypeId × Value → H} {W : World} {sp : Nat → Bool} {held : Bool}

/-- Nothing in a datum takes up more than the form's reach. -/
def Fits (t : TypeId) (d : DataW H) : Prop := ∀ x ∈ d.weights Tryz.prog t, x ≤ reachBytes
theorem reach_val : reachBytes = 140737488351232 := rfl
theorem weightsAll_mem {e : TypeId} : ∀ {l : List (DataW H)} {d : DataW H}, d ∈ l → ∀ n ∈ d.weights Tryz.prog e, n ∈ DataW.weightsAll Tryz.prog e l := by
  intro l
  induction l with
  | nil => intro d hd; cases hd
  | cons x l ih =>
    intro d hd n hn
    rw [DataW.weightsAll, List.mem_append]
    rcases List.mem_cons.1 hd with rfl | hd
    · exact .inl hn
    · exact .inr (ih hd n hn)
theorem fits_part {t : TypeId} {fs : Array Field} {parts : List (DataW H)} (ht : Tryz.prog.underlying t = some (.struct fs)) (h : Fits t (.agg parts)) {j : Nat} {f : Field} {d : DataW H} (hf : fs[j]? = some f) (hd : parts[j]? = some d) : Fits f.type d := by
  intro x hx
  refine h x ?_
  rw [DataW.weights, ht]
  refine DataW.weights_mem_each (j := j) (t := f.type) ?_ hd x hx
  rw [List.getElem?_map, Array.getElem?_toList, hf]
  rfl
theorem fits_elem {t e : TypeId} {elems spare : List (DataW H)} (ht : Tryz.prog.underlying t = some (.slice e)) (h : Fits t (.slice elems spare)) {d : DataW H} (hd : d ∈ elems) : Fits e d := by
  intro x hx
  refine h x ?_
  rw [DataW.weights, ht]
  exact List.mem_cons_of_mem _ (List.mem_append_left _ (weightsAll_mem hd x hx))
theorem fits_size {t e : TypeId} {elems spare : List (DataW H)} (ht : Tryz.prog.underlying t = some (.slice e)) (h : Fits t (.slice elems spare)) : (elems.length + spare.length) * Tryz.prog.bytesOf e ≤ 140737488351232 := by
  refine h _ ?_
  rw [DataW.weights, ht]
  exact List.mem_cons_self ..
theorem addr_none {a : Addr} {v : Value} (h : W.cell? a = some v) : ∃ b o, a = ⟨b, o, none⟩ := by
  obtain ⟨b, o, s⟩ := a
  cases s with
  | none => exact ⟨b, o, rfl⟩
  | some i =>
    simp only [World.cell?] at h
    split at h <;> cases h
theorem cellsOf112 : Tryz.prog.cellsOf 112 = 1 := by kernel_rfl
theorem bytesOf112 : Tryz.prog.bytesOf 112 = 4 := by kernel_rfl
theorem cellsOf68 : Tryz.prog.cellsOf 68 = 8 := by kernel_rfl
theorem bytesOf68 : Tryz.prog.bytesOf 68 = 72 := by kernel_rfl
theorem open_limbs {fuel : Nat} {cs : List Value} {x : DataW H × List MemPlace} (h : DataW.trod enc Tryz.prog W 0 (fun _ => true) held fuel 57 cs = some x) (hw : Fits 57 x.1) :
    ∃ a n c d, cs = [.slice a n c] ∧ RdL W a n c d := by
  rcases open_ints (k := .u32) Tryz.underlying57 (by kernel_rfl) cellsOf112 h with ⟨rfl, _⟩ | ⟨a, len, cap, zs, rfl, _, hl, hm, hzl, rfl, hcell, hwf⟩
  · exact ⟨none, 0, 0, [], rfl, rfl, Nat.le_refl _, by omega, by omega, fun i => by simp [lim], .inl rfl⟩
  · simp only [if_true] at hzl
    have hsz := fits_size Tryz.underlying57 hw
    rw [bytesOf112] at hsz
    have hcl : cap * 4 ≤ 140737488351232 := by
      simp only [lits, List.length_map, List.length_take, List.length_drop] at hsz
      omega
    have hr : ∀ z ∈ zs, 0 ≤ z ∧ z < 4294967296 := fun z hz => by
      have := hwf z hz
      simp [Lit.wf, IntKind.min, IntKind.max, IntKind.signed, IntKind.bits] at this
      omega
    have hgd : ∀ i, 0 ≤ zs.getD i 0 ∧ zs.getD i 0 < 4294967296 := fun i => by
      by_cases hi : i < zs.length
      · simp only [List.getD, List.getElem?_eq_getElem hi, Option.getD_some]; exact hr _ (List.getElem_mem hi)
      · simp [List.getD, List.getElem?_eq_none (Nat.le_of_not_lt hi)]
    have hlim : ∀ i, i < len → lim ((zs.take len).map Int.toNat) i = zs.getD i 0 := fun i hi => by
      have h1 := hgd i
      simp only [lim, List.getD, List.getElem?_map, List.getElem?_take_of_lt hi, List.getElem?_eq_getElem (show i < zs.length by omega), Option.map_some, Option.getD_some] at h1 ⊢
      omega
    refine ⟨some a, len, cap, (zs.take len).map Int.toNat, rfl, ?_, hl, by omega, by unfold maxLen at hm; omega, fun i => ?_, ?_⟩
    · rw [List.length_map, List.length_take]; omega
    · by_cases hi : i < len
      · rw [hlim i hi]; exact hgd i
      · rw [show lim ((zs.take len).map Int.toNat) i = 0 by simp only [lim, List.getD]; rw [List.getElem?_eq_none (by rw [List.length_map, List.length_take]; omega)]; rfl]; omega
    · rcases Nat.eq_zero_or_pos len with h0 | h0
      · exact .inl h0
      · right
        have h1 := hcell 0 (by omega)
        rw [show a.add 0 = a from rfl] at h1
        obtain ⟨b, o, rfl⟩ := addr_none h1
        refine ⟨b, o, rfl, fun i hi => ?_⟩
        have h2 := hcell i (by omega)
        have hadd : (⟨b, o, none⟩ : Addr).add i = ⟨b, o + i, none⟩ := by unfold Addr.add; split <;> simp_all
        rw [hadd] at h2
        rw [h2, hlim i hi]
set_option maxRecDepth 100000 in
theorem open_num {fuel : Nat} {c0 c1 : Value} {x : DataW H × List MemPlace} (h : DataW.trod enc Tryz.prog W 0 (fun _ => true) held fuel 59 [c0, c1] = some x) (hw : Fits 59 x.1) :
    ∃ g a n c d, c0 = .bool g ∧ c1 = .slice a n c ∧ RdL W a n c d := by
  obtain ⟨xs, n, _, rfl, _, hlen, hf⟩ := DataW.trod_struct Tryz.underlying59 h
  match xs, hlen with
  | [y0, y1], _ =>
    have h0 := hf 0 _ rfl
    have h1 := hf 1 _ rfl
    have f1 := fits_part Tryz.underlying59 hw (j := 1) (d := y1.1) rfl rfl
    obtain ⟨g, hg, _⟩ := DataW.trod_bool (P := Tryz.prog) (t := 4) (by kernel_rfl) (show DataW.trod enc Tryz.prog W 0 (fun _ => true) held n 4 [c0] = some y0 from h0)
    obtain ⟨a, m, c, d, hc, hr⟩ := open_limbs (show DataW.trod enc Tryz.prog W 0 (fun _ => true) held n 57 [c1] = some y1 from h1) f1
    simp only [List.cons.injEq, and_true] at hg hc
    exact ⟨g, a, m, c, d, hg, hc, hr⟩
set_option maxRecDepth 100000 in
theorem open_u16 {fuel : Nat} {c0 : Value} {x : DataW H × List MemPlace} (h : DataW.trod enc Tryz.prog W 0 (fun _ => true) held fuel 55 [c0] = some x) : ∃ m : Nat, c0 = .int .u16 m ∧ m < 65536 := by
  obtain ⟨z, hz, _, hwf⟩ := DataW.trod_int (k := .u16) u55 h
  simp only [List.cons.injEq, and_true] at hz
  have hr : 0 ≤ z ∧ z < 65536 := by
    simp [Lit.wf, IntKind.min, IntKind.max, IntKind.signed, IntKind.bits] at hwf
    omega
  exact ⟨z.toNat, by rw [hz, Int.toNat_of_nonneg hr.1], by omega⟩
set_option maxRecDepth 100000 in
theorem open_term {fuel : Nat} {cs : List Value} {x : DataW H × List MemPlace} (h : DataW.trod enc Tryz.prog W 0 (fun _ => true) held fuel 68 cs = some x) (hw : Fits 68 x.1) :
    ∃ t : Tm, cs = [.bool t.g1, .slice t.a1 t.n1 t.c1, .bool t.g2, .slice t.a2 t.n2 t.c2, .int .u16 t.m0, .int .u16 t.m1, .int .u16 t.m2, .int .u16 t.m3] ∧ RdTm W t := by
  obtain ⟨xs, n, _, rfl, hcl, hlen, hf⟩ := DataW.trod_struct Tryz.underlying68 h
  rw [cellsOf68] at hcl
  match cs, hcl, xs, hlen with
  | [c0, c1, c2, c3, c4, c5, c6, c7], _, [y0, y1], _ =>
    have h0 := hf 0 _ rfl
    have h1 := hf 1 _ rfl
    have f0 := fits_part Tryz.underlying68 hw (j := 0) (d := y0.1) rfl rfl
    replace h0 : DataW.trod enc Tryz.prog W 0 (fun _ => true) held n 64 [c0, c1, c2, c3] = some y0 := h0
    replace h1 : DataW.trod enc Tryz.prog W 0 (fun _ => true) held n 66 [c4, c5, c6, c7] = some y1 := h1
    obtain ⟨ys, n', _, rfl, _, hylen, hg⟩ := DataW.trod_struct Tryz.underlying64 h0
    match ys, hylen with
    | [z0, z1], _ =>
      have g0 := hg 0 _ rfl
      have g1 := hg 1 _ rfl
      have e0 := fits_part Tryz.underlying64 f0 (j := 0) (d := z0.1) rfl rfl
      have e1 := fits_part Tryz.underlying64 f0 (j := 1) (d := z1.1) rfl rfl
      replace g0 : DataW.trod enc Tryz.prog W 0 (fun _ => true) held n' 59 [c0, c1] = some z0 := g0
      replace g1 : DataW.trod enc Tryz.prog W 0 (fun _ => true) held n' 59 [c2, c3] = some z1 := g1
      obtain ⟨q1, a1, n1, k1, d1, rfl, rfl, r1⟩ := open_num g0 e0
      obtain ⟨q2, a2, n2, k2, d2, rfl, rfl, r2⟩ := open_num g1 e1
      obtain ⟨u0, u1, u2, u3, n3, _, t0, t1, t2, t3⟩ := trod_array4 Tryz.underlying66 c55 h1
      obtain ⟨m0, rfl, b0⟩ := open_u16 t0
      obtain ⟨m1, rfl, b1⟩ := open_u16 t1
      obtain ⟨m2, rfl, b2⟩ := open_u16 t2
      obtain ⟨m3, rfl, b3⟩ := open_u16 t3
      exact ⟨⟨q1, a1, n1, k1, d1, q2, a2, n2, k2, d2, m0, m1, m2, m3⟩, rfl, r1, r2, b0, b1, b2, b3⟩
instance : Inhabited Tm := ⟨⟨false, none, 0, 0, [], false, none, 0, 0, [], 0, 0, 0, 0⟩⟩
set_option maxRecDepth 100000 in
theorem open_poly {fuel : Nat} {cs : List Value} {x : DataW H × List MemPlace} (h : DataW.trod enc Tryz.prog W 0 (fun _ => true) held fuel 23 cs = some x) (hw : Fits 23 x.1) :
    ∃ a n c p, cs = [.slice a n c] ∧ RdP W a n c p := by
  rcases open_slice Tryz.underlying23 h with ⟨rfl, _⟩ | ⟨a, len, cap, m, n, D, Pl, rfl, _, hl, hm, hmm, rfl, hx⟩
  · exact ⟨none, 0, 0, fun _ => ⟨false, none, 0, 0, [], false, none, 0, 0, [], 0, 0, 0, 0⟩, rfl, Nat.le_refl _, by omega, by omega, fun i hi => absurd hi (Nat.not_lt_zero _), .inl rfl⟩
  · simp only [if_true] at hmm
    have hsz := fits_size Tryz.underlying23 hw
    rw [bytesOf68] at hsz
    simp only [List.length_map, List.length_range] at hsz
    rw [cellsOf68] at hx
    have key : ∀ i, i < len → ∃ t : Tm, RdTm W t ∧ ∀ j u, [Value.bool t.g1, .slice t.a1 t.n1 t.c1, .bool t.g2, .slice t.a2 t.n2 t.c2, .int .u16 t.m0, .int .u16 t.m1, .int .u16 t.m2, .int .u16 t.m3][j]? = some u → W.cell? ((a.add (i * 8)).add j) = some u := fun i hi => by
      obtain ⟨cs', hc, ht⟩ := hx i (by omega)
      have hd : Fits 68 (D i) := fits_elem Tryz.underlying23 hw (List.mem_map.2 ⟨i, List.mem_range.2 hi, rfl⟩)
      obtain ⟨t, rfl, hr⟩ := open_term ht hd
      obtain ⟨_, _, hat⟩ := World.cells?_some hc
      refine ⟨t, hr, fun j u hu => ?_⟩
      have hj : j < 8 := by
        rcases Nat.lt_or_ge j 8 with h1 | h1
        · exact h1
        · rw [List.getElem?_eq_none (by simpa using h1)] at hu; cases hu
      rw [hat j hj]; exact hu
    obtain ⟨p, hp⟩ := choose_lt (α := Tm) (p := fun i t => RdTm W t ∧ ∀ j u, [Value.bool t.g1, .slice t.a1 t.n1 t.c1, .bool t.g2, .slice t.a2 t.n2 t.c2, .int .u16 t.m0, .int .u16 t.m1, .int .u16 t.m2, .int .u16 t.m3][j]? = some u → W.cell? ((a.add (i * 8)).add j) = some u) key
    refine ⟨some a, len, cap, p, rfl, hl, by omega, by unfold maxLen at hm; omega, fun i hi => (hp i hi).1, ?_⟩
    rcases Nat.eq_zero_or_pos len with h0 | h0
    · exact .inl h0
    · right
      have h1 := (hp 0 h0).2 0 _ rfl
      obtain ⟨b, o, rfl⟩ := addr_none (a := a) h1
      refine ⟨b, o, rfl, fun i hi => ?_⟩
      have h2 := (hp i hi).2
      have hadd : ∀ j, ((⟨b, o, none⟩ : Addr).add (i * 8)).add j = ⟨b, o + i * 8 + j, none⟩ := fun j => by
        unfold Addr.add; split <;> split <;> simp_all
      simp only [hadd] at h2
      exact ⟨h2 0 _ rfl, h2 1 _ rfl, h2 2 _ rfl, h2 3 _ rfl, h2 4 _ rfl, h2 5 _ rfl, h2 6 _ rfl, h2 7 _ rfl⟩
end Go.Proofs.YtdamegaedmckbaaGreatDoor
end
