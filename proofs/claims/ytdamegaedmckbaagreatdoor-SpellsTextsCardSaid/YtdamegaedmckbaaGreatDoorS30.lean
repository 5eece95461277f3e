/- The document's answer, layer 1: more, less. The document's answer, layer 1: less. -/
import Derived.Test.YtdamegaedmckbaaGreatDoorS29
set_option linter.unusedSimpArgs false
set_option linter.unusedVariables false
section
set_option linter.unusedSimpArgs false
namespace Go.Proofs.YtdamegaedmckbaaGreatDoor
open Go.RowKit

/-- A list of parts in memory of its own, that comes to some amount. -/
def RetAmt (w : World) (v m : Nat) (e : Ending) (w' : World) : Prop :=
  ∃ a k c q, e = .returned (.slice a k c) ∧ RdL w' a k c q ∧ val q = v ∧ (∀ x ∈ q, x < 1000000000) ∧ k ≤ m ∧ Fresh w.heap.size w' a c ∧ Below w.heap.size w w'

theorem getD_out {d : List Nat} {i : Nat} (h : d.length ≤ i) : d.getD i 0 = 0 := by simp [List.getD, List.getElem?_eq_none h]
theorem getD_lt {d : List Nat} (h : ∀ x ∈ d, x < 1000000000) (i : Nat) : d.getD i 0 < 1000000000 := by
  by_cases hi : i < d.length
  · simp only [List.getD, List.getElem?_eq_getElem hi, Option.getD_some]; exact h _ (List.getElem_mem hi)
  · rw [getD_out (by omega)]; omega

set_option maxHeartbeats 2000000 in
theorem more_c (w : World) (a : Option Addr) (n c : Nat) (d : List Nat) (a' : Option Addr) (n' c' : Nat) (d' : List Nat) (hd : RdL w a n c d) (hd' : RdL w a' n' c' d') (hlt : ∀ x ∈ d, x < 1000000000) (hlt' : ∀ x ∈ d', x < 1000000000) (hn : n < 35184372088832) (hn' : n' < 35184372088832) :
    Calls Tryz.prog 249 #[.slice a n c, .slice a' n' c'] w (RetAmt w (val d + val d') (max n n' + 1)) := by
  obtain ⟨i0, hi, hz0, hz1, hz2⟩ := info_parts info112
  have hl := Lib.hid hd.len
  have hl' := Lib.hid hd'.len
  have HB := Below.refl w.heap.size w
  have HLT := Lib.hid hlt
  have HLT' := Lib.hid hlt'
  clear hlt hlt'
  obtain ⟨m, hm⟩ : ∃ m, m = max n n' := ⟨_, rfl⟩
  have hm1 : n ≤ m := by omega
  have hm2 : n' ≤ m := by omega
  have hm3 : m < 35184372088832 := by omega
  have HM := Lib.hid hm
  clear hm
  go_enter Tryz.func249, Tryz.ntmps249
  go_wp2_with fail
  go_loopw [5, 6, 7] (fun v5 v6 v7 wr => ∃ (k v : Nat) (l : List Nat), k ≤ m + 1 ∧ v7 = .int .i64 k ∧ v6 = .int .u32 v ∧ v ≤ 1 ∧ (m < k → v = 0) ∧ Hid (l.length = k) ∧ Hid (val l + 1000000000 ^ k * v = val (d.take k) + val (d'.take k)) ∧ Hid (∀ x ∈ l, x < 1000000000) ∧ wr.ownsRow w.heap.size 112 1 v5 k (vals l) ∧ Below w.heap.size w wr) (fun _ _ v7 _ => m + 1 - (intOf v7).toNat)
  case atStart => exact ⟨0, 0, [], by omega, rfl, rfl, by omega, fun _ => rfl, Lib.hid rfl, Lib.hid (by simp [val]), Lib.hid (fun x hx => (by cases hx)), World.ownsRow_nil _ _ _ _, HB⟩
  case round =>
    obtain ⟨k, v, l, hk, rfl, rfl, hv, hvz, HLL, HS, HQ, hown, HBr⟩ := hrel
    have HBz := HBr.size
    have HVZ := Lib.hid hvz
    clear hvz HB
    have hx0 := getD_lt HLT.out k
    have hy0 := getD_lt HLT'.out k
    have hx1 : lim d k = ((d.getD k 0 : Nat) : Int) := rfl
    have hy1 : lim d' k = ((d'.getD k 0 : Nat) : Int) := rfl
    have hxo : n ≤ k → d.getD k 0 = 0 := fun h => getD_out (by have := hl.out; omega)
    have hyo : n' ≤ k → d'.getD k 0 = 0 := fun h => getD_out (by have := hl'.out; omega)
    have HST := Lib.hid (fun t ht => more_step HLL.out HS.out (d := d) (d' := d') t ht)
    generalize d.getD k 0 = x at *
    generalize d'.getD k 0 = y at *
    have HXO := Lib.hid hxo
    have HYO := Lib.hid hyo
    clear hxo hyo
    have HX1 := Lib.hid hx1
    have HY1 := Lib.hid hy1
    clear hx1 hy1
    by_cases h1 : k < n
    · obtain ⟨b, o, rfl, c1⟩ := (hd.keep HBr).at' h1
      rw [HX1.out] at c1
      by_cases h2 : k < n'
      · obtain ⟨b', o', rfl, c2⟩ := (hd'.keep HBr).at' h2
        rw [HY1.out] at c2
        go_wp2_with (at_builtin; refine wpList_append_own _ rfl _ _ 57 rfl w.heap.size 112 i0 (.int .u32 0) 1 4 Tryz.underlying57 hi hz0 hz1 hz2 rfl (by decide) _ _ _ rfl (hown.alloc _) ⟨wr.heap.size, 0, none⟩ 1 1 [.int .u32 (((v : Int) + x + y) % 1000000000)] rfl rfl (cell_one_new _ _ _) (by simp [Value.oneCell']) (by unfold maxLen; omega) (by omega) (by go_size) ?_; intro v' w2 hown2 hgrow2 _)
        have hb2 : Below w.heap.size wr w2 := ((Below.refl w.heap.size wr).alloc (by omega) _).grown hgrow2 (by go_size) (fun k hk => (hown.lt k hk).1)
        go_roundw
        case rel =>
          have hs := HST.out (v + x + y) (by omega)
          refine ⟨k + 1, (v + x + y) / 1000000000, l ++ [(v + x + y) % 1000000000], by omega, by go_num, by simp, by omega, fun h => by omega, Lib.hid (by simp [HLL.out]), Lib.hid hs, Lib.hid (fun z hz => ?_), ?_, HBr.trans hb2⟩
          · rcases List.mem_append.1 hz with h | h
            · exact HQ.out z h
            · rw [List.mem_singleton] at h; omega
          · rw [vals_append]; exact hown2
        case measure => simp [intOf]; omega
      · have h2' : n' ≤ k := by omega
        obtain rfl := HYO.out (by omega)
        go_wp2_with (at_builtin; refine wpList_append_own _ rfl _ _ 57 rfl w.heap.size 112 i0 (.int .u32 0) 1 4 Tryz.underlying57 hi hz0 hz1 hz2 rfl (by decide) _ _ _ rfl (hown.alloc _) ⟨wr.heap.size, 0, none⟩ 1 1 [.int .u32 (((v : Int) + x) % 1000000000)] rfl rfl (cell_one_new _ _ _) (by simp [Value.oneCell']) (by unfold maxLen; omega) (by omega) (by go_size) ?_; intro v' w2 hown2 hgrow2 _)
        have hb2 : Below w.heap.size wr w2 := ((Below.refl w.heap.size wr).alloc (by omega) _).grown hgrow2 (by go_size) (fun k hk => (hown.lt k hk).1)
        go_roundw
        case rel =>
          have hs := HST.out (v + x) (by omega)
          refine ⟨k + 1, (v + x) / 1000000000, l ++ [(v + x) % 1000000000], by omega, by go_num, by simp, by omega, fun h => by omega, Lib.hid (by simp [HLL.out]), Lib.hid hs, Lib.hid (fun z hz => ?_), ?_, HBr.trans hb2⟩
          · rcases List.mem_append.1 hz with h | h
            · exact HQ.out z h
            · rw [List.mem_singleton] at h; omega
          · rw [vals_append]; exact hown2
        case measure => simp [intOf]; omega
    · have h1' : n ≤ k := by omega
      by_cases h2 : k < n'
      · obtain ⟨b', o', rfl, c2⟩ := (hd'.keep HBr).at' h2
        rw [HY1.out] at c2
        obtain rfl := HXO.out (by omega)
        go_wp2_with (at_builtin; refine wpList_append_own _ rfl _ _ 57 rfl w.heap.size 112 i0 (.int .u32 0) 1 4 Tryz.underlying57 hi hz0 hz1 hz2 rfl (by decide) _ _ _ rfl (hown.alloc _) ⟨wr.heap.size, 0, none⟩ 1 1 [.int .u32 (((v : Int) + y) % 1000000000)] rfl rfl (cell_one_new _ _ _) (by simp [Value.oneCell']) (by unfold maxLen; omega) (by omega) (by go_size) ?_; intro v' w2 hown2 hgrow2 _)
        have hb2 : Below w.heap.size wr w2 := ((Below.refl w.heap.size wr).alloc (by omega) _).grown hgrow2 (by go_size) (fun k hk => (hown.lt k hk).1)
        go_roundw
        case rel =>
          have hs := HST.out (v + y) (by omega)
          refine ⟨k + 1, (v + y) / 1000000000, l ++ [(v + y) % 1000000000], by omega, by go_num, by simp, by omega, fun h => by omega, Lib.hid (by simp [HLL.out]), Lib.hid hs, Lib.hid (fun z hz => ?_), ?_, HBr.trans hb2⟩
          · rcases List.mem_append.1 hz with h | h
            · exact HQ.out z h
            · rw [List.mem_singleton] at h; omega
          · rw [vals_append]; exact hown2
        case measure => simp [intOf]; omega
      · have h2' : n' ≤ k := by omega
        by_cases h3 : 0 < v
        · have h4 : k ≤ m := by
            rcases Nat.lt_or_ge m k with h | h
            · have := HVZ.out h; omega
            · exact h
          obtain rfl := HXO.out (by omega)
          obtain rfl := HYO.out (by omega)
          go_wp2_with (at_builtin; refine wpList_append_own _ rfl _ _ 57 rfl w.heap.size 112 i0 (.int .u32 0) 1 4 Tryz.underlying57 hi hz0 hz1 hz2 rfl (by decide) _ _ _ rfl (hown.alloc _) ⟨wr.heap.size, 0, none⟩ 1 1 [.int .u32 (((v : Int)) % 1000000000)] rfl rfl (cell_one_new _ _ _) (by simp [Value.oneCell']) (by unfold maxLen; omega) (by omega) (by go_size) ?_; intro v' w2 hown2 hgrow2 _)
          have hb2 : Below w.heap.size wr w2 := ((Below.refl w.heap.size wr).alloc (by omega) _).grown hgrow2 (by go_size) (fun k hk => (hown.lt k hk).1)
          go_roundw
          case rel =>
            have hs := HST.out (v) (by omega)
            refine ⟨k + 1, (v) / 1000000000, l ++ [(v) % 1000000000], by omega, by go_num, by simp, by omega, fun h => by omega, Lib.hid (by simp [HLL.out]), Lib.hid hs, Lib.hid (fun z hz => ?_), ?_, HBr.trans hb2⟩
            · rcases List.mem_append.1 hz with h | h
              · exact HQ.out z h
              · rw [List.mem_singleton] at h; omega
            · rw [vals_append]; exact hown2
          case measure => simp [intOf]; omega
        · obtain rfl : v = 0 := by omega
          obtain ⟨a2, c2, rfl, hr, hfr⟩ := owns_list hown (by omega) (fun i => lim_small_of_lt (fun x hx => by have := HQ.out x hx; omega) i)
          go_wp2_with fail
          go_ret
          refine ⟨a2, k, c2, l, rfl, hr, ?_, HQ.out, by rw [← HM.out]; exact hk, hfr, HBr⟩
          have := HS.out
          rw [List.take_of_length_le (by have := hl.out; omega), List.take_of_length_le (by have := hl'.out; omega), Nat.mul_zero, Nat.add_zero] at this
          exact this
end Go.Proofs.YtdamegaedmckbaaGreatDoor
end
section
set_option linter.unusedSimpArgs false
namespace Go.Proofs.YtdamegaedmckbaaGreatDoor
open Go.RowKit

set_option maxRecDepth 100000 in
set_option maxHeartbeats 2000000 in
theorem less_c (w : World) (a : Option Addr) (n c : Nat) (d : List Nat) (a' : Option Addr) (n' c' : Nat) (d' : List Nat) (hd : RdL w a n c d) (hd' : RdL w a' n' c' d') (hlt : ∀ x ∈ d, x < 1000000000) (hlt' : ∀ x ∈ d', x < 1000000000) (hle : n' ≤ n) (hv : val d' ≤ val d) :
    Calls Tryz.prog 251 #[.slice a n c, .slice a' n' c'] w (RetAmt w (val d - val d') n) := by
  obtain ⟨i0, hi, hz0, hz1, hz2⟩ := info_parts info112
  have hl := Lib.hid hd.len
  have hl' := Lib.hid hd'.len
  have hn := hd.few
  have HB := Below.refl w.heap.size w
  have HLT := Lib.hid hlt
  have HLT' := Lib.hid hlt'
  have HV := Lib.hid hv
  clear hlt hlt' hv
  go_enter Tryz.func251, Tryz.ntmps251
  go_wp2_with fail
  go_loopw [5, 6, 7] (fun v5 v6 v7 wr => ∃ (k v : Nat) (l : List Nat), k ≤ n ∧ v7 = .int .i64 k ∧ v6 = .int .u32 v ∧ v ≤ 1 ∧ Hid (l.length = k) ∧ Hid (val l + val (d'.take k) = val (d.take k) + 1000000000 ^ k * v) ∧ Hid (∀ x ∈ l, x < 1000000000) ∧ wr.ownsRow w.heap.size 112 1 v5 k (vals l) ∧ Below w.heap.size w wr) (fun _ _ v7 _ => n - (intOf v7).toNat)
  case atStart => exact ⟨0, 0, [], by omega, rfl, rfl, by omega, Lib.hid rfl, Lib.hid (by simp [val]), Lib.hid (fun x hx => (by cases hx)), World.ownsRow_nil _ _ _ _, HB⟩
  case round =>
    obtain ⟨k, v, l, hk, rfl, rfl, hv, HLL, HS, HQ, hown, HBr⟩ := hrel
    have HBz := HBr.size
    clear HB
    have hx0 := getD_lt HLT.out k
    have hy0 := getD_lt HLT'.out k
    have HX1 := Lib.hid (show lim d k = ((d.getD k 0 : Nat) : Int) from rfl)
    have HY1 := Lib.hid (show lim d' k = ((d'.getD k 0 : Nat) : Int) from rfl)
    have HYO := Lib.hid (show n' ≤ k → d'.getD k 0 = 0 from fun h => getD_out (by have := hl'.out; omega))
    have HST := Lib.hid (fun X V hX => less_step (x := X) (v' := V) HLL.out HS.out (d := d) (d' := d') hX)
    generalize d.getD k 0 = x at *
    generalize d'.getD k 0 = y at *
    by_cases h1 : k < n
    · obtain ⟨b, o, rfl, c1⟩ := (hd.keep HBr).at' h1
      rw [HX1.out] at c1
      by_cases h2 : k < n'
      · obtain ⟨b', o', rfl, c2⟩ := (hd'.keep HBr).at' h2
        rw [HY1.out] at c2
        obtain ⟨t, ht⟩ : ∃ t : Nat, (t : Int) = (x : Int) + 1000000000 - v - y := ⟨((x : Int) + 1000000000 - v - y).toNat, by omega⟩
        have et : ((x : Int) + 1000000000 - v - y) % 1000000000 = ((t % 1000000000 : Nat) : Int) := by omega
        have eo : 1 - ((x : Int) + 1000000000 - v - y) / 1000000000 = ((1 - t / 1000000000 : Nat) : Int) := by omega
        have ET := Lib.hid et
        have EO := Lib.hid eo
        have HT := Lib.hid ht
        clear et eo ht
        go_wp2_with (at_builtin; refine wpList_append_own _ rfl _ _ 57 rfl w.heap.size 112 i0 (.int .u32 0) 1 4 Tryz.underlying57 hi hz0 hz1 hz2 rfl (by decide) _ _ _ rfl (hown.alloc _) ⟨wr.heap.size, 0, none⟩ 1 1 [.int .u32 (((x : Int) + 1000000000 - v - y) % 1000000000)] rfl rfl (cell_one_new _ _ _) (by simp [Value.oneCell']) (by unfold maxLen; omega) (by omega) (by go_size) ?_; intro v' w2 hown2 hgrow2 _)
        have hb2 : Below w.heap.size wr w2 := ((Below.refl w.heap.size wr).alloc (by omega) _).grown hgrow2 (by go_size) (fun k hk => (hown.lt k hk).1)
        go_roundw
        case rel =>
          have ht := HT.out
          have hs := HST.out (t % 1000000000) (1 - t / 1000000000) (by omega)
          rw [ET.out] at hown2
          refine ⟨k + 1, 1 - t / 1000000000, l ++ [t % 1000000000], by omega, by go_num, by rw [EO.out], by omega, Lib.hid (by simp [HLL.out]), Lib.hid hs, Lib.hid (fun z hz => ?_), ?_, HBr.trans hb2⟩
          · rcases List.mem_append.1 hz with h | h
            · exact HQ.out z h
            · rw [List.mem_singleton] at h; omega
          · rw [vals_append]; exact hown2
        case measure => simp [intOf]; omega
      · have h2' : n' ≤ k := by omega
        obtain rfl := HYO.out (by omega)
        obtain ⟨t, ht⟩ : ∃ t : Nat, (t : Int) = (x : Int) + 1000000000 - v := ⟨((x : Int) + 1000000000 - v).toNat, by omega⟩
        have et : ((x : Int) + 1000000000 - v) % 1000000000 = ((t % 1000000000 : Nat) : Int) := by omega
        have eo : 1 - ((x : Int) + 1000000000 - v) / 1000000000 = ((1 - t / 1000000000 : Nat) : Int) := by omega
        have ET := Lib.hid et
        have EO := Lib.hid eo
        have HT := Lib.hid ht
        clear et eo ht
        go_wp2_with (at_builtin; refine wpList_append_own _ rfl _ _ 57 rfl w.heap.size 112 i0 (.int .u32 0) 1 4 Tryz.underlying57 hi hz0 hz1 hz2 rfl (by decide) _ _ _ rfl (hown.alloc _) ⟨wr.heap.size, 0, none⟩ 1 1 [.int .u32 (((x : Int) + 1000000000 - v) % 1000000000)] rfl rfl (cell_one_new _ _ _) (by simp [Value.oneCell']) (by unfold maxLen; omega) (by omega) (by go_size) ?_; intro v' w2 hown2 hgrow2 _)
        have hb2 : Below w.heap.size wr w2 := ((Below.refl w.heap.size wr).alloc (by omega) _).grown hgrow2 (by go_size) (fun k hk => (hown.lt k hk).1)
        go_roundw
        case rel =>
          have ht := HT.out
          have hs := HST.out (t % 1000000000) (1 - t / 1000000000) (by omega)
          rw [ET.out] at hown2
          refine ⟨k + 1, 1 - t / 1000000000, l ++ [t % 1000000000], by omega, by go_num, by rw [EO.out], by omega, Lib.hid (by simp [HLL.out]), Lib.hid hs, Lib.hid (fun z hz => ?_), ?_, HBr.trans hb2⟩
          · rcases List.mem_append.1 hz with h | h
            · exact HQ.out z h
            · rw [List.mem_singleton] at h; omega
          · rw [vals_append]; exact hown2
        case measure => simp [intOf]; omega
    · obtain rfl : k = n := by omega
      obtain ⟨a2, c2, rfl, hr, hfr⟩ := owns_list hown (by omega) (fun i => lim_small_of_lt (fun x hx => by have := HQ.out x hx; omega) i)
      go_wp2_with fail
      go_ret
      refine ⟨a2, k, c2, l, rfl, hr, ?_, HQ.out, Nat.le_refl _, hfr, HBr⟩
      have := HS.out
      rw [List.take_of_length_le (show d'.length ≤ k by have := hl'.out; omega), List.take_of_length_le (show d.length ≤ k by have := hl.out; omega)] at this
      exact less_end HLL.out HQ.out this HV.out
end Go.Proofs.YtdamegaedmckbaaGreatDoor
end
