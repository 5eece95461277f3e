/- reckonerlaw01's twins: a thing in memory of its own, a spare mark behind each list. No condition. -/
import Derived.Test.YtdamegaedmckbaaGreatDoorS0
import Derived.Maps.AppendAt
import Derived.Deep.RegionWith
import Derived.Deep.RegionHeld3
import Derived.Deep.QuietTactic
import Derived.BigQuiet
set_option linter.unusedSimpArgs false
set_option linter.unusedVariables false
namespace Go.Proofs.YtdamegaedmckbaaGreatDoor
open Go.RowKit

theorem info112 : (Tryz.prog.info? 112).map (fun i => (i.zero, i.size, i.bytes)) = some (some (.int .u32 0), 1, 4) := by kernel_rfl

/-- Limbs as values. -/
def vals (d : List Nat) : List Value := d.map fun (z : Nat) => Value.int .u32 (z : Int)

theorem vals_length (d : List Nat) : (vals d).length = d.length := by simp [vals]
theorem vals_get (d : List Nat) (i : Nat) (h : i < d.length) : (vals d)[i]? = some (.int .u32 (lim d i)) := by
  simp [vals, lim, List.getElem?_eq_getElem h]
theorem vals_append (d e : List Nat) : vals (d ++ e) = vals d ++ vals e := by simp [vals]
theorem take_vals (d : List Nat) (k : Nat) (h : k < d.length) : vals (d.take (k + 1)) = vals (d.take k) ++ [.int .u32 (lim d k)] := by
  rw [List.take_succ_eq_append_getElem h, vals_append]
  simp [vals, lim, List.getElem?_eq_getElem h]

theorem lim_append_lt (d e : List Nat) (i : Nat) (h : i < d.length) : lim (d ++ e) i = lim d i := by simp [lim, List.getElem?_append_left h]
theorem lim_append_eq (d : List Nat) (z : Nat) : lim (d ++ [z]) d.length = z := by simp [lim]

theorem lim_small_append {d e : List Nat} (h1 : ∀ i, 0 ≤ lim d i ∧ lim d i < 4294967296) (h2 : ∀ i, 0 ≤ lim e i ∧ lim e i < 4294967296) (i : Nat) : 0 ≤ lim (d ++ e) i ∧ lim (d ++ e) i < 4294967296 := by
  by_cases h : i < d.length
  · rw [lim_append_lt d e i h]; exact h1 i
  · have : lim (d ++ e) i = lim e (i - d.length) := by simp [lim, List.getElem?_append_right (Nat.le_of_not_lt h)]
    rw [this]; exact h2 _

theorem lim_one (z : Nat) (hz : z < 4294967296) (i : Nat) : 0 ≤ lim [z] i ∧ lim [z] i < 4294967296 := by
  unfold lim
  match i with
  | 0 => simp; omega
  | i + 1 => simp

theorem rdl_of_owns {w : World} {base g n c : Nat} {d : List Nat} (h : w.ownsRow base 112 1 (.slice (some ⟨g, 0, none⟩) n c) n (vals d)) (hc : n ≤ 35184372088832) (hs : ∀ i, 0 ≤ lim d i ∧ lim d i < 4294967296) : RdL w (some ⟨g, 0, none⟩) n c d := by
  have hlen : d.length = n := by have := h.1; rw [vals_length] at this; omega
  have hcap : n ≤ c ∧ c ≤ 9223372036854775807 := by
    rcases h.2 with ⟨h', _⟩ | ⟨g', cap', cur, h', _, _, hnc, hm, _⟩
    · simp at h'
    · simp only [Value.slice.injEq] at h'; unfold maxLen at hm; omega
  refine ⟨hlen, hcap.1, hc, hcap.2, hs, .inr ⟨g, 0, rfl, fun i hi => ?_⟩⟩
  rw [Nat.zero_add, h.cellAt i (by omega), vals_get d i (by omega)]

/-- A list of limbs read with a spare mark behind it. -/
def RetTwin (w : World) (n : Nat) (d : List Nat) (e : Ending) (w' : World) : Prop :=
  ∃ a c, e = .returned (.slice a n c) ∧ RdL w' a (n + 1) c (d ++ [77]) ∧ NewA w.heap.size a ∧ Below w.heap.size w w'

set_option maxHeartbeats 400000 in
theorem TwinLimbs_c (w : World) (a : Option Addr) (n c : Nat) (d : List Nat) (hd : RdL w a n c d) (hn : n < 35184372088832) :
    Calls Tryz.prog 231 #[.slice a n c] w (RetTwin w n d) := by
  obtain ⟨i0, hi, hz0, hz1, hz2⟩ := info_parts info112
  have hdl := hd.len
  go_enter Tryz.func231, Tryz.ntmps231
  go_wp2_with (refine wpList_make_own _ rfl _ _ 57 rfl w.heap.size 112 i0 (.int .u32 0) 1 Tryz.underlying57 hi hz0 hz1 .i64 .i64 _ (n + 1) rfl rfl (by omega) (by rw [hz2]; omega) (by unfold maxLen; omega) (Nat.le_refl _) ?_; intro w1 hown1 hgrow1)
  have HB : Below w.heap.size w w1 := (Below.refl _ _).grown hgrow1 (Nat.le_refl _) (fun k h => by cases h)
  clear hgrow1
  go_loopw [3, 4] (fun v3 v4 wr => ∃ k : Nat, k ≤ n ∧ v4 = .int .i64 k ∧ v3 = .slice (some ⟨w.heap.size, 0, none⟩) k (n + 1) ∧ wr.ownsRow w.heap.size 112 1 (.slice (some ⟨w.heap.size, 0, none⟩) k (n + 1)) k (vals (d.take k)) ∧ Below w.heap.size w wr) (fun _ v4 _ => n - (intOf v4).toNat)
  case atStart => exact ⟨0, Nat.zero_le _, rfl, rfl, by simpa [vals] using hown1, HB⟩
  case round =>
    obtain ⟨k, hk, rfl, rfl, hown, HB⟩ := hrel
    have HBz := HB.size
    clear hown1
    by_cases hlt : k < n
    · obtain ⟨b, o, rfl, _⟩ := hd.cell.resolve_left (by omega)
      have e0 := (hd.keep HB).at hlt
      go_wp2_with (at_builtin; refine wpList_append_fits _ rfl _ _ 57 rfl w.heap.size 112 i0 1 Tryz.underlying57 hi hz1 w.heap.size k (n + 1) (vals (d.take k)) rfl (hown.alloc _) ⟨wr.heap.size, 0, none⟩ 1 1 [.int .u32 (lim d k)] rfl rfl (cell_one_new _ _ _) (by simp [Value.oneCell']) (by omega) ?_; intro w2 hown2 hgrow2)
      go_roundw
      case rel =>
        refine ⟨k + 1, by omega, by go_num, rfl, ?_, ?_⟩
        · rw [take_vals d k (by omega)]; exact hown2
        · exact (HB.alloc (by omega) _).grown hgrow2 (by simp; omega) (fun j h => by cases h; exact Nat.le_refl _)
      case measure => simp [intOf]; omega
    · have hkn : n ≤ k := by omega
      obtain rfl : k = n := by omega
      have hown' : wr.ownsRow w.heap.size 112 1 (.slice (some ⟨w.heap.size, 0, none⟩) k (k + 1)) k (vals d) := by
        have := hown; rwa [List.take_of_length_le (by omega)] at this
      clear hown
      go_wp2_with (at_builtin; refine wpList_append_fits _ rfl _ _ 57 rfl w.heap.size 112 i0 1 Tryz.underlying57 hi hz1 w.heap.size k (k + 1) (vals d) rfl (hown'.alloc _) ⟨wr.heap.size, 0, none⟩ 1 1 [.int .u32 77] rfl rfl (cell_one_new _ _ _) (by simp [Value.oneCell']) (by omega) ?_; intro w2 hown2 hgrow2)
      go_ret
      refine ⟨_, _, rfl, rdl_of_owns (base := w.heap.size) ?_ (by omega) (lim_small_append hd.small (lim_one 77 (by omega))), (fun x hx => by cases hx; exact Nat.le_refl _), ?_⟩
      · rw [vals_append]; exact hown2
      · exact (HB.alloc (by omega) _).grown hgrow2 (by simp; omega) (fun j h => by cases h; exact Nat.le_refl _)

def RetTwinNum (w : World) (g : Bool) (n : Nat) (d : List Nat) (e : Ending) (w' : World) : Prop :=
  ∃ a c, e = .returned (.agg #[.bool g, .slice a n c]) ∧ RdL w' a (n + 1) c (d ++ [77]) ∧ NewA w.heap.size a ∧ Below w.heap.size w w'

set_option maxHeartbeats 400000 in
theorem TwinNum_c (w : World) (g : Bool) (a : Option Addr) (n c : Nat) (d : List Nat) (hd : RdL w a n c d) (hn : n < 35184372088832) :
    Calls Tryz.prog 183 #[.agg #[.bool g, .slice a n c]] w (RetTwinNum w g n d) := by
  have HB := Below.refl w.heap.size w
  go_enter Tryz.func183, Tryz.ntmps183
  go_wp2
  go_region_held3 (fun W => W.cell? ⟨w.heap.size, 0, none⟩ = some (.bool g) ∧ W.cell? ⟨w.heap.size, 1, none⟩ = some (.slice a n c)) (first | go_keep | (simp [go_sem, *]; done) | (simp [go_sem, World.cell?_alloc_past, *]; done)) (first | (go_at_call 231; refine (TwinLimbs_c _ _ _ _ d (hd.keep (by go_grown)) hn).mono ?_; rintro e w' ⟨a', c', rfl, hr, hna, hb⟩; obtain ⟨hc, hf⟩ := bcell hb; have hz := hb.size; replace HB : Below w.heap.size w w' := Below.trans (by go_grown) (hb.mono (by go_size))))
  go_wp2_with fail
  refine bodyPost_ret (v := .agg #[.bool g, .slice a' n c']) (by simp [results, Tryz.results183, go_sem, hc]) rfl ?_
  refine ⟨a', c', rfl, ?_, hna.mono (by go_size), by go_grown⟩
  exact (hr.setNew _ _ (hna.mono (by go_size))).setNew _ _ (hna.mono (by go_size))

def RetTwinFrac (w : World) (g : Bool) (n : Nat) (d : List Nat) (g' : Bool) (n' : Nat) (d' : List Nat) (e : Ending) (w' : World) : Prop :=
  ∃ a c a' c', e = .returned (.agg #[.bool g, .slice a n c, .bool g', .slice a' n' c']) ∧ RdL w' a (n + 1) c (d ++ [77]) ∧ RdL w' a' (n' + 1) c' (d' ++ [77]) ∧ NewA w.heap.size a ∧ NewA w.heap.size a' ∧ Below w.heap.size w w'

set_option maxHeartbeats 400000 in
theorem TwinFrac_c (w : World) (g : Bool) (a : Option Addr) (n c : Nat) (d : List Nat) (g' : Bool) (a' : Option Addr) (n' c' : Nat) (d' : List Nat) (hd : RdL w a n c d) (hn : n < 35184372088832) (hd' : RdL w a' n' c' d') (hn' : n' < 35184372088832) :
    Calls Tryz.prog 114 #[.agg #[.bool g, .slice a n c, .bool g', .slice a' n' c']] w (RetTwinFrac w g n d g' n' d') := by
  have HB := Below.refl w.heap.size w
  go_enter Tryz.func114, Tryz.ntmps114
  go_wp2
  go_region_held3 (fun W => W.cell? ⟨w.heap.size, 0, none⟩ = some (.bool g) ∧ W.cell? ⟨w.heap.size, 1, none⟩ = some (.slice a n c) ∧ W.cell? ⟨w.heap.size, 2, none⟩ = some (.bool g') ∧ W.cell? ⟨w.heap.size, 3, none⟩ = some (.slice a' n' c')) (first | ((try dsimp only); (repeat' apply And.intro); all_goals (first | (with_reducible assumption) | (go_keep; done) | (simp [*, go_sem]; done)))) (first
    | (go_at_call 183; (with_reducible refine (TwinNum_c _ g a n c d (hd.keep (by go_grown)) hn).mono ?_); rintro e w1 ⟨a1, c1, rfl, hr1, hna1, hb⟩; obtain ⟨hc, hf⟩ := bcell hb; have hz := hb.size; (try simp only [World.size_alloc, World.size_drew] at hz); replace HB : Below w.heap.size w w1 := Below.trans (by go_grown) (hb.mono (by go_size)); have s0_0 : w1.cell? ⟨w.heap.size, 0, none⟩ = some (.bool g) := (hc _ _ (by go_size)).trans (by first | assumption | (simp [go_sem]; done)); have s0_1 : w1.cell? ⟨w.heap.size, 1, none⟩ = some (.slice a n c) := (hc _ _ (by go_size)).trans (by first | assumption | (simp [go_sem]; done)); have s0_2 : w1.cell? ⟨w.heap.size, 2, none⟩ = some (.bool g') := (hc _ _ (by go_size)).trans (by first | assumption | (simp [go_sem]; done)); have s0_3 : w1.cell? ⟨w.heap.size, 3, none⟩ = some (.slice a' n' c') := (hc _ _ (by go_size)).trans (by first | assumption | (simp [go_sem]; done)); have s1_0 : w1.cell? ⟨w.heap.size + 1, 0, none⟩ = some (.bool false) := (hc _ _ (by go_size)).trans (by first | assumption | (simp [go_sem]; done)); have s1_1 : w1.cell? ⟨w.heap.size + 1, 1, none⟩ = some (.slice none 0 0) := (hc _ _ (by go_size)).trans (by first | assumption | (simp [go_sem]; done)); have s1_2 : w1.cell? ⟨w.heap.size + 1, 2, none⟩ = some (.bool false) := (hc _ _ (by go_size)).trans (by first | assumption | (simp [go_sem]; done)); have s1_3 : w1.cell? ⟨w.heap.size + 1, 3, none⟩ = some (.slice none 0 0) := (hc _ _ (by go_size)).trans (by first | assumption | (simp [go_sem]; done)); have f1_0 : w1.frozen? ⟨w.heap.size + 1, 0, none⟩ = false := (hf _ _ (by go_size)).trans (by first | assumption | (simp [go_sem]; done)); have f1_1 : w1.frozen? ⟨w.heap.size + 1, 1, none⟩ = false := (hf _ _ (by go_size)).trans (by first | assumption | (simp [go_sem]; done)); have f1_2 : w1.frozen? ⟨w.heap.size + 1, 2, none⟩ = false := (hf _ _ (by go_size)).trans (by first | assumption | (simp [go_sem]; done)); have f1_3 : w1.frozen? ⟨w.heap.size + 1, 3, none⟩ = false := (hf _ _ (by go_size)).trans (by first | assumption | (simp [go_sem]; done)))
    | (go_at_call 183; (with_reducible refine (TwinNum_c _ g' a' n' c' d' (hd'.keep (by go_grown)) hn').mono ?_); rintro e w1 ⟨a2, c2, rfl, hr2, hna2, hb⟩; obtain ⟨hc, hf⟩ := bcell hb; have hz := hb.size; (try simp only [World.size_alloc, World.size_drew] at hz); replace HB : Below w.heap.size w w1 := Below.trans (by go_grown) (hb.mono (by go_size)); have s0_0 : w1.cell? ⟨w.heap.size, 0, none⟩ = some (.bool g) := (hc _ _ (by go_size)).trans (by first | assumption | (simp [go_sem]; done)); have s0_1 : w1.cell? ⟨w.heap.size, 1, none⟩ = some (.slice a n c) := (hc _ _ (by go_size)).trans (by first | assumption | (simp [go_sem]; done)); have s0_2 : w1.cell? ⟨w.heap.size, 2, none⟩ = some (.bool g') := (hc _ _ (by go_size)).trans (by first | assumption | (simp [go_sem]; done)); have s0_3 : w1.cell? ⟨w.heap.size, 3, none⟩ = some (.slice a' n' c') := (hc _ _ (by go_size)).trans (by first | assumption | (simp [go_sem]; done)); have s1_0 : w1.cell? ⟨w.heap.size + 1, 0, none⟩ = some (.bool false) := (hc _ _ (by go_size)).trans (by first | assumption | (simp [go_sem]; done)); have s1_1 : w1.cell? ⟨w.heap.size + 1, 1, none⟩ = some (.slice none 0 0) := (hc _ _ (by go_size)).trans (by first | assumption | (simp [go_sem]; done)); have s1_2 : w1.cell? ⟨w.heap.size + 1, 2, none⟩ = some (.bool false) := (hc _ _ (by go_size)).trans (by first | assumption | (simp [go_sem]; done)); have s1_3 : w1.cell? ⟨w.heap.size + 1, 3, none⟩ = some (.slice none 0 0) := (hc _ _ (by go_size)).trans (by first | assumption | (simp [go_sem]; done)); have f1_0 : w1.frozen? ⟨w.heap.size + 1, 0, none⟩ = false := (hf _ _ (by go_size)).trans (by first | assumption | (simp [go_sem]; done)); have f1_1 : w1.frozen? ⟨w.heap.size + 1, 1, none⟩ = false := (hf _ _ (by go_size)).trans (by first | assumption | (simp [go_sem]; done)); have f1_2 : w1.frozen? ⟨w.heap.size + 1, 2, none⟩ = false := (hf _ _ (by go_size)).trans (by first | assumption | (simp [go_sem]; done)); have f1_3 : w1.frozen? ⟨w.heap.size + 1, 3, none⟩ = false := (hf _ _ (by go_size)).trans (by first | assumption | (simp [go_sem]; done))))
  go_wp2_with fail
  refine bodyPost_ret (v := .agg #[.bool g, .slice a1 n c1, .bool g', .slice a2 n' c2]) (by simp [results, Tryz.results114, go_sem, s1_0, s1_1, s1_2, s1_3]) rfl ?_
  have q1 : NewA (w.heap.size + 2) a1 := hna1.mono (by go_size)
  have q2 : NewA (w.heap.size + 2) a2 := hna2.mono (by omega)
  refine ⟨a1, c1, a2, c2, rfl, ?_, ?_, hna1.mono (by go_size), hna2.mono (by omega), by go_grown⟩
  · exact ((((hr1.keep hb).setNew _ _ q1).setNew _ _ q1).setNew _ _ q1).setNew _ _ q1
  · exact (((hr2.setNew _ _ q2).setNew _ _ q2).setNew _ _ q2).setNew _ _ q2

/-- Two terms are of one content: they may lie elsewhere. -/
structure Alike (s t : Tm) : Prop where
  g1 : s.g1 = t.g1
  n1 : s.n1 = t.n1
  d1 : s.d1 = t.d1
  g2 : s.g2 = t.g2
  n2 : s.n2 = t.n2
  d2 : s.d2 = t.d2
  m0 : s.m0 = t.m0
  m1 : s.m1 = t.m1
  m2 : s.m2 = t.m2
  m3 : s.m3 = t.m3

/-- A term's twin: a spare mark behind each list of limbs; all in new memory. -/
structure TwinTm (w : World) (B : Nat) (t s : Tm) : Prop where
  alike : Alike s t
  top : RdL w s.a1 (s.n1 + 1) s.c1 (s.d1 ++ [77])
  low : RdL w s.a2 (s.n2 + 1) s.c2 (s.d2 ++ [77])
  new1 : NewA B s.a1
  new2 : NewA B s.a2

def RetTwinTm (w : World) (t : Tm) (e : Ending) (w' : World) : Prop := ∃ s : Tm, e = .returned s.val ∧ TwinTm w' w.heap.size t s ∧ Below w.heap.size w w'

set_option maxHeartbeats 400000 in
theorem TwinTerm_c (w : World) (t : Tm) (ht : RdTm w t) (hn : t.n1 < 35184372088832) (hn' : t.n2 < 35184372088832) :
    Calls Tryz.prog 36 #[t.val] w (RetTwinTm w t) := by
  have HB := Below.refl w.heap.size w
  have hd := ht.top
  have hd' := ht.low
  go_enter Tryz.func36, Tryz.ntmps36
  go_wp2
  go_region_held3 (fun W => W.cell? ⟨w.heap.size, 0, none⟩ = some (.bool t.g1) ∧ W.cell? ⟨w.heap.size, 1, none⟩ = some (.slice t.a1 t.n1 t.c1) ∧ W.cell? ⟨w.heap.size, 2, none⟩ = some (.bool t.g2) ∧ W.cell? ⟨w.heap.size, 3, none⟩ = some (.slice t.a2 t.n2 t.c2) ∧ W.cell? ⟨w.heap.size, 4, none⟩ = some (.int .u16 t.m0) ∧ W.cell? ⟨w.heap.size, 5, none⟩ = some (.int .u16 t.m1) ∧ W.cell? ⟨w.heap.size, 6, none⟩ = some (.int .u16 t.m2) ∧ W.cell? ⟨w.heap.size, 7, none⟩ = some (.int .u16 t.m3)) (first | ((try dsimp only); (repeat' apply And.intro); all_goals (first | (with_reducible assumption) | (go_keep; done) | (simp [*, go_sem]; done)))) (first
    | (go_at_call 114; (with_reducible refine (TwinFrac_c _ t.g1 t.a1 t.n1 t.c1 t.d1 t.g2 t.a2 t.n2 t.c2 t.d2 (hd.keep (by go_grown)) hn (hd'.keep (by go_grown)) hn').mono ?_); rintro e w1 ⟨a1, c1, a2, c2, rfl, hr1, hr2, hna1, hna2, hb⟩; obtain ⟨hc, hf⟩ := bcell hb; have hz := hb.size; (try simp only [World.size_alloc, World.size_drew] at hz); replace HB : Below w.heap.size w w1 := Below.trans (by go_grown) (hb.mono (by go_size)); have s0_0 : w1.cell? ⟨w.heap.size, 0, none⟩ = some (.bool t.g1) := (hc _ _ (by go_size)).trans (by first | assumption | (simp [go_sem]; done)); have s0_1 : w1.cell? ⟨w.heap.size, 1, none⟩ = some (.slice t.a1 t.n1 t.c1) := (hc _ _ (by go_size)).trans (by first | assumption | (simp [go_sem]; done)); have s0_2 : w1.cell? ⟨w.heap.size, 2, none⟩ = some (.bool t.g2) := (hc _ _ (by go_size)).trans (by first | assumption | (simp [go_sem]; done)); have s0_3 : w1.cell? ⟨w.heap.size, 3, none⟩ = some (.slice t.a2 t.n2 t.c2) := (hc _ _ (by go_size)).trans (by first | assumption | (simp [go_sem]; done)); have s0_4 : w1.cell? ⟨w.heap.size, 4, none⟩ = some (.int .u16 t.m0) := (hc _ _ (by go_size)).trans (by first | assumption | (simp [go_sem]; done)); have s0_5 : w1.cell? ⟨w.heap.size, 5, none⟩ = some (.int .u16 t.m1) := (hc _ _ (by go_size)).trans (by first | assumption | (simp [go_sem]; done)); have s0_6 : w1.cell? ⟨w.heap.size, 6, none⟩ = some (.int .u16 t.m2) := (hc _ _ (by go_size)).trans (by first | assumption | (simp [go_sem]; done)); have s0_7 : w1.cell? ⟨w.heap.size, 7, none⟩ = some (.int .u16 t.m3) := (hc _ _ (by go_size)).trans (by first | assumption | (simp [go_sem]; done)); have s1_0 : w1.cell? ⟨w.heap.size + 1, 0, none⟩ = some (.bool false) := (hc _ _ (by go_size)).trans (by first | assumption | (simp [go_sem]; done)); have s1_1 : w1.cell? ⟨w.heap.size + 1, 1, none⟩ = some (.slice none 0 0) := (hc _ _ (by go_size)).trans (by first | assumption | (simp [go_sem]; done)); have s1_2 : w1.cell? ⟨w.heap.size + 1, 2, none⟩ = some (.bool false) := (hc _ _ (by go_size)).trans (by first | assumption | (simp [go_sem]; done)); have s1_3 : w1.cell? ⟨w.heap.size + 1, 3, none⟩ = some (.slice none 0 0) := (hc _ _ (by go_size)).trans (by first | assumption | (simp [go_sem]; done)); have s1_4 : w1.cell? ⟨w.heap.size + 1, 4, none⟩ = some (.int .u16 0) := (hc _ _ (by go_size)).trans (by first | assumption | (simp [go_sem]; done)); have s1_5 : w1.cell? ⟨w.heap.size + 1, 5, none⟩ = some (.int .u16 0) := (hc _ _ (by go_size)).trans (by first | assumption | (simp [go_sem]; done)); have s1_6 : w1.cell? ⟨w.heap.size + 1, 6, none⟩ = some (.int .u16 0) := (hc _ _ (by go_size)).trans (by first | assumption | (simp [go_sem]; done)); have s1_7 : w1.cell? ⟨w.heap.size + 1, 7, none⟩ = some (.int .u16 0) := (hc _ _ (by go_size)).trans (by first | assumption | (simp [go_sem]; done)); have f1_0 : w1.frozen? ⟨w.heap.size + 1, 0, none⟩ = false := (hf _ _ (by go_size)).trans (by first | assumption | (simp [go_sem]; done)); have f1_1 : w1.frozen? ⟨w.heap.size + 1, 1, none⟩ = false := (hf _ _ (by go_size)).trans (by first | assumption | (simp [go_sem]; done)); have f1_2 : w1.frozen? ⟨w.heap.size + 1, 2, none⟩ = false := (hf _ _ (by go_size)).trans (by first | assumption | (simp [go_sem]; done)); have f1_3 : w1.frozen? ⟨w.heap.size + 1, 3, none⟩ = false := (hf _ _ (by go_size)).trans (by first | assumption | (simp [go_sem]; done)); have f1_4 : w1.frozen? ⟨w.heap.size + 1, 4, none⟩ = false := (hf _ _ (by go_size)).trans (by first | assumption | (simp [go_sem]; done)); have f1_5 : w1.frozen? ⟨w.heap.size + 1, 5, none⟩ = false := (hf _ _ (by go_size)).trans (by first | assumption | (simp [go_sem]; done)); have f1_6 : w1.frozen? ⟨w.heap.size + 1, 6, none⟩ = false := (hf _ _ (by go_size)).trans (by first | assumption | (simp [go_sem]; done)); have f1_7 : w1.frozen? ⟨w.heap.size + 1, 7, none⟩ = false := (hf _ _ (by go_size)).trans (by first | assumption | (simp [go_sem]; done))))
  go_wp2_with fail
  refine bodyPost_ret (v := .agg #[.bool t.g1, .slice a1 t.n1 c1, .bool t.g2, .slice a2 t.n2 c2, .int .u16 t.m0, .int .u16 t.m1, .int .u16 t.m2, .int .u16 t.m3]) (by simp [results, Tryz.results36, go_sem, s1_0, s1_1, s1_2, s1_3, s1_4, s1_5, s1_6, s1_7]) rfl ?_
  have q1 : NewA (w.heap.size + 2) a1 := hna1.mono (by go_size)
  have q2 : NewA (w.heap.size + 2) a2 := hna2.mono (by go_size)
  refine ⟨{ t with a1 := a1, c1 := c1, a2 := a2, c2 := c2 }, rfl, ⟨⟨rfl, rfl, rfl, rfl, rfl, rfl, rfl, rfl, rfl, rfl⟩, ?_, ?_, hna1.mono (by go_size), hna2.mono (by go_size)⟩, by go_grown⟩
  · exact (((((((hr1.setNew _ _ q1).setNew _ _ q1).setNew _ _ q1).setNew _ _ q1).setNew _ _ q1).setNew _ _ q1).setNew _ _ q1).setNew _ _ q1
  · exact (((((((hr2.setNew _ _ q2).setNew _ _ q2).setNew _ _ q2).setNew _ _ q2).setNew _ _ q2).setNew _ _ q2).setNew _ _ q2).setNew _ _ q2

theorem info68 : (Tryz.prog.info? 68).map (fun i => (i.zero, i.size, i.bytes)) = some (some (.agg #[.bool false, .slice none 0 0, .bool false, .slice none 0 0, .int .u16 0, .int .u16 0, .int .u16 0, .int .u16 0]), 8, 72) := by kernel_rfl

/-- A term's eight cells. -/
def Tm.cells (t : Tm) : List Value := [.bool t.g1, .slice t.a1 t.n1 t.c1, .bool t.g2, .slice t.a2 t.n2 t.c2, .int .u16 t.m0, .int .u16 t.m1, .int .u16 t.m2, .int .u16 t.m3]

/-- The cells of the first k terms. -/
def tvals (s : Nat → Tm) : Nat → List Value
  | 0 => []
  | k + 1 => tvals s k ++ (s k).cells

theorem tvals_length (s : Nat → Tm) (k : Nat) : (tvals s k).length = k * 8 := by
  induction k with
  | zero => rfl
  | succ k ih => simp [tvals, Tm.cells, ih]; omega

theorem tvals_congr {s s' : Nat → Tm} {k : Nat} (h : ∀ j, j < k → s j = s' j) : tvals s k = tvals s' k := by
  induction k with
  | zero => rfl
  | succ k ih => rw [tvals, tvals, ih (fun j hj => h j (by omega)), h k (by omega)]

theorem tvals_get (s : Nat → Tm) (k j i : Nat) (hj : j < k) (hi : i < 8) : (tvals s k)[j * 8 + i]? = (s j).cells[i]? := by
  induction k with
  | zero => omega
  | succ k ih =>
    rw [tvals]
    have hl := tvals_length s k
    by_cases h : j < k
    · rw [List.getElem?_append_left (by omega)]; exact ih h
    · obtain rfl : j = k := by omega
      rw [List.getElem?_append_right (by omega), hl]
      congr 1
      omega

theorem tmAt_of_owns {w : World} {base g c k : Nat} {s : Nat → Tm} (h : w.ownsRow base 68 8 (.slice (some ⟨g, 0, none⟩) k c) k (tvals s k)) {j : Nat} (hj : j < k) : TmAt w g (0 + j * 8) (s j) := by
  have key : ∀ i, i < 8 → w.cell? ⟨g, 0 + j * 8 + i, none⟩ = (s j).cells[i]? := fun i hi => by
    rw [Nat.zero_add, h.cellAt (j * 8 + i) (by omega), tvals_get s k j i hj hi]
  exact ⟨key 0 (by omega), key 1 (by omega), key 2 (by omega), key 3 (by omega), key 4 (by omega), key 5 (by omega), key 6 (by omega), key 7 (by omega)⟩

theorem cells_new (w : World) (xs : List Value) (t : TypeId) : ∀ j u, xs[j]? = some u → (w.alloc (.cells xs.toArray t)).cell? ((⟨w.heap.size, 0, none⟩ : Addr).add j) = some u := by
  intro j u hj
  have hadd : (⟨w.heap.size, 0, none⟩ : Addr).add j = ⟨w.heap.size, j, none⟩ := by unfold Addr.add; split <;> simp_all
  rw [hadd, cell_of_row _ w.heap.size j xs.toArray t (0, 0) (heap_alloc_new w _)]
  simpa using hj

theorem ownsRow_keep {w w' : World} {base : Nat} {e : TypeId} {size : Nat} {v : Value} {n : Nat} {xs : List Value} (h : w.ownsRow base e size v n xs) (hb : Below w.heap.size w w') : w'.ownsRow base e size v n xs :=
  h.kept (row := none) ⟨hb.os, hb.tape, hb.output, hb.size, fun k hk _ => hb.block k hk⟩ (by cases v.ownBlock <;> simp)

theorem RdL.grown {w w' : World} {g : Nat} {a : Option Addr} {n c : Nat} {d : List Nat} (h : RdL w a n c d) (hg : w.grownBy w' (some g)) (hn : NewA (g + 1) a) : RdL w' a n c d := by
  refine ⟨h.len, h.cap, h.few, h.top, h.small, ?_⟩
  rcases h.cell with h0 | ⟨b, o, ha, hc⟩
  · exact .inl h0
  · refine .inr ⟨b, o, ha, fun i hi => hg.cell (hc i hi) ?_⟩
    have := hn _ ha
    simp at this ⊢
    omega

theorem TwinTm.keep {w w' : World} {B : Nat} {t s : Tm} (h : TwinTm w B t s) (hb : Below w.heap.size w w') : TwinTm w' B t s := ⟨h.alike, h.top.keep hb, h.low.keep hb, h.new1, h.new2⟩
theorem TwinTm.mono {w : World} {B B' : Nat} {t s : Tm} (h : TwinTm w B t s) (hB : B' ≤ B) : TwinTm w B' t s := ⟨h.alike, h.top, h.low, h.new1.mono hB, h.new2.mono hB⟩
theorem TwinTm.grown {w w' : World} {g : Nat} {t s : Tm} (h : TwinTm w (g + 1) t s) (hg : w.grownBy w' (some g)) : TwinTm w' (g + 1) t s := ⟨h.alike, h.top.grown hg h.new1, h.low.grown hg h.new2, h.new1, h.new2⟩

/-- The mark behind a twin's terms. -/
def mark : Tm := ⟨false, none, 0, 0, [], false, none, 0, 0, [], 77, 77, 77, 0⟩

/-- A sum's twin, with its spare mark. -/
def TwinP (w : World) (B : Nat) (a : Option Addr) (n c : Nat) (p s : Nat → Tm) : Prop :=
  ∃ b, a = some ⟨b, 0, none⟩ ∧ B ≤ b ∧ n < c ∧ c ≤ 35184372088832 ∧ (∀ j, j < n → TmAt w b (0 + j * 8) (s j) ∧ TwinTm w B (p j) (s j)) ∧ TmAt w b (0 + n * 8) mark

def RetTwinP (w : World) (n : Nat) (p : Nat → Tm) (e : Ending) (w' : World) : Prop := ∃ a c s, e = .returned (.slice a n c) ∧ TwinP w' w.heap.size a n c p s ∧ Below w.heap.size w w'

def FewTm (n : Nat) (p : Nat → Tm) : Prop := ∀ j, j < n → (p j).n1 < 35184372088832 ∧ (p j).n2 < 35184372088832

set_option maxHeartbeats 1000000 in
theorem TwinPoly_c (w : World) (a : Option Addr) (n c : Nat) (p : Nat → Tm) (hp : RdP w a n c p) (hn : n ≤ 1000000) (hfew : FewTm n p) :
    Calls Tryz.prog 13 #[.slice a n c] w (RetTwinP w n p) := by
  obtain ⟨i0, hi, hz0, hz1, hz2⟩ := info_parts info68
  go_enter Tryz.func13, Tryz.ntmps13
  go_wp2_with (refine wpList_make_own _ rfl _ _ 22 rfl w.heap.size 68 i0 (.agg #[.bool false, .slice none 0 0, .bool false, .slice none 0 0, .int .u16 0, .int .u16 0, .int .u16 0, .int .u16 0]) 8 Tryz.underlying22 hi hz0 hz1 .i64 .i64 _ (n + 1) rfl rfl (by omega) (by rw [hz2]; omega) (by unfold maxLen; omega) (Nat.le_refl _) ?_; intro w1 hown1 hgrow1)
  have HB : Below w.heap.size w w1 := (Below.refl _ _).grown hgrow1 (Nat.le_refl _) (fun k h => by cases h)
  have hlt1 := (hown1.lt w.heap.size rfl).2
  clear hgrow1
  go_loopw [3, 4] (fun v3 v4 wr => ∃ (k : Nat) (s : Nat → Tm), k ≤ n ∧ v4 = .int .i64 k ∧ v3 = .slice (some ⟨w.heap.size, 0, none⟩) k (n + 1) ∧ wr.ownsRow w.heap.size 68 8 (.slice (some ⟨w.heap.size, 0, none⟩) k (n + 1)) k (tvals s k) ∧ (∀ j, j < k → TwinTm wr (w.heap.size + 1) (p j) (s j)) ∧ Below w.heap.size w wr) (fun _ v4 _ => n - (intOf v4).toNat)
  case atStart => exact ⟨0, fun _ => mark, Nat.zero_le _, rfl, rfl, by simpa [tvals] using hown1, fun j hj => absurd hj (Nat.not_lt_zero _), HB⟩
  case round =>
    obtain ⟨k, s, hk, rfl, rfl, hown, hall, HB⟩ := hrel
    have HBz := HB.size
    have hltr := (hown.lt w.heap.size rfl).2
    clear hown1 hlt1
    have HA := Lib.hid hall
    clear hall
    by_cases hlt : k < n
    · obtain ⟨b, o, rfl, _⟩ := hp.cell.resolve_left (by omega)
      obtain ⟨e0, e1, e2, e3, e4, e5, e6, e7⟩ := (hp.keep HB).at hlt
      have htk := ((hp.keep HB).tm k hlt)
      have hf1 := hfew k hlt
      go_wp2_with fail
      refine (TwinTerm_c _ (p k) htk hf1.1 hf1.2).mono ?_
      rintro e w2 ⟨tk, rfl, htw, hb⟩
      have hb2 := hb.size
      have hown2 := ownsRow_keep hown hb
      clear hown e0 e1 e2 e3 e4 e5 e6 e7
      go_wp2_with (at_builtin; refine wpList_append_fits _ rfl _ _ 22 rfl w.heap.size 68 i0 8 Tryz.underlying22 hi hz1 w.heap.size k (n + 1) (tvals s k) rfl (hown2.alloc _) ⟨w2.heap.size, 0, none⟩ 1 1 tk.cells rfl rfl (cells_new w2 tk.cells 68) (by simp [Tm.cells, Value.oneCell']) (by omega) ?_; intro w3 hown3 hgrow3)
      go_roundw
      case rel =>
        refine ⟨k + 1, fun j => if j = k then tk else s j, by omega, by go_num, rfl, ?_, fun j hj => ?_, ?_⟩
        · rw [tvals, if_pos rfl, tvals_congr (s' := s) (fun j hj => if_neg (by omega))]; exact hown3
        · show TwinTm w3 (w.heap.size + 1) (p j) (if j = k then tk else s j)
          by_cases hjk : j = k
          · subst hjk
            rw [if_pos rfl]
            exact ((htw.mono (by omega)).keep ((Below.refl _ _).alloc (Nat.le_refl _) _)).grown hgrow3
          · rw [if_neg hjk]
            exact (((HA.out j (by omega)).keep hb).keep ((Below.refl _ _).alloc (Nat.le_refl _) _)).grown hgrow3
        · exact ((HB.trans (hb.mono HBz)).alloc (by omega) _).grown hgrow3 (by simp; omega) (fun j h => by cases h; exact Nat.le_refl _)
      case measure => simp [intOf]; omega
    · have hkn : n ≤ k := by omega
      obtain rfl : k = n := by omega
      go_wp2_with (at_builtin; refine wpList_append_fits _ rfl _ _ 22 rfl w.heap.size 68 i0 8 Tryz.underlying22 hi hz1 w.heap.size k (k + 1) (tvals s k) rfl (hown.alloc _) ⟨wr.heap.size, 0, none⟩ 1 1 mark.cells rfl rfl (cells_new wr mark.cells 68) (by simp [Tm.cells, mark, Value.oneCell']) (by omega) ?_; intro w3 hown3 hgrow3)
      go_ret
      refine ⟨_, _, s, rfl, ⟨w.heap.size, rfl, Nat.le_refl _, by omega, by omega, fun j hj => ?_, ?_⟩, ?_⟩
      · have hown4 : w3.ownsRow w.heap.size 68 8 (.slice (some ⟨w.heap.size, 0, none⟩) (k + 1) (k + 1)) (k + 1) (tvals (fun j => if j = k then mark else s j) (k + 1)) := by
          rw [tvals, if_pos rfl, tvals_congr (s' := s) (fun j hj => if_neg (by omega))]; exact hown3
        have h1 := tmAt_of_owns hown4 (j := j) (by omega)
        rw [if_neg (by omega)] at h1
        exact ⟨h1, (((HA.out j hj).keep ((Below.refl _ _).alloc (Nat.le_refl _) _)).grown hgrow3).mono (by omega)⟩
      · have hown4 : w3.ownsRow w.heap.size 68 8 (.slice (some ⟨w.heap.size, 0, none⟩) (k + 1) (k + 1)) (k + 1) (tvals (fun j => if j = k then mark else s j) (k + 1)) := by
          rw [tvals, if_pos rfl, tvals_congr (s' := s) (fun j hj => if_neg (by omega))]; exact hown3
        have h1 := tmAt_of_owns hown4 (j := k) (by omega)
        rw [if_pos rfl] at h1
        exact h1
      · exact (HB.alloc (by omega) _).grown hgrow3 (by simp; omega) (fun j h => by cases h; exact Nat.le_refl _)
end Go.Proofs.YtdamegaedmckbaaGreatDoor
