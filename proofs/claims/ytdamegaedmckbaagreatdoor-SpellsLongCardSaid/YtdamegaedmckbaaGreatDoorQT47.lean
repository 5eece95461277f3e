/- The laws' SamePoly: two sums that are the same. No further condition. The laws' SamePoly: two sums that are the same. No further condition. A row of bytes that a conversion has laid (a mark behind its end): append, store, and what it reads. No program. SpellsLong: the law's own walk. A sum that came in, read as data, is one in memory. What the row's list of laid variables gives the walk: ErrRange holds an error. No further condition. SpellsTexts: what the walk gives, as the row asks it. No condition but the tables that the row lists. SpellsLong: what the walk gives, as the row asks it. No condition but the variables that the row lists. -/
import Derived.Test.YtdamegaedmckbaaGreatDoorQT23
import Derived.Test.YtdamegaedmckbaaGreatDoorQT12
import Derived.Test.YtdamegaedmckbaaGreatDoorQT7
import Derived.Test.YtdamegaedmckbaaGreatDoorQT20
import Derived.Test.YtdamegaedmckbaaGreatDoorQT46
import Derived.Test.YtdamegaedmckbaaGreatDoorQT0
import Derived.Test.YtdamegaedmckbaaGreatDoorQT31
import Derived.Test.YtdamegaedmckbaaGreatDoorQT32
import Derived.Test.YtdamegaedmckbaaGreatDoorQT42
import Derived.Test.YtdamegaedmckbaaGreatDoorQT4
import Derived.Lib.FrozenHead2
import Derived.Lib.AppendStr
import Derived.Laws.IdiomStrings
import Derived.Handy
import Derived.Deep.Slices
import Derived.ChangeSame
import Derived.OpenShut
import Derived.Laws.IdiomArrays
import Derived.SizedLaws
import Derived.Test.YtdamegaedmckbaaGreatDoorRows
import Derived.Stop.LaidErr
import Derived.RowKitTokens
import Derived.Test.YtdamegaedmckbaaGreatDoorCards
import Derived.Test.YtdamegaedmckbaaGreatDoorTie
import Derived.ProofKit
import Derived.WideKeyArgs
import Derived.Deep.DeepHandedRow
import Derived.Lib.LaidTab
import Derived.Deep.CutBlock
import Derived.Lib.Join
import Derived.Test.YtdamegaedmckbaaGreatDoorQTZ
set_option linter.unusedSimpArgs false
set_option linter.unusedVariables false
set_option maxRecDepth 100000
set_option maxHeartbeats 4000000
section
namespace Go.Proofs.YtdamegaedmckbaaGreatDoor
open Go.RowKit
theorem sameLimbs_c (w : World) (a : Option Addr) (n c : Nat) (d : List Nat) (hd : RdL w a n c d) (a' : Option Addr) (c' : Nat) (hd' : RdL w a' n c' d) :
  Calls Tryz.prog 254 #[.slice a n c, .slice a' n c'] w fun e w' => e = .returned (.bool true) ∧ Below w.heap.size w w' := by
 have HB := Below.refl w.heap.size w
 have hfew := hd.few
 go_enter Tryz.func254, Tryz.ntmps254
 go_wp2_with fail
 go_loopw [5] (fun v wr => ∃ k : Nat, k ≤ n ∧ v = .int .i64 k ∧ Below w.heap.size w wr) (fun v _ => n - (intOf v).toNat)
 case atStart => exact ⟨0, by omega, rfl, HB⟩
 case round =>
  obtain ⟨k, hk, rfl, HB⟩ := hrel
  by_cases hlt : k < n
  ·obtain ⟨b, o, rfl, hc⟩ := (hd.keep HB).at' hlt
   obtain ⟨b', o', rfl, hc'⟩ := (hd'.keep HB).at' hlt
   generalize lim d k = x at *
   go_wp2_with fail
   go_quiet (fail)
   go_wp2_with fail
   go_roundw
   case rel => exact ⟨k + 1, by omega, by go_num, below_drewN _ HB⟩
   case measure => (first | (simp [intOf]; omega) | (simp [intOf]; done))
  ·obtain rfl : k = n := by omega
   go_wp2_with fail
   go_ret
   exact ⟨rfl, by first | assumption | go_grown⟩
theorem sameNum_c (w : World) (g : Bool) (a : Option Addr) (n c : Nat) (d : List Nat) (hd : RdL w a n c d) (a' : Option Addr) (c' : Nat) (hd' : RdL w a' n c' d) :
  Calls Tryz.prog 205 #[.agg #[.bool g, .slice a n c], .agg #[.bool g, .slice a' n c']] w fun e w' => e = .returned (.bool true) ∧ Below w.heap.size w w' := by
 have HB := Below.refl w.heap.size w
 go_enter Tryz.func205, Tryz.ntmps205
 go_wp2_with (first | (go_at_call 254; refine (sameLimbs_c _ a n c d (hd.keep qF) a' c' (hd'.keep qF)).mono ?_; rintro e w1 ⟨rfl, hb⟩; have HB1 := zB w hb))
 go_ret
 exact ⟨rfl, by first | assumption | go_grown⟩
end Go.Proofs.YtdamegaedmckbaaGreatDoor
end
section
namespace Go.Proofs.YtdamegaedmckbaaGreatDoor
open Go.RowKit
theorem sameFrac_c (w : World) (g1 : Bool) (a1 : Option Addr) (n1 c1 : Nat) (d1 : List Nat) (h1 : RdL w a1 n1 c1 d1) (g2 : Bool) (a2 : Option Addr) (n2 c2 : Nat) (d2 : List Nat) (h2 : RdL w a2 n2 c2 d2) (a3 : Option Addr) (c3 : Nat) (h3 : RdL w a3 n1 c3 d1) (a4 : Option Addr) (c4 : Nat) (h4 : RdL w a4 n2 c4 d2) :
  Calls Tryz.prog 137 #[.agg #[.bool g1, .slice a1 n1 c1, .bool g2, .slice a2 n2 c2], .agg #[.bool g1, .slice a3 n1 c3, .bool g2, .slice a4 n2 c4]] w fun e w' => e = .returned (.bool true) ∧ Below w.heap.size w w' := by
 go_enter Tryz.func137, Tryz.ntmps137
 go_wp2_with fail
 refine calls_name ?_
 intro W0 hW0
 have hb0 : Below w.heap.size w W0 := by rw [hW0]; go_grown
 have s2 : W0.cell? ⟨w.heap.size, 2, none⟩ = some (.bool g2) := by rw [hW0]; simp [go_sem]
 have s3 : W0.cell? ⟨w.heap.size, 3, none⟩ = some (.slice a2 n2 c2) := by rw [hW0]; simp [go_sem]
 have s6 : W0.cell? ⟨w.heap.size + 1, 2, none⟩ = some (.bool g2) := by rw [hW0]; simp [go_sem]
 have s7 : W0.cell? ⟨w.heap.size + 1, 3, none⟩ = some (.slice a4 n2 c4) := by rw [hW0]; simp [go_sem]
 clear hW0
 refine (sameNum_c W0 g1 a1 n1 c1 d1 (h1.keep hb0) a3 c3 (h3.keep hb0)).mono ?_
 rintro e w1 ⟨rfl, hb1⟩
 replace s2 := cell_keep hb1 s2; replace s3 := cell_keep hb1 s3; replace s6 := cell_keep hb1 s6; replace s7 := cell_keep hb1 s7
 have hb01 := hb0.trans (hb1.mono hb0.size)
 go_wp2_with fail
 refine (sameNum_c w1 g2 a2 n2 c2 d2 (h2.keep hb01) a4 c4 (h4.keep hb01)).mono ?_
 rintro e w2 ⟨rfl, hb2⟩
 go_wp2_with fail
 go_ret
 exact ⟨rfl, hb01.trans (hb2.mono hb01.size)⟩
theorem sameTerm_c (w : World) (s t : Tm) (hs : RdTm w s) (ht : RdTm w t) (e1 : s.g1 = t.g1) (e2 : s.d1 = t.d1) (e3 : s.g2 = t.g2) (e4 : s.d2 = t.d2) (q0 : s.m0 = t.m0) (q1 : s.m1 = t.m1) (q2 : s.m2 = t.m2) (q3 : s.m3 = t.m3) :
  Calls Tryz.prog 52 #[s.val, t.val] w fun e w' => e = .returned (.bool true) ∧ Below w.heap.size w w' := by
 obtain ⟨g1, a1, n1, c1, d1, g2, a2, n2, c2, d2, m0, m1, m2, m3⟩ := s
 obtain ⟨g1', a1', n1', c1', d1', g2', a2', n2', c2', d2', m0', m1', m2', m3'⟩ := t
 simp only at e1 e2 e3 e4 q0 q1 q2 q3
 subst e1 e2 e3 e4 q0 q1 q2 q3
 have h1 := hs.top
 have h2 := hs.low
 have h3 := ht.top
 have h4 := ht.low
 simp only at h1 h2 h3 h4
 obtain rfl : n1 = n1' := h1.len.symm.trans h3.len
 obtain rfl : n2 = n2' := h2.len.symm.trans h4.len
 show Calls Tryz.prog 52 #[.agg #[.bool g1, .slice a1 n1 c1, .bool g2, .slice a2 n2 c2, .int .u16 m0, .int .u16 m1, .int .u16 m2, .int .u16 m3], .agg #[.bool g1, .slice a1' n1 c1', .bool g2, .slice a2' n2 c2', .int .u16 m0, .int .u16 m1, .int .u16 m2, .int .u16 m3]] w _
 clear hs ht
 go_enter Tryz.func52, Tryz.ntmps52
 go_wp2_with fail
 refine calls_name ?_
 intro W0 hW0
 have hb0 : Below w.heap.size w W0 := by rw [hW0]; go_grown
 have s0 : W0.cell? ⟨w.heap.size, 4, none⟩ = some (.int .u16 m0) := by rw [hW0]; simp [go_sem]
 have t0 : W0.cell? ⟨w.heap.size + 1, 4, none⟩ = some (.int .u16 m0) := by rw [hW0]; simp [go_sem]
 have s1 : W0.cell? ⟨w.heap.size, 5, none⟩ = some (.int .u16 m1) := by rw [hW0]; simp [go_sem]
 have t1 : W0.cell? ⟨w.heap.size + 1, 5, none⟩ = some (.int .u16 m1) := by rw [hW0]; simp [go_sem]
 have s2 : W0.cell? ⟨w.heap.size, 6, none⟩ = some (.int .u16 m2) := by rw [hW0]; simp [go_sem]
 have t2 : W0.cell? ⟨w.heap.size + 1, 6, none⟩ = some (.int .u16 m2) := by rw [hW0]; simp [go_sem]
 have s3 : W0.cell? ⟨w.heap.size, 7, none⟩ = some (.int .u16 m3) := by rw [hW0]; simp [go_sem]
 have t3 : W0.cell? ⟨w.heap.size + 1, 7, none⟩ = some (.int .u16 m3) := by rw [hW0]; simp [go_sem]
 clear hW0
 refine (sameFrac_c W0 g1 a1 n1 c1 d1 (h1.keep hb0) g2 a2 n2 c2 d2 (h2.keep hb0) a1' c1' (h3.keep hb0) a2' c2' (h4.keep hb0)).mono ?_
 rintro e w1 ⟨rfl, hb1⟩
 replace s0 := cell_keep hb1 s0; replace t0 := cell_keep hb1 t0; replace s1 := cell_keep hb1 s1; replace t1 := cell_keep hb1 t1; replace s2 := cell_keep hb1 s2; replace t2 := cell_keep hb1 t2; replace s3 := cell_keep hb1 s3; replace t3 := cell_keep hb1 t3
 have hb01 := hb0.trans (hb1.mono hb0.size)
 go_wp2_with fail
 go_ret
 exact ⟨by simp, hb01⟩
theorem tmIs_same {s t : Tm} {x : PT} {w : World} (hs : TmIs s x) (ht : TmIs t x) (rs : RdTm w s) (rt : RdTm w t) : s.g1 = t.g1 ∧ s.d1 = t.d1 ∧ s.g2 = t.g2 ∧ s.d2 = t.d2 ∧ s.m0 = t.m0 ∧ s.m1 = t.m1 ∧ s.m2 = t.m2 ∧ s.m3 = t.m3 :=
 ⟨hs.g1.trans ht.g1.symm, hs.d1.trans ht.d1.symm, hs.g2.trans ht.g2.symm, hs.d2.trans ht.d2.symm, key4_inj rs.s0 rs.s1 rs.s2 rs.s3 rt.s0 rt.s1 rt.s2 rt.s3 (hs.key.trans ht.key.symm)⟩
theorem samePoly_c (w : World) (B : Nat) (a : Option Addr) (n c : Nat) (l : List PT) (h : PolyAt w B a n c l) (B' : Nat) (a' : Option Addr) (n' c' : Nat) (h' : PolyAt w B' a' n' c' l) :
  Calls Tryz.prog 19 #[.slice a n c, .slice a' n' c'] w fun e w' => e = .returned (.bool true) ∧ Below w.heap.size w w' := by
 have HB := Below.refl w.heap.size w
 obtain rfl : n = n' := h.len.symm.trans h'.len
 obtain ⟨p, hp, hpx⟩ := h.ts
 obtain ⟨q, hq, hqx⟩ := h'.ts
 have hl := h.len
 have hfew := hp.few
 have HS : Hid (∀ k, k < n → (p k).g1 = (q k).g1 ∧ (p k).d1 = (q k).d1 ∧ (p k).g2 = (q k).g2 ∧ (p k).d2 = (q k).d2 ∧ (p k).m0 = (q k).m0 ∧ (p k).m1 = (q k).m1 ∧ (p k).m2 = (q k).m2 ∧ (p k).m3 = (q k).m3) := Lib.hid fun k hk => by
  obtain ⟨x, hx⟩ : ∃ x, l[k]? = some x := ⟨_, List.getElem?_eq_getElem qB⟩
  exact tmIs_same (hpx k x hx).1 (hqx k x hx).1 (hp.tm k hk) (hq.tm k hk)
 clear hpx hqx h h' hl
 go_enter Tryz.func19, Tryz.ntmps19
 go_wp2_with fail
 go_loopw [5] (fun v wr => ∃ k : Nat, k ≤ n ∧ v = .int .i64 k ∧ Below w.heap.size w wr) (fun v _ => n - (intOf v).toNat)
 case atStart => exact ⟨0, by omega, rfl, HB⟩
 case round =>
  obtain ⟨k, hk, rfl, HB⟩ := hrel
  by_cases hlt : k < n
  ·obtain ⟨b, o, rfl, _⟩ := hp.cell.resolve_left qB
   obtain ⟨b', o', rfl, _⟩ := hq.cell.resolve_left qB
   obtain ⟨e0, e1, e2, e3, e4, e5, e6, e7⟩ := (hp.keep HB).at hlt
   obtain ⟨i0, i1, i2, i3, i4, i5, i6, i7⟩ := (hq.keep HB).at hlt
   have hC := fun W (hW : Below w.heap.size w W) => sameTerm_c W (p k) (q k) ((hp.tm k hlt).keep hW) ((hq.tm k hlt).keep hW) (HS.out k hlt).1 (HS.out k hlt).2.1 (HS.out k hlt).2.2.1 (HS.out k hlt).2.2.2.1 (HS.out k hlt).2.2.2.2.1 (HS.out k hlt).2.2.2.2.2.1 (HS.out k hlt).2.2.2.2.2.2.1 (HS.out k hlt).2.2.2.2.2.2.2
   have HC := Lib.hid hC
   clear hC
   go_wp2_with fail
   replace e0 := growC e0; replace i0 := growC i0; replace e1 := growC e1; replace i1 := growC i1; replace e2 := growC e2; replace i2 := growC i2; replace e3 := growC e3; replace i3 := growC i3; replace e4 := growC e4; replace i4 := growC i4; replace e5 := growC e5; replace i5 := growC i5; replace e6 := growC e6; replace i6 := growC i6; replace e7 := growC e7; replace i7 := growC i7
   (refine wp_region_grow qG qG ?_; (repeat (go_big_quiet_step (first | (go_at_call 52; exact growL (HC.out _ (HB.trans (Below.mono (Subtype.property _) HB.size))))))); refine wpQuiet_nil ?_; intro _ hw0; obtain ⟨nq, hw0⟩ := hw0; subst hw0)
   obtain ⟨w3, hb3⟩ := nq
   try dsimp only
   go_wp2_with fail
   go_roundw
   case rel => exact ⟨k + 1, by omega, by go_num, HB.trans (hb3.mono HB.size)⟩
   case measure => (first | (simp [intOf]; omega) | (simp [intOf]; done))
  ·obtain rfl : k = n := by omega
   go_wp2_with fail
   go_ret
   exact ⟨rfl, by first | assumption | go_grown⟩
end Go.Proofs.YtdamegaedmckbaaGreatDoor
end
section
namespace Go
open Go.Lib
theorem run_storeCells_atE (P : Program) (g o : Nat) (t : TypeId) (fz : Nat × Nat) : ∀ (vs : List Value) (i : Nat) (cur : Array Value) (w : World), w.heap[g]? = some (.cells cur t fz) → (∀ j, j < cur.size → (decide (fz.1 ≤ j) && decide (j < fz.2)) = false) → o + i + vs.length ≤ cur.size → (∀ v ∈ vs, v.oneCell' = true) →
  (storeCells ⟨g, o, none⟩ vs i).run P w = .ok () (w.setRow g (cur.toList.take (o + i) ++ vs ++ cur.toList.drop (o + i + vs.length)).toArray)
 | [], i, cur, w, hg, _, _, _ => by
  simp only [storeCells, List.append_nil, List.length_nil, Nat.add_zero, List.take_append_drop, Array.toArray_toList]
  rw [setRow_self w g cur t fz hg]
  rfl
 | v :: rest, i, cur, w, hg, hfz, hl, h1 => by
  have hi : o + i < cur.size := by simp at hl; omega
  have hadd : (⟨g, o, none⟩ : Addr).add i = ⟨g, o + i, none⟩ := by unfold Addr.add; split <;> simp_all
  have hcell : w.cell? ⟨g, o + i, none⟩ = some cur[o + i] := by simp [World.cell?, hg, hi]
  have hfro : w.frozen? ⟨g, o + i, none⟩ = false := by
   obtain ⟨lo, hi'⟩ := fz
   have := hfz (o + i) hi
   simp only [World.frozen?, hg]
   exact this
  have hst : (store ((⟨g, o, none⟩ : Addr).add i) v).run P w = .ok () (w.setRow g (cur.setIfInBounds (o + i) v)) := by
   rw [hadd, run_store P w _ v _ (h1 v (by simp)), hcell]
   simp [hfro, setCell_eq_setRow w g (o + i) cur t fz v hg]
  have ih := run_storeCells_atE P g o t fz rest (i + 1) (cur.setIfInBounds (o + i) v) (w.setRow g (cur.setIfInBounds (o + i) v)) (setRow_heap w g cur _ t _ hg) (by simpa using hfz) (by simp at hl ⊢; omega) (fun x hx => h1 x (by simp [hx]))
  simp only [storeCells, Sem.run_bind, hst, Result.andThen_ok, ih, setRow_setRow]
  congr 3
  have e := list_seg_step cur.toList (o + i) v rest (by simp at hl ⊢; omega)
  simpa [Array.toList_setIfInBounds, Nat.add_assoc] using e
theorem heap_alloc_newF (w : World) (C : Array Value) (e : TypeId) (fz : Nat × Nat) : (w.alloc (.cells C e fz)).heap[w.heap.size]? = some (.cells C e fz) := by
 show (w.heap.push (.cells C e fz))[w.heap.size]? = _
 simp
def World.ownsE (w : World) (base : Nat) (e : TypeId) (v : Value) (n : Nat) (xs : List Value) : Prop :=
  xs.length = n ∧ ∃ g cap cur fz, v = .slice (some ⟨g, 0, none⟩) n cap ∧ base ≤ g ∧ w.heap[g]? = some (.cells cur e fz) ∧ (∀ j, j < cur.size → (decide (fz.1 ≤ j) && decide (j < fz.2)) = false) ∧ n ≤ cap ∧ cap ≤ maxLen ∧ cur.size = cap ∧ cur.toList.take n = xs
section
variable {P : Program} (w : World)
theorem World.ownsE.kept {w w' : World} {base : Nat} {e : TypeId} {v : Value} {n : Nat} {xs : List Value} {row : Option Nat} (h : w.ownsE base e v n xs) (hg : w.grownBy w' row) (hne : v.ownBlock ≠ row) : w'.ownsE base e v n xs := by
  obtain ⟨h1, g, cap, cur, fz, rfl, hb, hgg, rest⟩ := h
  refine ⟨h1, g, cap, cur, fz, rfl, hb, ?_, rest⟩
  rw [hg.block g (Array.getElem?_eq_some_iff.1 hgg).1 (by simpa [Value.ownBlock] using hne)]
  exact hgg
theorem World.ownsE.cellAt {w : World} {base : Nat} {e : TypeId} {g cap n : Nat} {xs : List Value} (h : w.ownsE base e (.slice (some ⟨g, 0, none⟩) n cap) n xs) (j : Nat) (hj : j < n) : w.cell? ⟨g, j, none⟩ = xs[j]? := by
  obtain ⟨h1, g', cap', cur, fz, hv, hb, hgg, _, _, _, _, htake⟩ := h
  simp only [Value.slice.injEq, Option.some.injEq, Addr.mk.injEq, and_true, true_and] at hv
  obtain ⟨rfl, rfl⟩ := hv
  rw [cell_of_row w g j cur e fz hgg, ← htake, List.getElem?_take, if_pos hj]
  simp
theorem World.ownsE.cells {w : World} {base : Nat} {e : TypeId} {g cap n : Nat} {xs : List Value} (h : w.ownsE base e (.slice (some ⟨g, 0, none⟩) n cap) n xs) : ∀ j u, xs[j]? = some u → w.cell? ((⟨g, 0, none⟩ : Addr).add j) = some u := by
  intro j u hu
  have hadd : (⟨g, 0, none⟩ : Addr).add j = ⟨g, j, none⟩ := by unfold Addr.add; split <;> simp_all
  have hj : j < n := by
    have := (List.getElem?_eq_some_iff.1 hu).1
    have := h.1
    omega
  rw [hadd, h.cellAt j hj, hu]
/-- The row that has grown. -/
theorem ownsE_grown (base : Nat) (e : TypeId) (n m old : Nat) (xs ys : List Value) (hx : xs.length = n) (hy : ys.length = m) (h63 : n + m ≤ maxLen) (hbase : base ≤ w.heap.size) (row : Option Nat) :
  (w.drew.alloc (.cells (xs.toArray ++ ys.toArray ++ Builtin.zeroCells (Value.int .u8 0).cells (grownCap w (n + m) old e - (n + m))) e)).ownsE base e (.slice (some ⟨w.heap.size, 0, none⟩) (n + m) (grownCap w (n + m) old e)) (n + m) (xs ++ ys) ∧
  w.grownBy (w.drew.alloc (.cells (xs.toArray ++ ys.toArray ++ Builtin.zeroCells (Value.int .u8 0).cells (grownCap w (n + m) old e - (n + m))) e)) row := by
 have hge := grownCap_ge w (n + m) old e
 have hcm : grownCap w (n + m) old e ≤ maxLen := grownCap_le_maxLen w (n + m) old e h63
 have hlen : (xs ++ ys).length = n + m := by rw [List.length_append, hx, hy]
 refine ⟨⟨hlen, w.heap.size, _, _, (0, 0), rfl, hbase, heap_alloc_new w.drew _, fun j _ => by simp, hge, hcm, ?_, ?_⟩, ⟨rfl, rfl, rfl, by simp, fun k hk _ => Go.heap_alloc_old w.drew _ hk⟩⟩
 ·have hz1 : (Value.int IntKind.u8 0).cells.size = 1 := rfl
  simp only [Array.size_append, List.size_toArray, size_zeroCells, hz1, hx, hy]
  omega
 ·simp only [Array.toList_append, List.append_assoc]
  rw [← List.append_assoc, ← hlen]
  exact List.take_left
theorem ownsE_room {w : World} {base : Nat} {e : TypeId} {g cap n m : Nat} {cur : Array Value} {fz : Nat × Nat} {xs ys : List Value} (hbg : base ≤ g) (hg : w.heap[g]? = some (.cells cur e fz)) (hfz : ∀ j, j < cur.size → (decide (fz.1 ≤ j) && decide (j < fz.2)) = false) (hx : xs.length = n) (hy : ys.length = m) (hroom : n + m ≤ cap) (hcm : cap ≤ maxLen) (hcs : cur.size = cap) (htake : cur.toList.take n = xs) :
  (w.setRow g (cur.toList.take n ++ ys ++ cur.toList.drop (n + m)).toArray).ownsE base e (.slice (some ⟨g, 0, none⟩) (n + m) cap) (n + m) (xs ++ ys) ∧ w.grownBy (w.setRow g (cur.toList.take n ++ ys ++ cur.toList.drop (n + m)).toArray) (some g) := by
 have hlen : (xs ++ ys).length = n + m := by rw [List.length_append, hx, hy]
 have hsz : (cur.toList.take n ++ ys ++ cur.toList.drop (n + m)).toArray.size = cur.size := by
  simp only [List.size_toArray, List.length_append, List.length_take, List.length_drop, Array.length_toList, hy]
  omega
 refine ⟨⟨hlen, g, cap, _, fz, rfl, hbg, setRow_heap w g cur _ e _ hg, by rw [hsz]; exact hfz, hroom, hcm, by rw [hsz, hcs], ?_⟩, ⟨rfl, rfl, rfl, by simp, fun k _ hk => setRow_other w g k _ (fun e => hk (by rw [e]))⟩⟩
 rw [htake, ← hlen]
 exact List.take_left
theorem run_append_str_E (base : Nat) (t u ty e : TypeId) (i : TypeInfo) (ht : P.underlying t = some (.slice e)) (hu : P.underlying u = some .string) (hi : P.info? e = some i) (hz : i.zero = some (.int .u8 0))
  (hsize : i.size = 1) (hby : i.bytes = 1)
  (v : Value) (n : Nat) (xs : List Value) (hown : w.ownsE base e v n xs) (s : ByteArray)
  (h63 : n + s.size ≤ maxLen) (hbytes : n + s.size ≤ 140737488355328) (hbase : base ≤ w.heap.size) :
  ∃ v' w', (Builtin.append_ #[t, u] ty #[v, .string s]).run P w = .ok v' w' ∧ w'.ownsE base e v' (n + s.size) (xs ++ strCells s) ∧ w.grownBy w' v.ownBlock := by
 have hown' := hown
 obtain ⟨hxl, g, cap, cur, fz, rfl, hbg, hg, hfz, hnc, hcm, hcs, htake⟩ := hown
 have hsmall : n + s.size ≤ 9223372036854775807 := by simp only [maxLen] at h63; omega
 by_cases hroom : n + s.size ≤ cap
 ·have hf := run_firstCells_string (P := P) w 1 s
  have hst := run_storeCells_atE P g n e fz (strCells s) 0 cur w hg hfz (by simp [strCells_length]; omega) (strCells_oneCell s)
  simp only [Nat.add_zero, strCells_length] at hst
  obtain ⟨r1, r2⟩ := ownsE_room hbg hg hfz hxl (strCells_length s) hroom hcm hcs htake
  exact ⟨_, _, by simp [Builtin.append_, run_underlying ht, run_underlying hu, sizeOf, typeInfo, hi, hsize, Builtin.lenOf, hroom, hf, Addr.add_lit, hst], r1, r2⟩
 ·have hr := run_append_grow_string (P := P) w t u ty e i (.int .u8 0) ht hu hi hz ⟨g, 0, none⟩ n cap xs (by rw [hsize]; omega) hown'.cells s (by omega) (by omega) (by rw [hby]; exact growslice_fits (by omega) (by omega))
  obtain ⟨r1, r2⟩ := ownsE_grown w base e n s.size cap xs (strCells s) hxl (strCells_length s) h63 hbase (Value.ownBlock (.slice (some ⟨g, 0, none⟩) n cap))
  exact ⟨_, _, hr, r1, r2⟩
theorem zeroCells_u8 (m : Nat) : Builtin.zeroCells (Value.int .u8 0).cells m = (List.replicate m (Value.int .u8 0)).toArray := by
 apply Array.ext
 ·have hz1 : (Value.int IntKind.u8 0).cells.size = 1 := rfl
  simp [size_zeroCells, hz1]
 ·intro i h1 h2
  have hz1 : (Value.int IntKind.u8 0).cells = #[Value.int .u8 0] := rfl
  simp [Builtin.zeroCells, hz1, Nat.mod_one]
theorem run_append_make_E (base : Nat) (t u ty e : TypeId) (i : TypeInfo) (ht : P.underlying t = some (.slice e)) (hu : P.underlying u = some (.int .i64)) (hi : P.info? e = some i) (hz : i.zero = some (.int .u8 0))
  (hsize : i.size = 1) (hby : i.bytes = 1)
  (v : Value) (n : Nat) (xs : List Value) (hown : w.ownsE base e v n xs) (m : Nat) (hm0 : 0 < m) (hm : m ≤ 1000000)
  (h63 : n + m ≤ maxLen) (hbytes : n + m ≤ 140737488355328) (hbase : base ≤ w.heap.size) :
  ∃ v' w', (Builtin.append_ #[t, u] ty #[v, .int .i64 (m : Int)]).run P w = .ok v' w' ∧ w'.ownsE base e v' (n + m) (xs ++ List.replicate m (Value.int .u8 0)) ∧ w.grownBy w' v.ownBlock := by
 have hown' := hown
 obtain ⟨hxl, g, cap, cur, fz, rfl, hbg, hg, hfz, hnc, hcm, hcs, htake⟩ := hown
 have hsmall : n + m ≤ 9223372036854775807 := by simp only [maxLen] at h63; omega
 have hl : (List.replicate m (Value.int .u8 0)).length = m := by simp
 have hw : IntKind.i64.wrap (m : Int) = m := by simp [IntKind.wrap, IntKind.bits, IntKind.signed]; omega
 have hneg : ¬ ((m : Int) < 0) := by omega
 have hbig : ¬ ((281474976710656 : Int) < (m : Int)) := by omega
 have hm1 : ¬ m = 0 := by omega
 by_cases hroom : n + m ≤ cap
 ·have hst := run_storeCells_atE P g n e fz (List.replicate m (Value.int .u8 0)) 0 cur w hg hfz (by simp; omega) (by simp [Value.oneCell'])
  simp only [Nat.add_zero, hl] at hst
  obtain ⟨r1, r2⟩ := ownsE_room hbg hg hfz hxl hl hroom hcm hcs htake
  exact ⟨_, _, by simp [Builtin.append_, run_underlying ht, run_underlying hu, sizeOf, typeInfo, zeroValue, hi, hz, hsize, hby, asInt, asIntOf, hw, hneg, hbig, hm1, hroom, zeroCells_u8, Addr.add_lit, hst], r1, r2⟩
 ·have hn : ¬ (n + m ≤ cap) := hroom
  have h63' : ¬ (9223372036854775807 < ((n : Int) + (m : Int))) := by omega
  have h48' : ¬ (281474976710656 < Builtin.nextslicecap (n + m) cap * 1) := by have := growslice_fits (need := n + m) (old := cap) (bytes := 1) (by omega) (by omega); omega
  have hfo := run_firstCells_some (P := P) w.drew 1 n ⟨g, 0, none⟩ n cap xs (by omega) (by simpa using hown'.cells)
  obtain ⟨r1, r2⟩ := ownsE_grown w base e n m cap xs (List.replicate m (Value.int .u8 0)) hxl hl h63 hbase (Value.ownBlock (.slice (some ⟨g, 0, none⟩) n cap))
  refine ⟨_, _, ?_, r1, r2⟩
  simp [Builtin.append_, run_underlying ht, run_underlying hu, sizeOf, typeInfo, zeroValue, hi, hz, hsize, hby, asInt, asIntOf, hw, hneg, hbig, hm1, hn, h63', zeroCells_u8, Question.forced, hfo, newRow, grownCap]
  exact fun hbad => absurd hbad (by omega)
variable {w}
theorem wpList_append_make_E {ops : Array Oper} {rest : List Oper} {o : Oper} {a : Act} {Q : Exit → Act → World → Prop} (hgd : o.guard = none) (sl x : Operand) (t u : TypeId)
  (ho : o.op = .call { callee := .builtin .append, args := #[sl, x], argTypes := #[t, u] })
  (base : Nat) (e : TypeId) (i : TypeInfo) (ht : P.underlying t = some (.slice e)) (hu : P.underlying u = some (.int .i64)) (hi : P.info? e = some i) (hz : i.zero = some (.int .u8 0))
  (hsize : i.size = 1) (hby : i.bytes = 1)
  (v : Value) (n : Nat) (xs : List Value) (hs : a.eval sl = v) (hown : w.ownsE base e v n xs) (m : Nat) (hx : a.eval x = .int .i64 (m : Int)) (hm0 : 0 < m) (hm : m ≤ 1000000)
  (h63 : n + m ≤ maxLen) (hbytes : n + m ≤ 140737488355328) (hbase : base ≤ w.heap.size)
  (h : ∀ v' w', w'.ownsE base e v' (n + m) (xs ++ List.replicate m (Value.int .u8 0)) → w.grownBy w' v.ownBlock → wpList P ops Q rest (a.put o.dst v') w') : wpList P ops Q (o :: rest) a w := by
 refine wpList_plain hgd fun K hK => ?_
 obtain ⟨v', w', hr, h2, h3⟩ := run_append_make_E (P := P) w base t u o.type e i ht hu hi hz hsize hby v n xs hown m hm0 hm h63 hbytes hbase
 unfold Oper.wp execOp
 simp only [ho, resolve, invoke, builtin, Sem.run_bind, Sem.run_pure, Result.andThen_ok, List.map_toArray, List.map_cons, List.map_nil, hs, hx, hr]
 exact hK _ _ (h v' w' h2 h3)
theorem wpList_append_str_E {ops : Array Oper} {rest : List Oper} {o : Oper} {a : Act} {Q : Exit → Act → World → Prop} (hgd : o.guard = none) (sl x : Operand) (t u : TypeId)
  (ho : o.op = .call { callee := .builtin .append, args := #[sl, x], argTypes := #[t, u] })
  (base : Nat) (e : TypeId) (i : TypeInfo) (ht : P.underlying t = some (.slice e)) (hu : P.underlying u = some .string) (hi : P.info? e = some i) (hz : i.zero = some (.int .u8 0))
  (hsize : i.size = 1) (hby : i.bytes = 1)
  (v : Value) (n : Nat) (xs : List Value) (hs : a.eval sl = v) (hown : w.ownsE base e v n xs) (s : ByteArray) (hx : a.eval x = .string s)
  (h63 : n + s.size ≤ maxLen) (hbytes : n + s.size ≤ 140737488355328) (hbase : base ≤ w.heap.size)
  (h : ∀ v' w', w'.ownsE base e v' (n + s.size) (xs ++ strCells s) → w.grownBy w' v.ownBlock → wpList P ops Q rest (a.put o.dst v') w') : wpList P ops Q (o :: rest) a w := by
 refine wpList_plain hgd fun K hK => ?_
 obtain ⟨v', w', hr, h2, h3⟩ := run_append_str_E (P := P) w base t u o.type e i ht hu hi hz hsize hby v n xs hown s h63 hbytes hbase
 unfold Oper.wp execOp
 simp only [ho, resolve, invoke, builtin, Sem.run_bind, Sem.run_pure, Result.andThen_ok, List.map_toArray, List.map_cons, List.map_nil, hs, hx, hr]
 exact hK _ _ (h v' w' h2 h3)
theorem ownsE_bytes (w : World) (e : TypeId) (s : ByteArray) (hs : s.size ≤ maxLen) :
  (w.drew.alloc (.cells (bytesRow s (grownCap w s.size 0 e)) e ((bytesRow s (grownCap w s.size 0 e)).size, (bytesRow s (grownCap w s.size 0 e)).size + 1))).ownsE w.heap.size e (.slice (some ⟨w.heap.size, 0, none⟩) s.size (grownCap w s.size 0 e)) s.size (strCells s) := by
 have hge := grownCap_ge w s.size 0 e
 have hcm := grownCap_le_maxLen w s.size 0 e hs
 have hsz : (bytesRow s (grownCap w s.size 0 e)).size = grownCap w s.size 0 e := by
  have : s.data.size = s.size := rfl
  simp [bytesRow, this]; omega
 refine ⟨strCells_length s, w.heap.size, _, _, _, rfl, Nat.le_refl _, heap_alloc_newF w.drew _ _ _, fun j hj => ?_, hge, hcm, hsz, ?_⟩
 ·have h1 : ¬ ((bytesRow s (grownCap w s.size 0 e)).size ≤ j) := by omega
  simp [h1]
 ·have hl := strCells_length s
  have : (bytesRow s (grownCap w s.size 0 e)).toList = strCells s ++ List.replicate (grownCap w s.size 0 e - s.size) (.int .u8 0) := by
   simp [bytesRow, strCells]
  rw [this]
  conv => lhs; rw [← hl]
  exact List.take_left
theorem ownsE_frozen {w : World} {base : Nat} {e : TypeId} {g cap n : Nat} {xs : List Value} (h : w.ownsE base e (.slice (some ⟨g, 0, none⟩) n cap) n xs) (j : Nat) (hj : j < n) : w.frozen? ⟨g, j, none⟩ = false := by
 obtain ⟨h1, g', cap', cur, fz, hv, hb, hgg, hfz, hnc, _, hcs, _⟩ := h
 simp only [Value.slice.injEq, Option.some.injEq, Addr.mk.injEq, and_true, true_and] at hv
 obtain ⟨rfl, rfl⟩ := hv
 obtain ⟨lo, hi⟩ := fz
 simp only [World.frozen?, hgg]
 exact hfz j (by omega)
theorem ownsE_set {w : World} {base : Nat} {e : TypeId} {g cap n : Nat} {xs : List Value} (h : w.ownsE base e (.slice (some ⟨g, 0, none⟩) n cap) n xs) (j : Nat) (hj : j < n) (v : Value) : (w.setCell ⟨g, j, none⟩ v).ownsE base e (.slice (some ⟨g, 0, none⟩) n cap) n (xs.set j v) := by
 obtain ⟨h1, g', cap', cur, fz, hv, hb, hgg, hfz, hnc, hcm, hcs, htake⟩ := h
 simp only [Value.slice.injEq, Option.some.injEq, Addr.mk.injEq, and_true, true_and] at hv
 obtain ⟨rfl, rfl⟩ := hv
 refine ⟨by simpa using h1, g, cap, cur.setIfInBounds j v, fz, rfl, hb, ?_, by simpa using hfz, hnc, hcm, by simpa using hcs, ?_⟩
 ·rw [setCell_eq_setRow w g j cur e fz v hgg]
  exact setRow_heap w g cur _ e _ hgg
 ·rw [Array.toList_setIfInBounds, List.take_set, htake]
def byteVals (L : List UInt8) : List Value := L.map fun b => Value.int .u8 (b.toNat : Int)
theorem byteVals_str (L : List UInt8) : strCells ⟨L.toArray⟩ = byteVals L := by simp [strCells, byteVals]
theorem byteVals_zero (n : Nat) : List.replicate n (Value.int .u8 0) = byteVals (List.replicate n 0) := by simp [byteVals]
theorem byteVals_app (a b : List UInt8) : byteVals (a ++ b) = byteVals a ++ byteVals b := by simp [byteVals]
theorem byteVals_set (a : List UInt8) (i : Nat) (b : UInt8) : (byteVals a).set i (Value.int .u8 (b.toNat : Int)) = byteVals (a.set i b) := by simp [byteVals, List.map_set]
theorem ownsE_slice {w : World} {base : Nat} {e : TypeId} {v : Value} {n : Nat} {xs : List Value} (h : w.ownsE base e v n xs) : ∃ g cap, v = .slice (some ⟨g, 0, none⟩) n cap ∧ base ≤ g ∧ g < w.heap.size ∧ n ≤ cap := by
 obtain ⟨_, g, cap, _, _, rfl, hb, hg, _, hnc, _⟩ := h
 exact ⟨g, cap, rfl, hb, (Array.getElem?_eq_some_iff.1 hg).1, hnc⟩
end
end Go
end
section
namespace Go.Proofs.YtdamegaedmckbaaGreatDoor
open Go.RowKit
theorem info5 : (Tryz.prog.info? 5).map (fun i => (i.zero, i.size, i.bytes)) = some (some (.int .u8 0), 1, 1) := by kernel_rfl
theorem SpellsLong_c (w : World) (n : Int) (s t : List UInt8) (hs : s.length ≤ 9223372036854775807) (ht : t.length ≤ 9223372036854775807) (hV : ErrV w) (h7 : 7 < w.heap.size) :
  Calls Tryz.prog 5 #[.int .i64 n, .string ⟨s.toArray⟩, .string ⟨t.toArray⟩] w (RetTrue w) := by
 go_enter Tryz.func5, Tryz.ntmps5
 by_cases h1 : n < 65000
 ·go_wp2_with fail
  go_ret
  exact ⟨rfl, Below.refl _ _⟩
 ·by_cases h2 : 66000 < n
  ·go_wp2_with fail
   go_ret
   exact ⟨rfl, Below.refl _ _⟩
  ·by_cases h3 : 30 < (s.length : Int)
   ·go_wp2_with fail
    go_ret
    exact ⟨rfl, Below.refl _ _⟩
   ·by_cases h4 : 30 < (t.length : Int)
    ·go_wp2_with fail
     go_ret
     exact ⟨rfl, Below.refl _ _⟩
    ·have hconv : ∀ W : World, (convert 9 49 (.string ⟨s.toArray⟩)).run Tryz.prog W = _ := fun W => run_bytes_of_string W 9 49 5 ⟨s.toArray⟩ Tryz.underlying9 Tryz.underlying49 Tryz.underlying5
     obtain ⟨i5, hi, hz0, hz1, hz2⟩ := info_parts info5
     obtain ⟨N, rfl⟩ : ∃ N : Nat, n = N := ⟨n.toNat, by omega⟩
     have hsz : (⟨s.toArray⟩ : ByteArray).size = s.length := by simp [ByteArray.size]
     have hown0 := ownsE_bytes w 5 ⟨s.toArray⟩ (by simp only [ByteArray.size]; unfold maxLen; simp; omega)
     rw [hsz] at hown0 hconv
     go_wp2_with (first | (at_builtin; refine wpList_append_make_E rfl _ _ 49 3 rfl w.heap.size 5 i5 Tryz.underlying49 Tryz.underlying3 hi hz0 hz1 hz2 _ s.length _ rfl hown0 N rfl qB qB qO qB qH ?_; intro v1 w1 hown1 hgrow1))
     rw [byteVals_str, byteVals_zero, ← byteVals_app] at hown1
     obtain ⟨g, cap, rfl, hgb, hgl, hnc⟩ := ownsE_slice hown1
     have B1 : Below w.heap.size w w1 := (((Below.refl w.heap.size w).drew).alloc (Nat.le_refl _) _).grown hgrow1 qH (fun k hk => by cases hk; exact Nat.le_refl _)
     have HL := Lib.hid (show (s ++ List.replicate N 0).length = s.length + N by simp)
     clear hown0 hgrow1 hconv hsz
     go_loopw [8] (fun v8 wr => ∃ (i : Nat) (L : List UInt8), s.length ≤ i ∧ i ≤ s.length + N ∧ v8 = .int .i64 i ∧ Hid (L.length = s.length + N) ∧ wr.ownsE w.heap.size 5 (.slice (some ⟨g, 0, none⟩) (s.length + N) cap) (s.length + N) (byteVals L) ∧ Below w.heap.size w wr) (fun v8 _ => s.length + N - (intOf v8).toNat)
     case atStart => exact ⟨s.length, _, Nat.le_refl _, by omega, rfl, HL, hown1, B1⟩
     case round =>
      clear hown1 B1 HL hgl
      obtain ⟨i, L, hi1, hi2, rfl, HL, hown, HB⟩ := hrel
      by_cases hlt : i < s.length + N
      ·have hlt' : (i : Int) < (s.length : Int) + (N : Int) := by omega
       have hfz := ownsE_frozen hown i hlt
       have hcl := hown.cellAt i hlt
       have hs2 := Lib.hid (ownsE_set hown i hlt (.int .u8 32))
       obtain ⟨x, hx⟩ : ∃ x, (byteVals L)[i]? = some x := ⟨_, List.getElem?_eq_getElem (by simp [byteVals, HL.out]; omega)⟩
       rw [hx] at hcl
       go_wp2_with fail
       go_roundw
       case rel => exact ⟨i + 1, L.set i 32, by omega, by omega, by go_num, Lib.hid (by rw [List.length_set]; exact HL.out), by have := hs2.out; rw [show (Value.int .u8 32) = Value.int .u8 ((32 : UInt8).toNat : Int) from rfl, byteVals_set] at this; exact this, HB.setCell (p := ⟨g, i, none⟩) hgb _⟩
       case measure => (first | (simp [intOf]; omega) | (simp [intOf]; done))
      ·obtain rfl : i = s.length + N := by omega
       have hlt' : ¬ ((s.length : Int) + (N : Int) < (s.length : Int) + (N : Int)) := by omega
       have htz : (⟨t.toArray⟩ : ByteArray).size = t.length := by simp [ByteArray.size]
       go_upto_region 9 with (first | (at_builtin; refine wpList_append_str_E rfl _ _ 49 9 rfl w.heap.size 5 i5 Tryz.underlying49 Tryz.underlying9 hi hz0 hz1 hz2 _ (s.length + N) _ rfl hown ⟨t.toArray⟩ rfl (by simp only [ByteArray.size]; unfold maxLen; simp; omega) (by simp only [ByteArray.size]; simp; omega) HB.size ?_; intro v2 w2 hown2 hgrow2))
       rw [byteVals_str, ← byteVals_app] at hown2
       obtain ⟨L2, hL2⟩ : ∃ L2, L2 = L ++ t := ⟨_, rfl⟩
       have hlen2 : L2.length = s.length + N + t.length := by rw [hL2, List.length_append, HL.out]
       rw [← hL2, htz, ← hlen2] at hown2
       have B2 : Below w.heap.size w w2 := HB.grown hgrow2 HB.size (fun k hk => by cases hk; exact hgb)
       have hLs : L2.length < 1000000000 := by omega
       obtain ⟨g2, cap2, rfl, hgb2, hgl2, hnc2⟩ := ownsE_slice hown2
       have back : ∀ W, W.ownsE w.heap.size 5 (.slice (some ⟨g2, 0, none⟩) L2.length cap2) L2.length (byteVals L2) → (convert 49 9 (.slice (some ⟨g2, 0, none⟩) L2.length cap2)).run Tryz.prog W = .ok (.string ⟨L2.toArray⟩) W := fun W hW => by
        refine run_convert_bytes_back W 49 9 5 ⟨g2, 0, none⟩ cap2 L2 Tryz.underlying49 Tryz.underlying5 Tryz.underlying9 fun j hj => ?_
        exact hW.cells j _ (by simp [byteVals, hj])
       have hb2 := back w2 hown2
       have hV2 : ErrV w2 := hV.grown (grown_below B2 none) qH
       have h72 : 7 < w2.heap.size := by have := B2.size; omega
       have HBACK := Lib.hid back
       clear hL2 hown hgrow2 HL HB back htz hlen2
       go_wp2_with fail
       refine (parse_c w2 L2 hLs hV2 h72).mono ?_
       rintro e w3 ⟨a3, n3, c3, rfl, P3, hb3⟩
       have B3 := B2.trans (hb3.mono B2.size)
       have hown3 := hown2.kept (grown_below hb3 none) (by simp [Value.ownBlock])
       have hbk3 := HBACK.out w3 hown3
       clear hown2 hb2
       go_wp2_with fail
       refine (docParse_c w3 L2 hLs).mono ?_
       rintro e w4 ⟨a4, n4, c4, rfl, P4, hb4⟩
       have B4 := B3.trans (hb4.mono B3.size)
       generalize (rdText L2).2 = er at *
       generalize (rdText L2).1 = lr at *
       clear hown3 hbk3 HBACK
       go_wp2_with fail
       refine (samePoly_c w4 _ a3 n3 c3 lr (P3.keep hb4) _ a4 n4 c4 P4).mono ?_
       rintro e w5 ⟨rfl, hb5⟩
       go_wp2_with fail
       go_ret
       exact ⟨by simp, B4.trans (hb5.mono B4.size)⟩
end Go.Proofs.YtdamegaedmckbaaGreatDoor
end
section
namespace Go.Proofs.YtdamegaedmckbaaGreatDoor
open Go.ChangeShapes Go.WideShapes Go.RowKit Go.Deep
variable {H : Type} {enc : TypeId × Value → H} {W : World} {sp : Nat → Bool} {held : Bool}
instance : Inhabited Tm := ⟨⟨false, none, 0, 0, [], false, none, 0, 0, [], 0, 0, 0, 0⟩⟩
end Go.Proofs.YtdamegaedmckbaaGreatDoor
end
section
namespace Go.Proofs.YtdamegaedmckbaaGreatDoor
open Go.RowKit Go.ChangeShapes
theorem gER : Tryz.prog.globalNamed "strconv.ErrRange" = some 7 := by kernel_rfl
theorem gERType : (Tryz.prog.globals[7]?).map (·.type) = some 108 := by kernel_rfl
theorem starErr : "*" ++ "errors.errorString" = "*errors.errorString" := by decide
theorem row347 (u : TypeId) (h : Tryz.prog.typeName? 3 u = some "*errors.errorString") : u = 347 :=
 typeName_ptr_named (nm := "errors.errorString") (by rw [starErr]; kernel_rfl) qG qC u (by rw [starErr]; exact h)
theorem c349 : Tryz.prog.cellsOf 349 = 1 := by kernel_rfl
theorem c9 : Tryz.prog.cellsOf 9 = 1 := by kernel_rfl
theorem err_of_laid {W : World} {x1 x2 x3 x4 : String × DataW Unit} {r : List (String × DataW Unit)} (h : laidMet Tryz.prog (x1 :: x2 :: x3 :: x4 :: ("strconv.ErrRange", (Rows.laid_strconv_ErrRange : DataW Unit)) :: r) W) : ErrV W ∧ 7 < W.heap.size := by
 obtain ⟨a1, s1, hv1, -, -, -⟩ := laid_sentinel h.tail.tail.tail.tail gER gERType Tryz.underlying108 row347 Tryz.underlying347 Tryz.underlying349 rfl rfl Tryz.underlying9 c349 c9
 have hc : W.cell? ⟨7, 0, none⟩ = some (.iface 347 (.pointer (some a1))) := by have h0 := World.var?_cell gER hv1 0; simpa using h0
 exact ⟨⟨_, hc, .inr ⟨_, _, rfl⟩⟩, World.block_lt_of_cell? _ _ hc⟩
end Go.Proofs.YtdamegaedmckbaaGreatDoor
end
section
namespace Go.Proofs.YtdamegaedmckbaaGreatDoor
open Go.ChangeShapes Go.WideShapes Go.ChangeAt Go.RowKit
theorem stOwn : ownKnob Tryz.prog.godebug = none := by kernel_rfl
section
variable {H : Type} {enc : TypeId × Value → H} {P : Program}
theorem postOfBelow {f : Func} {s : ChangeSpec} {apart fresh handsOn again : Bool} {W W' : World} {args : Array Value} {v : Value} {ds gs : List (DataW H)} {before pa pv : List MemPlace}
  (hW : DataW.Whole enc P f.params.toList s.vars apart W args.toList ds gs before)
  (hres : ∀ (b : Nat) (sp : Nat → Bool) (hd : Bool), DataW.TrodAll enc P W' b sp hd f.resultTypes.toList (v.resultList f.resultTypes.size) (s.fn H (ds ++ gs)).results [])
  (hargs : ∀ sp : Nat → Bool, (∀ p ∈ before, sp p.block = true) → DataW.TrodAll enc P W' 0 sp true f.params.toList args.toList (s.fn H (ds ++ gs)).args pa)
  (hvars : ∀ sp : Nat → Bool, (∀ p ∈ before, sp p.block = true) → DataW.TrodVars enc P W' sp s.vars (s.fn H (ds ++ gs)).vars pv)
  (hps : before = pa ++ pv) (hb : Below W.heap.size W W')
  (hok : ∀ (j : Nat) (t : TypeId) (r : Value), f.resultTypes[j]? = some t → (v.resultList f.resultTypes.size)[j]? = some r → Value.okWide P W' .any 0 t r) :
  s.post enc P f apart fresh handsOn again W args v W' := by
 have hlt : ∀ p ∈ before, p.block < W.heap.size := fun p hp => hW.lt p hp
 have hold : ∀ p ∈ before, (fun b => decide (b < W.heap.size)) p.block = true := fun p hp => by simpa using hlt p hp
 refine ⟨ds, gs, before, [], pa, pv, hW, hres _ _ _, hargs _ hold, hvars _ hold, World.keptBut_mono (fun p hp => ⟨hp, ?_⟩) (hb.frame (· ∈ before)), fun _ => ?_⟩
 ·rw [hps, List.mem_append] at hp
  exact Or.inr hp
 ·obtain ⟨_, _, _, _, _, hz, hn⟩ := hW
  refine ⟨hok, _, _, ([] ++ pa) ++ pv, ⟨[] ++ pa, pv, trodAll_append (hargs _ (fun _ _ => rfl)) (hres _ _ _), hvars _ (fun _ _ => rfl), rfl, ?_, ?_⟩, ?_⟩
  ·intro b off hp
   have hin : MemPlace.cell b off ∈ before := by rw [hps]; simpa using hp
   rw [hb.frozen (hlt _ hin)]
   exact hz b off hin
  ·intro ha
   have := hn ha
   rw [hps] at this
   simpa using this
  ·intro p hp _
   rw [hps]
   simpa using hp
end
theorem stLaidOut : laidOutB Tryz.prog = true := by kernel_rfl
def stPutA : Obj → Obj
 | .cells _ t frozen => .cells #[.int .u64 1, .int .u64 10, .int .u64 100, .int .u64 1000, .int .u64 10000, .int .u64 100000, .int .u64 1000000, .int .u64 10000000, .int .u64 100000000, .int .u64 1000000000, .int .u64 10000000000, .int .u64 100000000000, .int .u64 1000000000000, .int .u64 10000000000000, .int .u64 100000000000000, .int .u64 1000000000000000, .int .u64 10000000000000000, .int .u64 100000000000000000, .int .u64 1000000000000000000, .int .u64 10000000000000000000] t frozen
 | o => o
def stPutB : Obj → Obj
 | .cells _ t frozen => .cells #[.int .u8 0, .int .u8 1, .int .u8 28, .int .u8 2, .int .u8 29, .int .u8 14, .int .u8 24, .int .u8 3, .int .u8 30, .int .u8 22, .int .u8 20, .int .u8 15, .int .u8 25, .int .u8 17, .int .u8 4, .int .u8 8, .int .u8 31, .int .u8 27, .int .u8 13, .int .u8 23, .int .u8 21, .int .u8 19, .int .u8 16, .int .u8 7, .int .u8 26, .int .u8 12, .int .u8 18, .int .u8 6, .int .u8 11, .int .u8 5, .int .u8 10, .int .u8 9] t frozen
 | o => o
def stPutC : Obj → Obj
 | .cells _ t frozen => .cells #[.int .u8 0, .int .u8 1, .int .u8 56, .int .u8 2, .int .u8 57, .int .u8 49, .int .u8 28, .int .u8 3, .int .u8 61, .int .u8 58, .int .u8 42, .int .u8 50, .int .u8 38, .int .u8 29, .int .u8 17, .int .u8 4, .int .u8 62, .int .u8 47, .int .u8 59, .int .u8 36, .int .u8 45, .int .u8 43, .int .u8 51, .int .u8 22, .int .u8 53, .int .u8 39, .int .u8 33, .int .u8 30, .int .u8 24, .int .u8 18, .int .u8 12, .int .u8 5, .int .u8 63, .int .u8 55, .int .u8 48, .int .u8 27, .int .u8 60, .int .u8 41, .int .u8 37, .int .u8 16, .int .u8 46, .int .u8 35, .int .u8 44, .int .u8 21, .int .u8 52, .int .u8 32, .int .u8 23, .int .u8 11, .int .u8 54, .int .u8 26, .int .u8 40, .int .u8 15, .int .u8 34, .int .u8 20, .int .u8 31, .int .u8 10, .int .u8 25, .int .u8 14, .int .u8 19, .int .u8 9, .int .u8 13, .int .u8 8, .int .u8 7, .int .u8 6] t frozen
 | o => o
end Go.Proofs.YtdamegaedmckbaaGreatDoor
end
section
namespace Go.Proofs.YtdamegaedmckbaaGreatDoor
open Go.ChangeShapes Go.WideShapes Go.ChangeAt Go.RowKit
theorem slContract (H : Type) (enc : TypeId × Value → H) (W : World) (base : Nat) (args : Array Value) (ds gs : List (DataW H)) (before : List MemPlace)
  (hval : ∀ (j : Nat) t v, Tryz.f5.params[j]? = some t → args[j]? = some v → Value.okWide Tryz.prog W .any base t v)
  (hW : DataW.Whole enc Tryz.prog Tryz.f5.params.toList Rows.spellsLongSpec.vars false W args.toList ds gs before)
  (hL : laidMetH Tryz.prog Rows.spellsLongRow.laid W) :
  Calls Tryz.prog 5 args W fun e W' => ∃ v, e = .returned v ∧ Rows.spellsLongSpec.post enc Tryz.prog Tryz.f5 false true false false W args v W' := by
 have hW' := hW
 obtain ⟨p, q, hA0, hV, rfl, hfz, hnd⟩ := hW
 have hA : DataW.TrodAll enc Tryz.prog W 0 (fun _ => true) true Tryz.f5.params.toList args.toList ds p := hA0
 rw [Tryz.params5] at hA hval
 obtain ⟨v0, vs0, d0, ds0, p0, q0, hargs, rfl, rfl, h0, r0⟩ := trodAll_cons hA
 obtain ⟨v1, vs1, d1, ds1, p1, q1, rfl, rfl, rfl, h1, r1⟩ := trodAll_cons r0
 obtain ⟨v2, vs2, d2, ds2, p2, q2, rfl, rfl, rfl, h2, r2⟩ := trodAll_cons r1
 obtain ⟨rfl, rfl, rfl⟩ := trodAll_nil r2
 obtain rfl : args = #[v0, v1, v2] := by cases args; simp_all
 obtain ⟨rfl, rfl⟩ := trodVars_none hV
 obtain ⟨n, rfl⟩ := okWide_int Tryz.underlying3 (hval 0 3 v0 rfl rfl)
 obtain ⟨s, rfl⟩ := okWide_string Tryz.underlying9 (hval 1 9 v1 rfl rfl)
 obtain ⟨t, rfl⟩ := okWide_string Tryz.underlying9 (hval 2 9 v2 rfl rfl)
 obtain ⟨f1, hf1⟩ := h1
 obtain ⟨f2, hf2⟩ := h2
 obtain ⟨s', hs, _, hs2⟩ := DataW.trod_string Tryz.underlying9 hf1
 obtain ⟨t', ht, _, ht2⟩ := DataW.trod_string Tryz.underlying9 hf2
 have hs' : [Value.string s] = [Value.string s'] := hs
 have ht' : [Value.string t] = [Value.string t'] := ht
 simp only [List.cons.injEq, Value.string.injEq, and_true] at hs' ht'
 subst hs' ht'
 clear hA0
 obtain ⟨hV, h7⟩ := err_of_laid (r := [("strconv.ErrSyntax", Rows.laid_strconv_ErrSyntax), ("unicode/utf8.first", Rows.laid_unicode_utf8_first)]) hL
 have hse : s = ⟨s.data.toList.toArray⟩ := by cases s; rfl
 have hte : t = ⟨t.data.toList.toArray⟩ := by cases t; rfl
 have hC := SpellsLong_c W n s.data.toList t.data.toList (by rw [Array.length_toList]; exact hs2) (by rw [Array.length_toList]; exact ht2) hV h7
 rw [← hse, ← hte] at hC
 simp only [List.append_nil] at hW'
 refine hC.mono fun e W' ⟨he, hb⟩ => ?_
 subst he
 refine ⟨_, rfl, postOfBelow (ds := [d0, d1, d2]) (gs := []) (pa := p0 ++ (p1 ++ p2)) (pv := []) hW' (fun _ _ _ => trodAll_cons_mk (shut_bool Tryz.underlying4 _) trodAll_mk0) (fun sp hsp => ?_) (fun _ _ => rfl) qH hb (ok_one qG rfl (okWide_bool_mk Tryz.underlying4 _))⟩
 have hlt : ∀ x ∈ p0 ++ (p1 ++ p2), x.block < W.heap.size := fun x hx => hW'.lt x (by simpa using hx)
 have s0 := WideElems.Trod_stays (P := Tryz.prog) stLaidOut qG (of_decide_eq_true qG) h0 (fun x hx => hb.same (hlt x (by simp [hx]))) (fun x hx => hsp x (by simp [hx]))
 have s1 := WideElems.Trod_stays (P := Tryz.prog) stLaidOut qG (of_decide_eq_true qG) ⟨f1, hf1⟩ (fun x hx => hb.same (hlt x (by simp [hx]))) (fun x hx => hsp x (by simp [hx]))
 have s2 := WideElems.Trod_stays (P := Tryz.prog) stLaidOut qG (of_decide_eq_true qG) ⟨f2, hf2⟩ (fun x hx => hb.same (hlt x (by simp [hx]))) (fun x hx => hsp x (by simp [hx]))
 have := trodAll_cons_mk s0 (trodAll_cons_mk s1 (trodAll_cons_mk s2 trodAll_mk0))
 rw [List.append_nil] at this
 exact this
def slPutF : Obj → Obj
 | .cells _ t frozen => .cells (Pinned.utf8FirstZ.map fun (n : Nat) => Value.int .u8 (n : Int)).toArray t frozen
 | o => o
def slPutR : Obj → Obj
 | .cells _ t frozen => .cells #[.int .u8 128, .int .u8 191, .int .u8 160, .int .u8 191, .int .u8 128, .int .u8 159, .int .u8 144, .int .u8 191, .int .u8 128, .int .u8 143, .int .u8 0, .int .u8 0, .int .u8 0, .int .u8 0, .int .u8 0, .int .u8 0, .int .u8 0, .int .u8 0, .int .u8 0, .int .u8 0, .int .u8 0, .int .u8 0, .int .u8 0, .int .u8 0, .int .u8 0, .int .u8 0, .int .u8 0, .int .u8 0, .int .u8 0, .int .u8 0, .int .u8 0, .int .u8 0] t frozen
 | o => o
def slPutE (b : Nat) : Obj → Obj
 | .cells _ t frozen => .cells #[.iface 347 (.pointer (some ⟨b, 0, none⟩))] t frozen
 | o => o
noncomputable def slWorld (os : Os) : World :=
 { World.holding Tryz.prog os ⟨#[], #[], []⟩ with heap := ((((((((((World.holding Tryz.prog os ⟨#[], #[], []⟩).heap.modify 0 stPutA).modify 2 stPutB).modify 3 stPutC).modify 4 slPutF).modify 5 slPutR).modify 6 (slPutE (World.holding Tryz.prog os ⟨#[], #[], []⟩).heap.size)).modify 7 (slPutE ((World.holding Tryz.prog os ⟨#[], #[], []⟩).heap.size + 1))).push (.cells #[.string ⟨#[105, 110, 118, 97, 108, 105, 100, 32, 115, 121, 110, 116, 97, 120]⟩] 349)).push (.cells #[.string ⟨#[118, 97, 108, 117, 101, 32, 111, 117, 116, 32, 111, 102, 32, 114, 97, 110, 103, 101]⟩] 349)) }
theorem slLaid (os : Os) : laidMet Tryz.prog Rows.spellsLongRow.laid ((slWorld os).forCall (fun _ _ => 0) ⟨#[], #[.int .i64 0, .string ⟨#[]⟩, .string ⟨#[]⟩], []⟩).memory :=
 laidMet_of_run' 8 qG qG
theorem slReads (os : Os) {H : Type} (enc : TypeId × Value → H) : ∃ places, DataW.whole enc Tryz.prog ((slWorld os).forCall (fun _ _ => 0) ⟨#[], #[.int .i64 0, .string ⟨#[]⟩, .string ⟨#[]⟩], []⟩).memory Tryz.f5.params.toList Rows.spellsLongSpec.vars false #[Value.int .i64 0, .string ⟨#[]⟩, .string ⟨#[]⟩].toList 8 = some ([.lit (.int .i64 0), .lit (.string []), .lit (.string [])], [], places) :=
 ⟨[], by kernel_rfl⟩
theorem slLifted (os : Os) (started : os.Started) (H : Type) (enc : TypeId × Value → H) (F : Stop.Interp) :
  ReturnsInHanded {} Tryz.checked os 5 .any ((OpenSpec.ofChange Rows.spellsLongSpec).preRow enc Tryz.prog Tryz.f5 Rows.spellsLongRow.domain false Rows.spellsLongRow.laid) (((OpenSpec.ofChange Rows.spellsLongSpec).at F).post enc Tryz.prog Tryz.f5 false true false false) := by
 obtain ⟨places, hx⟩ := slReads os enc
 refine returnsInHanded_of_row (C := Tryz.checked) (s := OpenSpec.ofChange Rows.spellsLongSpec) stOwn started qG Tryz.func5
  (witness_row_at (enc := enc) (C := Tryz.checked) false (slWorld os) #[.int .i64 0, .string ⟨#[]⟩, .string ⟨#[]⟩] rfl qG qG qG
   (OpenSpec.preRow_of_cond 8 hx qG (fun k hk => by cases hk) qG (slLaid os))) ?_
 intro W base args ds gs before hval hW _ _ _ hL _ _
 exact slContract H enc W base args ds gs before hval hW hL
end Go.Proofs.YtdamegaedmckbaaGreatDoor
end
