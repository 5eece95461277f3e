/- The document's answer, layer 6: Parse (function 18). No further condition. -/
import Derived.Test.YtdamegaedmckbaaGreatDoorQP39
import Derived.Test.YtdamegaedmckbaaGreatDoorQP41
set_option linter.unusedSimpArgs false
set_option linter.unusedVariables false
set_option maxRecDepth 100000
set_option maxHeartbeats 4000000
section
namespace Go.Proofs.YtdamegaedmckbaaGreatDoor
open Go.RowKit
theorem Jl (wo : World) (R : Nat) (L : List UInt8) (k : Nat) (m0 neg : Bool) (h : Bh wo R L k 0 m0) (hL : L.length ≤ 100000) :
  Calls Tryz.prog 50 #[.pointer (some ⟨R, 0, none⟩), .bool neg] wo (Mb wo R L k m0 neg) := by
 cases neg
 ·exact S7 wo R L k m0 h hL
 ·exact So wo R L k m0 h hL
theorem Tu (w : World) (L : List UInt8) (hL : L.length < 1000000000) :
  Calls Tryz.prog 18 #[.string ⟨L.toArray⟩] w fun e w' => ∃ a n c, e = .returned (.tuple #[.slice a n c, .int .i64 (Cs L).2]) ∧ Bk w' w.heap.size a n c (Cs L).1 ∧ Below w.heap.size w w' := by
 go_enter Tryz.func18, Tryz.ntmps18
 by_cases h65 : 65536 < L.length
 ·have h65' : ¬ ((L.length : Int) ≤ 65536) := by omega
  have hz : Cs L = ([], 3) := by unfold Cs; rw [if_pos h65]
  rw [hz]
  go_wp2_with fail
  exact bodyPost_ret (v := .tuple #[.slice none 0 0, .int .i64 3]) (by simp [results, Tryz.results18, go_sem]) rfl ⟨none, 0, 0, rfl, Bk.nil _ _, Ac _ _⟩
 ·have h65' : (L.length : Int) ≤ 65536 := by omega
  have h65n : ¬ 65536 < L.length := h65
  go_wp2_with fail
  obtain ⟨R, hR⟩ : ∃ R, R = w.heap.size := ⟨_, rfl⟩
  refine Dv ?_
  intro W0 hW0
  have D0 : Bh W0 w.heap.size L 0 0 false := by rw [hW0]; exact ⟨by simp [go_sem], by simp [go_sem], by simp [go_sem], by simp [go_sem], by simp [go_sem], by simp [go_sem], by simp [go_sem], Nat.zero_le _⟩
  have B0 : Below w.heap.size w W0 := by rw [hW0]; go_grown
  have z0 : R < W0.heap.size := by rw [hR]; exact D0.lt
  clear hW0
  rw [← hR] at D0 B0
  rw [← hR]
  have HRw := Ae hR
  clear hR
  refine (Hq W0 R L 0 D0.le D0.c0 D0.c1 D0.f1 hL).mono ?_
  rintro e w1 ⟨rfl, k1, hk1, hdk1, hc1, hB1⟩
  have D1 := D0.but hB1 hc1 hk1
  have B1 : Below R w w1 := B0.trans hB1.below
  have HK1 : Hid (L.drop k1 = skp L) := Ae (by rw [hdk1, List.drop_zero]; rfl)
  clear D0 B0 hB1 hc1 hdk1
  go_wp2_with fail
  refine (Ev w1 R L k1 hk1 45 D1.c0 D1.c1 hL).mono ?_
  rintro e w2 ⟨rfl, n2, hw2⟩
  have D2 : Bh w2 R L k1 0 false := by rw [hw2]; exact D1.drewN n2
  have B2 : Below R w w2 := by rw [hw2]; exact Ay n2 B1
  clear hw2 D1 B1
  cases h45 : A6 (L.drop k1) 45
  ·go_wp2_with fail
   refine (Jl w2 R L k1 false false D2 qB).mono ?_
   rintro e w4 ⟨a4, n4, c4, k4, e4, m4, l4, rfl, hg4, D4, P4, hr4⟩
   replace P4 := P4.mono (B' := R + 1) (by have := D2.lt; omega)
   have B4 : Below R w w4 := B2.trans (Bq hg4 (Ad _) (by have := D2.lt; omega))
   have HS : Hid (Ml L (E4 L) k4 e4 m4 l4) := Ae (by rw [S8 L k1 k1 HK1.out (by rw [h45]; rfl), h45]; exact Ml.start qB hk1 hr4 D4.le)
   clear D2 B2 hg4 hr4 h45 HK1
   exact qAi
  ·have hlt := E9 h45
   have y1 := D2.c1
   have z1 := D2.f1
   go_wp2_with fail
   have D3 := D2.set1 (k1 + 1) hlt
   have hg3 := Aw (o := 1) (.int .i64 ((k1 + 1 : Nat) : Int)) (Bc w2 (some R))
   have B3 := B2.trans (Bq hg3 (Ad _) (by have := D2.lt; omega))
   rw [show ((k1 + 1 : Nat) : Int) = (k1 : Int) + 1 from rfl] at D3 B3
   clear D2 B2 y1 z1 hg3
   generalize w2.setCell ⟨R, 1, none⟩ (.int .i64 ((k1 : Int) + 1)) = w3 at *
   refine (Jl w3 R L (k1 + 1) false true D3 qB).mono ?_
   rintro e w4 ⟨a4, n4, c4, k4, e4, m4, l4, rfl, hg4, D4, P4, hr4⟩
   replace P4 := P4.mono (B' := R + 1) (by have := D3.lt; omega)
   have B4 : Below R w w4 := B3.trans (Bq hg4 (Ad _) (by have := D3.lt; omega))
   have HS : Hid (Ml L (E4 L) k4 e4 m4 l4) := Ae (by rw [S8 L k1 (k1 + 1) HK1.out (by rw [h45]; rfl), h45]; exact Ml.start qB hlt hr4 D4.le)
   clear D3 B3 hg4 hr4 h45 HK1
   exact qAi
theorem Rs (w : World) (a : Option Addr) (n c : Nat) (d : List Nat) (hd : RdL w a n c d) (a' : Option Addr) (c' : Nat) (hd' : RdL w a' n c' d) :
  Calls Tryz.prog 254 #[.slice a n c, .slice a' n c'] w fun e w' => e = .returned (.bool true) ∧ Below w.heap.size w w' := by
 have HB := Ac w.heap.size w
 have hfew := hd.few
 go_enter Tryz.func254, Tryz.ntmps254
 go_wp2_with fail
 go_loopw [5] (fun v wr => ∃ k : Nat, k ≤ n ∧ v = .int .i64 k ∧ Below w.heap.size w wr) (fun v _ => n - (intOf v).toNat)
 case atStart => exact ⟨0, by omega, rfl, HB⟩
 case round =>
  obtain ⟨k, hk, rfl, HB⟩ := hrel
  by_cases hlt : k < n
  ·obtain ⟨b, o, rfl, hc⟩ := (hd.keep HB).at' hlt
   obtain ⟨b', o', rfl, hc'⟩ := (hd'.keep HB).at' hlt
   generalize lim d k = x at *
   go_wp2_with fail
   go_quiet (fail)
   go_wp2_with fail
   go_roundw
   case rel => exact ⟨k + 1, by omega, by go_num, Ay _ HB⟩
   case measure => (first | (simp [intOf]; omega) | (simp [intOf]; done))
  ·exact qEp
theorem Pl (w : World) (g : Bool) (a : Option Addr) (n c : Nat) (d : List Nat) (hd : RdL w a n c d) (a' : Option Addr) (c' : Nat) (hd' : RdL w a' n c' d) :
  Calls Tryz.prog 205 #[.agg #[.bool g, .slice a n c], .agg #[.bool g, .slice a' n c']] w fun e w' => e = .returned (.bool true) ∧ Below w.heap.size w w' := by
 have HB := Ac w.heap.size w
 go_enter Tryz.func205, Tryz.ntmps205
 go_wp2_with (first | (go_at_call 254; refine (Rs _ a n c d (hd.keep qF) a' c' (hd'.keep qF)).mono ?_; rintro e w1 ⟨rfl, hb⟩; have HB1 := zD w hb))
 go_ret
 exact ⟨rfl, by first | assumption | go_grown⟩
theorem Vy (w : World) (g1 : Bool) (a1 : Option Addr) (n1 c1 : Nat) (d1 : List Nat) (h1 : RdL w a1 n1 c1 d1) (g2 : Bool) (a2 : Option Addr) (n2 c2 : Nat) (d2 : List Nat) (h2 : RdL w a2 n2 c2 d2) (a3 : Option Addr) (c3 : Nat) (h3 : RdL w a3 n1 c3 d1) (a4 : Option Addr) (c4 : Nat) (h4 : RdL w a4 n2 c4 d2) :
  Calls Tryz.prog 137 #[.agg #[.bool g1, .slice a1 n1 c1, .bool g2, .slice a2 n2 c2], .agg #[.bool g1, .slice a3 n1 c3, .bool g2, .slice a4 n2 c4]] w fun e w' => e = .returned (.bool true) ∧ Below w.heap.size w w' := by
 go_enter Tryz.func137, Tryz.ntmps137
 go_wp2_with fail
 refine Dv ?_
 intro W0 hW0
 have hb0 : Below w.heap.size w W0 := by rw [hW0]; go_grown
 have s2 : W0.cell? ⟨w.heap.size, 2, none⟩ = some (.bool g2) := by rw [hW0]; simp [go_sem]
 have s3 : W0.cell? ⟨w.heap.size, 3, none⟩ = some (.slice a2 n2 c2) := by rw [hW0]; simp [go_sem]
 have s6 : W0.cell? ⟨w.heap.size + 1, 2, none⟩ = some (.bool g2) := by rw [hW0]; simp [go_sem]
 have s7 : W0.cell? ⟨w.heap.size + 1, 3, none⟩ = some (.slice a4 n2 c4) := by rw [hW0]; simp [go_sem]
 clear hW0
 refine (Pl W0 g1 a1 n1 c1 d1 (h1.keep hb0) a3 c3 (h3.keep hb0)).mono ?_
 rintro e w1 ⟨rfl, hb1⟩
 replace s2 := Au hb1 s2; replace s3 := Au hb1 s3; replace s6 := Au hb1 s6; replace s7 := Au hb1 s7
 have hb01 := hb0.trans (hb1.mono hb0.size)
 go_wp2_with fail
 refine (Pl w1 g2 a2 n2 c2 d2 (h2.keep hb01) a4 c4 (h4.keep hb01)).mono ?_
 rintro e w2 ⟨rfl, hb2⟩
 go_wp2_with fail
 go_ret
 exact ⟨rfl, hb01.trans (hb2.mono hb01.size)⟩
theorem Vi (w : World) (s t : Tm) (hs : Gy w s) (ht : Gy w t) (e1 : s.g1 = t.g1) (e2 : s.d1 = t.d1) (e3 : s.g2 = t.g2) (e4 : s.d2 = t.d2) (q0 : s.m0 = t.m0) (q1 : s.m1 = t.m1) (q2 : s.m2 = t.m2) (q3 : s.m3 = t.m3) :
  Calls Tryz.prog 52 #[s.val, t.val] w fun e w' => e = .returned (.bool true) ∧ Below w.heap.size w w' := by
 obtain ⟨g1, a1, n1, c1, d1, g2, a2, n2, c2, d2, m0, m1, m2, m3⟩ := s
 obtain ⟨g1', a1', n1', c1', d1', g2', a2', n2', c2', d2', m0', m1', m2', m3'⟩ := t
 simp only at e1 e2 e3 e4 q0 q1 q2 q3
 subst e1 e2 e3 e4 q0 q1 q2 q3
 have h1 := hs.top
 have h2 := hs.low
 have h3 := ht.top
 have h4 := ht.low
 simp only at h1 h2 h3 h4
 obtain rfl : n1 = n1' := h1.len.symm.trans h3.len
 obtain rfl : n2 = n2' := h2.len.symm.trans h4.len
 show Calls Tryz.prog 52 #[.agg #[.bool g1, .slice a1 n1 c1, .bool g2, .slice a2 n2 c2, .int .u16 m0, .int .u16 m1, .int .u16 m2, .int .u16 m3], .agg #[.bool g1, .slice a1' n1 c1', .bool g2, .slice a2' n2 c2', .int .u16 m0, .int .u16 m1, .int .u16 m2, .int .u16 m3]] w _
 clear hs ht
 go_enter Tryz.func52, Tryz.ntmps52
 go_wp2_with fail
 refine Dv ?_
 intro W0 hW0
 have hb0 : Below w.heap.size w W0 := by rw [hW0]; go_grown
 have s0 : W0.cell? ⟨w.heap.size, 4, none⟩ = some (.int .u16 m0) := by rw [hW0]; simp [go_sem]
 have t0 : W0.cell? ⟨w.heap.size + 1, 4, none⟩ = some (.int .u16 m0) := by rw [hW0]; simp [go_sem]
 have s1 : W0.cell? ⟨w.heap.size, 5, none⟩ = some (.int .u16 m1) := by rw [hW0]; simp [go_sem]
 have t1 : W0.cell? ⟨w.heap.size + 1, 5, none⟩ = some (.int .u16 m1) := by rw [hW0]; simp [go_sem]
 have s2 : W0.cell? ⟨w.heap.size, 6, none⟩ = some (.int .u16 m2) := by rw [hW0]; simp [go_sem]
 have t2 : W0.cell? ⟨w.heap.size + 1, 6, none⟩ = some (.int .u16 m2) := by rw [hW0]; simp [go_sem]
 have s3 : W0.cell? ⟨w.heap.size, 7, none⟩ = some (.int .u16 m3) := by rw [hW0]; simp [go_sem]
 have t3 : W0.cell? ⟨w.heap.size + 1, 7, none⟩ = some (.int .u16 m3) := by rw [hW0]; simp [go_sem]
 clear hW0
 refine (Vy W0 g1 a1 n1 c1 d1 (h1.keep hb0) g2 a2 n2 c2 d2 (h2.keep hb0) a1' c1' (h3.keep hb0) a2' c2' (h4.keep hb0)).mono ?_
 rintro e w1 ⟨rfl, hb1⟩
 replace s0 := Au hb1 s0; replace t0 := Au hb1 t0; replace s1 := Au hb1 s1; replace t1 := Au hb1 t1; replace s2 := Au hb1 s2; replace t2 := Au hb1 t2; replace s3 := Au hb1 s3; replace t3 := Au hb1 t3
 have hb01 := hb0.trans (hb1.mono hb0.size)
 go_wp2_with fail
 go_ret
 exact ⟨by simp, hb01⟩
theorem Yr {s t : Tm} {x : PT} {w : World} (hs : Iv s x) (ht : Iv t x) (rs : Gy w s) (rt : Gy w t) : s.g1 = t.g1 ∧ s.d1 = t.d1 ∧ s.g2 = t.g2 ∧ s.d2 = t.d2 ∧ s.m0 = t.m0 ∧ s.m1 = t.m1 ∧ s.m2 = t.m2 ∧ s.m3 = t.m3 :=
 ⟨hs.g1.trans ht.g1.symm, hs.d1.trans ht.d1.symm, hs.g2.trans ht.g2.symm, hs.d2.trans ht.d2.symm, Sf rs.s0 rs.s1 rs.s2 rs.s3 rt.s0 rt.s1 rt.s2 rt.s3 (hs.key.trans ht.key.symm)⟩
theorem Nj (w : World) (B : Nat) (a : Option Addr) (n c : Nat) (l : List PT) (h : Bk w B a n c l) (B' : Nat) (a' : Option Addr) (n' c' : Nat) (h' : Bk w B' a' n' c' l) :
  Calls Tryz.prog 19 #[.slice a n c, .slice a' n' c'] w fun e w' => e = .returned (.bool true) ∧ Below w.heap.size w w' := by
 have HB := Ac w.heap.size w
 obtain rfl : n = n' := h.len.symm.trans h'.len
 obtain ⟨p, hp, hpx⟩ := h.ts
 obtain ⟨q, hq, hqx⟩ := h'.ts
 have hl := h.len
 have hfew := hp.few
 have HS : Hid (∀ k, k < n → (p k).g1 = (q k).g1 ∧ (p k).d1 = (q k).d1 ∧ (p k).g2 = (q k).g2 ∧ (p k).d2 = (q k).d2 ∧ (p k).m0 = (q k).m0 ∧ (p k).m1 = (q k).m1 ∧ (p k).m2 = (q k).m2 ∧ (p k).m3 = (q k).m3) := Ae fun k hk => by
  obtain ⟨x, hx⟩ : ∃ x, l[k]? = some x := ⟨_, Ai qB⟩
  exact Yr (hpx k x hx).1 (hqx k x hx).1 (hp.tm k hk) (hq.tm k hk)
 clear hpx hqx h h' hl
 go_enter Tryz.func19, Tryz.ntmps19
 go_wp2_with fail
 go_loopw [5] (fun v wr => ∃ k : Nat, k ≤ n ∧ v = .int .i64 k ∧ Below w.heap.size w wr) (fun v _ => n - (intOf v).toNat)
 case atStart => exact ⟨0, by omega, rfl, HB⟩
 case round =>
  obtain ⟨k, hk, rfl, HB⟩ := hrel
  by_cases hlt : k < n
  ·obtain ⟨b, o, rfl, _⟩ := hp.cell.resolve_left qB
   obtain ⟨b', o', rfl, _⟩ := hq.cell.resolve_left qB
   obtain ⟨e0, e1, e2, e3, e4, e5, e6, e7⟩ := (hp.keep HB).at hlt
   obtain ⟨i0, i1, i2, i3, i4, i5, i6, i7⟩ := (hq.keep HB).at hlt
   have hC := fun W (hW : Below w.heap.size w W) => Vi W (p k) (q k) ((hp.tm k hlt).keep hW) ((hq.tm k hlt).keep hW) (HS.out k hlt).1 (HS.out k hlt).2.1 (HS.out k hlt).2.2.1 (HS.out k hlt).2.2.2.1 (HS.out k hlt).2.2.2.2.1 (HS.out k hlt).2.2.2.2.2.1 (HS.out k hlt).2.2.2.2.2.2.1 (HS.out k hlt).2.2.2.2.2.2.2
   have HC := Ae hC
   clear hC
   go_wp2_with fail
   replace e0 := A8 e0; replace i0 := A8 i0; replace e1 := A8 e1; replace i1 := A8 i1; replace e2 := A8 e2; replace i2 := A8 i2; replace e3 := A8 e3; replace i3 := A8 i3; replace e4 := A8 e4; replace i4 := A8 i4; replace e5 := A8 e5; replace i5 := A8 i5; replace e6 := A8 e6; replace i6 := A8 i6; replace e7 := A8 e7; replace i7 := A8 i7
   (refine A9 qG qG ?_; (repeat (go_big_quiet_step (first | (go_at_call 52; exact Cz (HC.out _ (HB.trans (Below.mono (Subtype.property _) HB.size))))))); refine wpQuiet_nil ?_; intro _ hw0; obtain ⟨nq, hw0⟩ := hw0; subst hw0)
   obtain ⟨w3, hb3⟩ := nq
   try dsimp only
   go_wp2_with fail
   go_roundw
   case rel => exact ⟨k + 1, by omega, by go_num, HB.trans (hb3.mono HB.size)⟩
   case measure => (first | (simp [intOf]; omega) | (simp [intOf]; done))
  ·exact qEp
def gW (R : List UInt8) : Prop := ∀ b, R.head? = some b → b = 32 ∨ b = 9 ∨ b = 42 ∨ b = 43 ∨ b = 45
theorem Sg {L : List UInt8} {l : List PT} {e : Int} (h : Cs L = (l, e)) : PW l ∧ Da (1 + 3 * L.length) l ∧ l.length ≤ 1 + L.length := by
 have hnil : PW ([] : List PT) ∧ Da (1 + 3 * L.length) [] ∧ ([] : List PT).length ≤ 1 + L.length := ⟨⟨by simp, by simp, by simp⟩, fun t ht => (by cases ht), by simp⟩
 unfold Cs at h
 split at h
 ·cases h; exact hnil
 ·split at h
  ·cases h; exact hnil
  ·next l' m' hs =>
   have key : PW l' ∧ Da (1 + 3 * L.length) l' ∧ l'.length ≤ 1 + L.length := by
    unfold E4 at hs
    split at hs
    ·cases hs
    ·next l1 r m ht =>
     obtain ⟨g1, g2, g3⟩ := Ea ht
     obtain ⟨k1, k2, k3⟩ := Mg _ _ _ _ (Ad _) hs g1 g2
     have h1 := Ee ht
     have h2 := Ef L
     have h3 : (if A6 (skp L) 45 = true then (skp L).tail else skp L).length ≤ L.length := by
      split
      ·simp; omega
      ·omega
     exact ⟨k1, k2.mono qB, by omega⟩
   split at h
   ·cases h; exact hnil
   ·cases h; exact key
structure Hl where
 a : Option Addr
 b : Nat
 n : Nat
 c : Nat
 m : Nat
structure Cx (w : World) (e : TypeId) (s B0 B : Nat) (h : Hl) : Prop where
 le : h.n ≤ h.c
 few : h.n ≤ 1000000
 top : h.c ≤ maxLen
 lies : h.c = 0 ∨ (h.a = some ⟨h.b, 0, none⟩ ∧ B0 ≤ h.b ∧ h.b < B ∧ ∃ cur, w.heap[h.b]? = some (.cells cur e (0, 0)) ∧ h.c * s ≤ cur.size)
def C6 (p q : Hl × Value) : Prop := p.1.c ≠ 0 → q.1.c ≠ 0 → p.1.b ≠ q.1.b
def Cw (R : List (Hl × Value)) : List Value := R.flatMap fun p => [.slice p.1.a p.1.n p.1.c, p.2, .int .i64 p.1.m]
theorem Jw (R S : List (Hl × Value)) : Cw (R ++ S) = Cw R ++ Cw S := by simp [Cw]
theorem Lo (R : List (Hl × Value)) : (Cw R).length = R.length * 3 := by
 induction R with
 | nil => rfl
 | cons p R ih => show (_ ++ Cw R).length = _; rw [List.length_append, ih]; simp; omega
theorem Ww (R : List (Hl × Value)) (i : Nat) (p : Hl × Value) (h : R[i]? = some p) : (Cw R)[i * 3]? = some (.slice p.1.a p.1.n p.1.c) ∧ (Cw R)[i * 3 + 1]? = some p.2 ∧ (Cw R)[i * 3 + 2]? = some (.int .i64 p.1.m) := by
 induction R generalizing i with
 | nil => simp at h
 | cons q R ih =>
  have e : Cw (q :: R) = [.slice q.1.a q.1.n q.1.c, q.2, .int .i64 q.1.m] ++ Cw R := rfl
  rw [e]
  cases i with
  | zero => simp only [List.getElem?_cons_zero, Option.some.injEq] at h; subst h; simp
  | succ i =>
   have := ih i (by simpa using h)
   rw [List.getElem?_append_right qL, List.getElem?_append_right qL, List.getElem?_append_right qL]
   simp only [List.length_cons, List.length_nil, Nat.zero_add, Nat.reduceAdd]
   rw [show (i + 1) * 3 - 3 = i * 3 by omega, show (i + 1) * 3 + 1 - 3 = i * 3 + 1 by omega, show (i + 1) * 3 + 2 - 3 = i * 3 + 2 by omega]
   exact this
structure Dd (S : Nat → Prop) (w w' : World) : Prop where
 os : w'.os = w.os
 output : w'.output = w.output
 size : w.heap.size ≤ w'.heap.size
 block : ∀ g, g < w.heap.size → ¬ S g → w'.heap[g]? = w.heap[g]?
def inR (R : List (Hl × Value)) (g : Nat) : Prop := ∃ p ∈ R, p.1.c ≠ 0 ∧ g = p.1.b
structure Bx (w : World) (B0 B N : Nat) (Rl Rt : List (Hl × Value)) : Prop where
 c0 : w.cell? ⟨B, 0, none⟩ = some (.int .i64 (N : Nat))
 nl : ∀ j, j = 1 ∨ (3 ≤ j ∧ j ≤ 5) ∨ (7 ≤ j ∧ j ≤ 12) → w.cell? ⟨B, j, none⟩ = some (.slice none 0 0)
 fz : ∀ j, w.frozen? ⟨B, j, none⟩ = false
 l : ∃ v, w.cell? ⟨B, 2, none⟩ = some v ∧ w.ownsRow (B + 1) 144 3 v Rl.length (Cw Rl)
 t : ∃ v, w.cell? ⟨B, 6, none⟩ = some v ∧ w.ownsRow (B + 1) 139 3 v Rt.length (Cw Rt)
 hl : ∀ p ∈ Rl, Cx w 112 1 B0 B p.1
 ht : ∀ p ∈ Rt, Cx w 68 8 B0 B p.1
 al : Rl.Pairwise C6
 at' : Rt.Pairwise C6
theorem Cx.kept {w w' : World} {e : TypeId} {s B0 B : Nat} {h : Hl} (hh : Cx w e s B0 B h) (hb : h.c ≠ 0 → w'.heap[h.b]? = w.heap[h.b]?) : Cx w' e s B0 B h := by
 refine ⟨hh.le, hh.few, hh.top, ?_⟩
 rcases hh.lies with h0 | ⟨h1, h2, h3, cur, h4, h5⟩
 ·exact .inl h0
 ·by_cases h0 : h.c = 0
  ·exact .inl h0
  ·exact .inr ⟨h1, h2, h3, cur, by rw [hb h0]; exact h4, h5⟩
theorem Cx.keep {w w' : World} {e : TypeId} {s B0 B : Nat} {h : Hl} (hh : Cx w e s B0 B h) (hb : Below w.heap.size w w') : Cx w' e s B0 B h := by
 refine hh.kept fun h0 => ?_
 rcases hh.lies with h1 | ⟨_, _, _, cur, h4, _⟩
 ·exact absurd h1 h0
 ·exact hb.block _ (Ar.1 h4).1
theorem Cx.lt {w : World} {e : TypeId} {s B0 B : Nat} {h : Hl} (hh : Cx w e s B0 B h) (h0 : h.c ≠ 0) : h.b < B := by
 rcases hh.lies with h1 | ⟨_, _, h3, _⟩
 ·exact absurd h1 h0
 ·exact h3
theorem Cx.keepB {w w' : World} {e : TypeId} {s B0 B : Nat} {h : Hl} (hh : Cx w e s B0 B h) (hb : Below B w w') : Cx w' e s B0 B h := hh.kept fun h0 => hb.block _ (hh.lt h0)
theorem Cx.other {w : World} {e e' : TypeId} {s s' B0 B : Nat} {h : Hl} {R : List (Hl × Value)} (hh : Cx w e s B0 B h) (hR : ∀ p ∈ R, Cx w e' s' B0 B p.1) (hne : e ≠ e') (h0 : h.c ≠ 0) : ¬ inR R h.b := by
 rintro ⟨p, hp, hc, e1⟩
 rcases hh.lies with h1 | ⟨_, _, _, cur, h4, _⟩
 ·exact h0 h1
 ·rcases (hR p hp).lies with h1 | ⟨_, _, _, cur', h4', _⟩
  ·exact hc h1
  ·rw [e1, h4'] at h4
   simp only [Option.some.injEq, Obj.cells.injEq] at h4
   exact hne h4.2.1.symm
theorem Ju {w w' : World} {S : Nat → Prop} {base : Nat} {e : TypeId} {s n : Nat} {v : Value} {xs : List Value} (h : w.ownsRow base e s v n xs) (hb : Dd S w w') (hS : ∀ g, base ≤ g → ¬ S g) : w'.ownsRow base e s v n xs := by
 refine ⟨h.1, h.2.imp id fun ⟨g, cap, cur, h1, h2, h3, h4⟩ => ⟨g, cap, cur, h1, h2, ?_, h4⟩⟩
 rw [hb.block g (Ar.1 h3).1 (hS g h2)]
 exact h3
theorem Bx.keepS {w w' : World} {B0 B N : Nat} {Rl Rt : List (Hl × Value)} {S : Nat → Prop} (h : Bx w B0 B N Rl Rt) (hb : Dd S w w') (hS : ∀ g, B ≤ g → ¬ S g) (hl : ∀ p ∈ Rl, Cx w' 112 1 B0 B p.1) (ht : ∀ p ∈ Rt, Cx w' 68 8 B0 B p.1) : Bx w' B0 B N Rl Rt := by
 have hB : B < w.heap.size := Aa _ _ h.c0
 have hBb := hb.block B hB (hS B (Ad _))
 have hc : ∀ j, w'.cell? ⟨B, j, none⟩ = w.cell? ⟨B, j, none⟩ := fun j => Af (a := ⟨B, j, none⟩) hBb
 have hS' : ∀ g, B + 1 ≤ g → ¬ S g := fun g hg => hS g qB
 refine ⟨(hc 0).trans h.c0, fun j hj => (hc j).trans (h.nl j hj), fun j => (World.frozen?_of_block (a := ⟨B, j, none⟩) hBb).trans (h.fz j), ?_, ?_, hl, ht, h.al, h.at'⟩
 ·obtain ⟨v, h1, h2⟩ := h.l
  exact ⟨v, (hc 2).trans h1, Ju h2 hb hS'⟩
 ·obtain ⟨v, h1, h2⟩ := h.t
  exact ⟨v, (hc 6).trans h1, Ju h2 hb hS'⟩
theorem Ey {w w' : World} (h : Below w.heap.size w w') (S : Nat → Prop) : Dd S w w' := ⟨h.os, h.output, h.size, fun g hg _ => h.block g hg⟩
theorem Bx.keep {w w' : World} {B0 B N : Nat} {Rl Rt : List (Hl × Value)} (h : Bx w B0 B N Rl Rt) (hb : Below w.heap.size w w') : Bx w' B0 B N Rl Rt := by
 have hB : B < w.heap.size := Aa _ _ h.c0
 refine h.keepS (Ey hb (fun _ => False)) (fun _ _ => id) (fun p hp => (h.hl p hp).kept fun h0 => hb.block _ (by have := (h.hl p hp).lt h0; omega)) (fun p hp => (h.ht p hp).kept fun h0 => hb.block _ (by have := (h.ht p hp).lt h0; omega))
theorem Ie {w : World} {e : TypeId} {s B0 B : Nat} {R : List (Hl × Value)} (hR : ∀ p ∈ R, Cx w e s B0 B p.1) : ∀ g, B ≤ g → ¬ inR R g := by
 rintro g hg ⟨p, hp, hc, rfl⟩
 have := (hR p hp).lt hc
 omega
structure Dy (B : Nat) (w w' : World) : Prop where
 b : Below B w w'
 k : ∀ g, g < w.heap.size → g ≠ B → (∀ cur e fz, w.heap[g]? = some (.cells cur e fz) → e ≠ 144 ∧ e ≠ 139) → w'.heap[g]? = w.heap[g]?
theorem Dy.trans {B : Nat} {w w1 w2 : World} (h : Dy B w w1) (h' : Dy B w1 w2) : Dy B w w2 :=
 ⟨h.b.trans h'.b, fun g hg hB ht => by
  have e := h.k g hg hB ht
  rw [h'.k g (Nat.lt_of_lt_of_le hg h.b.size) hB (fun cur t fz hc => ht cur t fz (by rw [← e]; exact hc)), e]⟩
theorem Dy.of {B : Nat} {w w' : World} (h : Below w.heap.size w w') (hB : B ≤ w.heap.size) : Dy B w w' := ⟨h.mono hB, fun g hg _ _ => h.block g hg⟩
theorem Dy.box {B g : Nat} {w w' : World} {cur : Array Value} {e : TypeId} {fz : Nat × Nat} (h : Dy B w w') (hg : w.heap[g]? = some (.cells cur e fz)) (hB : g ≠ B) (h1 : e ≠ 144) (h2 : e ≠ 139) : w'.heap[g]? = some (.cells cur e fz) := by
 rw [h.k g (Ar.1 hg).1 hB (fun cur' e' fz' hc => by rw [hg] at hc; cases hc; exact ⟨h1, h2⟩)]
 exact hg
def C0 (w : World) (s : Nat) (mk : Nat → List Value) (b n m : Nat) : Prop := ∀ k, k < n → ∀ j, j < s → w.cell? ⟨b, k * s + j, none⟩ = (mk m)[j]?
end Go.Proofs.YtdamegaedmckbaaGreatDoor
end
