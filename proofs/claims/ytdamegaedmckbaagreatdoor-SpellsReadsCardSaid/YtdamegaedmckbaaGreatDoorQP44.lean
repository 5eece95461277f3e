/- A book: its lists of terms are filled with their marks. -/
import Derived.Test.YtdamegaedmckbaaGreatDoorQP43
set_option linter.unusedSimpArgs false
set_option linter.unusedVariables false
set_option maxRecDepth 100000
set_option maxHeartbeats 4000000
section
namespace Go.Proofs.YtdamegaedmckbaaGreatDoor
open Go.RowKit
def mkT (m : Nat) : List Value := [.bool false, .slice none 0 0, .bool false, .slice none 0 0, .int .u16 ((1 + m % 60000 : Nat) : Int), .int .u16 ((m / 60000 : Nat) : Int), .int .u16 0, .int .u16 0]
abbrev M9 (w : World) (b o m : Nat) : World := (((((((w.setCell ⟨b, o, none⟩ (.bool false)).setCell ⟨b, o + 1, none⟩ (.slice none 0 0)).setCell ⟨b, o + 2, none⟩ (.bool false)).setCell ⟨b, o + 3, none⟩ (.slice none 0 0)).setCell ⟨b, o + 4, none⟩ (.int .u16 (1 + (m : Int) % 60000))).setCell ⟨b, o + 5, none⟩ (.int .u16 ((m : Int) / 60000))).setCell ⟨b, o + 6, none⟩ (.int .u16 0)).setCell ⟨b, o + 7, none⟩ (.int .u16 0)
theorem Bx.putT {w : World} {B0 B N : Nat} {Rl Rt : List (Hl × Value)} (h : Bx w B0 B N Rl Rt) {b : Nat} (o m : Nat) (hb : inR Rl b ∨ inR Rt b) : Bx (M9 w b o m) B0 B N Rl Rt :=
 (((((((h.setL _ _ hb).setL _ _ hb).setL _ _ hb).setL _ _ hb).setL _ _ hb).setL _ _ hb).setL _ _ hb).setL _ _ hb
theorem X9 {S : Nat → Prop} {w w' : World} (h : Dd S w w') (b o m : Nat) (hb : S b) : Dd S w (M9 w' b o m) :=
 Dk (Dk (Dk (Dk (Dk (Dk (Dk (Dk h _ _ _ hb) _ _ _ hb) _ _ _ hb) _ _ _ hb) _ _ _ hb) _ _ _ hb) _ _ _ hb) _ _ _ hb
theorem L3 (w : World) (b o m g : Nat) (hg : g ≠ b) : (M9 w b o m).heap[g]? = w.heap[g]? := by
 unfold Go.Proofs.YtdamegaedmckbaaGreatDoor.M9
 repeat rw [Below.heap_setCell _ _ _ _ (by show g ≠ b; exact hg)]
theorem C0.nextT {w : World} {b k m : Nat} (h : C0 w 8 mkT b k m) (hc : ∀ j, j < 8 → ∃ u, w.cell? ⟨b, k * 8 + j, none⟩ = some u) : C0 (M9 w b (k * 8) m) 8 mkT b (k + 1) m := fun i hi j hj => by
 by_cases e : i = k
 ·subst e
  obtain ⟨u0, h0⟩ := hc 0 qB
  obtain ⟨u1, h1⟩ := hc 1 qB
  obtain ⟨u2, h2⟩ := hc 2 qB
  obtain ⟨u3, h3⟩ := hc 3 qB
  obtain ⟨u4, h4⟩ := hc 4 qB
  obtain ⟨u5, h5⟩ := hc 5 qB
  obtain ⟨u6, h6⟩ := hc 6 qB
  obtain ⟨u7, h7⟩ := hc 7 qB
  rw [Nat.add_zero] at h0
  match j, hj with
  | 0, _ => simp [*, go_sem, mkT]
  | 1, _ => simp [*, go_sem, mkT]
  | 2, _ => simp [*, go_sem, mkT]
  | 3, _ => simp [*, go_sem, mkT]
  | 4, _ => simp [*, go_sem, mkT]
  | 5, _ => simp [*, go_sem, mkT]
  | 6, _ => simp [*, go_sem, mkT]
  | 7, _ => simp [*, go_sem, mkT]
 ·have h1 := h i qB j hj
  rw [← h1]
  have ho : ∀ (W : World) (x : Nat) (v : Value), k * 8 ≤ x → (W.setCell ⟨b, x, none⟩ v).cell? ⟨b, i * 8 + j, none⟩ = W.cell? ⟨b, i * 8 + j, none⟩ := fun W x v hx => World.cell?_setCell_other (w := W) (a := ⟨b, x, none⟩) (b := ⟨b, i * 8 + j, none⟩) _ (by intro e'; injection e' with e1 e2; omega)
  unfold Go.Proofs.YtdamegaedmckbaaGreatDoor.M9
  rw [ho _ _ _ qB, ho _ _ _ qB, ho _ _ _ qB, ho _ _ _ qB, ho _ _ _ qB, ho _ _ _ qB, ho _ _ _ qB, ho _ _ _ qB]
theorem M6 (w : World) (m : Nat) (hm : m < 1000000000) : Calls Tryz.prog 144 #[.int .i64 (m : Nat)] w fun e w' => e = .returned (.agg #[.bool false, .slice none 0 0, .bool false, .slice none 0 0, .int .u16 ((1 + m % 60000 : Nat) : Int), .int .u16 ((m / 60000 : Nat) : Int), .int .u16 0, .int .u16 0]) ∧ Below w.heap.size w w' := by
 go_enter Tryz.func144, Tryz.ntmps144
 go_wp2_with fail
 refine bodyPost_ret (v := .agg #[.bool false, .slice none 0 0, .bool false, .slice none 0 0, .int .u16 ((1 + m % 60000 : Nat) : Int), .int .u16 ((m / 60000 : Nat) : Int), .int .u16 0, .int .u16 0]) (by simp [results, Tryz.results144, go_sem]) rfl ⟨rfl, by go_grown⟩
theorem Ua (w : World) (B0 B N : Nat) (Rl Rt : List (Hl × Value)) (h : Bx w B0 B N Rl Rt) (hz : ∀ p ∈ Rt, p.2 = .slice none 0 0) (hm : ∀ p ∈ Rt, p.1.m < 1000000000) (hk : Rt.length < 1000000000) :
  Calls Tryz.prog 60 #[.pointer (some ⟨B, 0, none⟩)] w fun e w' => e = .returned (.tuple #[]) ∧ Bx w' B0 B N Rl Rt ∧ (∀ p ∈ Rt, C0 w' 8 mkT p.1.b p.1.n p.1.m) ∧ Dd (inR Rt) w w' := by
 have HZ := Ae hz
 have HM := Ae hm
 clear hz hm
 have hBw : B < w.heap.size := Aa _ _ h.c0
 go_enter Tryz.func60, Tryz.ntmps60
 go_wp2_with fail
 go_loopw [2] (fun v2 wr => ∃ i : Nat, i ≤ Rt.length ∧ v2 = .int .i64 i ∧ Bx wr B0 B N Rl Rt ∧ Hid (∀ p ∈ Rt.take i, C0 wr 8 mkT p.1.b p.1.n p.1.m) ∧ Dd (inR Rt) w wr) (fun v2 _ => Rt.length - (intOf v2).toNat)
 case atStart => exact ⟨0, by omega, rfl, h, Ae qH, Fg _ _⟩
 case round =>
  obtain ⟨i, hi, rfl, hBk, hF, hS⟩ := hrel
  obtain ⟨vl, c2, hown⟩ := hBk.t
  by_cases hlt : i < Rt.length
  ·obtain ⟨⟨⟨a, b, n, c, m⟩, v⟩, hq⟩ : ∃ q, Rt[i]? = some q := ⟨_, Ai hlt⟩
   have hqm := List.mem_of_getElem? hq
   obtain rfl : v = .slice none 0 0 := HZ.out _ hqm
   have hmm : m < 1000000000 := HM.out _ hqm
   obtain ⟨g, cap, rfl, hg, hcl⟩ := Gd hown (by intro e; rw [e] at hlt; simp at hlt)
   obtain ⟨e0, e1, e2⟩ := hcl i _ hq
   have HAP := Ae (Mv hBk.at' hq)
   have HNX := Ae (He hq)
   have HIN : c ≠ 0 → inR Rt b := fun h0 => ⟨_, hqm, h0, rfl⟩
   have HINH := Ae HIN
   have hHs := hS.size
   clear hcl hown HIN
   simp only at e0 e1 e2
   go_wp2_with fail
   refine Ck ?_
   intro w2 hw2
   have hb2 : Below wr.heap.size wr w2 := by rw [hw2]; go_grown
   have b0 : w2.cell? ⟨wr.heap.size, 0, none⟩ = some (.slice a n c) := by rw [hw2]; simp [*, go_sem]
   have b2 : w2.cell? ⟨wr.heap.size, 2, none⟩ = some (.int .i64 (m : Nat)) := by rw [hw2]; simp [*, go_sem]
   clear hw2 e0 e1 e2
   have hBk2 := hBk.keep hb2
   have hF2 := Ae (fun p hp => (hF.out p hp).keep hb2 (by simp [mkT]) qB)
   have hS2 := Em hS hb2
   clear hBk hF hS hb2 c2
   generalize wr.heap.size = H at *
   go_loopw [4] (fun v4 wi => ∃ k : Nat, k ≤ n ∧ v4 = .int .i64 k ∧ Bx wi B0 B N Rl Rt ∧ Hid (∀ p ∈ Rt.take i, C0 wi 8 mkT p.1.b p.1.n p.1.m) ∧ Hid (C0 wi 8 mkT b k m) ∧ Dd (inR Rt) w wi ∧ wi.cell? ⟨H, 0, none⟩ = some (.slice a n c) ∧ wi.cell? ⟨H, 2, none⟩ = some (.int .i64 (m : Nat))) (fun v4 _ => n - (intOf v4).toNat)
   case atStart => exact ⟨0, by omega, rfl, hBk2, hF2, Ae (fun k hk => by omega), hS2, b0, b2⟩
   case round =>
    clear hBk2 hF2 hS2 b0 b2
    obtain ⟨k, hkn, rfl, hBk, hF, hF1, hS, b0, b2⟩ := hrel
    by_cases hkl : k < n
    ·have hh := hBk.ht _ hqm
     have hle : n ≤ c := hh.le
     have hfw : n ≤ 1000000 := hh.few
     have hc0 : c ≠ 0 := by omega
     rcases hh.lies with h0 | ⟨h1, h2, h3, _⟩
     ·exact absurd h0 hc0
     ·obtain rfl : a = some ⟨b, 0, none⟩ := h1
      have hbl : b < wr.heap.size := by have : b < B := h3; have := Aa _ _ hBk.c0; simp at this; omega
      obtain ⟨⟨u0, hu0⟩, hfz0⟩ := hh.there (o := k * 8) (by show k * 8 < c * 8; omega)
      obtain ⟨⟨u1, hu1⟩, hfz1⟩ := hh.there (o := k * 8 + 1) (by show k * 8 + 1 < c * 8; omega)
      obtain ⟨⟨u2, hu2⟩, hfz2⟩ := hh.there (o := k * 8 + 2) (by show k * 8 + 2 < c * 8; omega)
      obtain ⟨⟨u3, hu3⟩, hfz3⟩ := hh.there (o := k * 8 + 3) (by show k * 8 + 3 < c * 8; omega)
      obtain ⟨⟨u4, hu4⟩, hfz4⟩ := hh.there (o := k * 8 + 4) (by show k * 8 + 4 < c * 8; omega)
      obtain ⟨⟨u5, hu5⟩, hfz5⟩ := hh.there (o := k * 8 + 5) (by show k * 8 + 5 < c * 8; omega)
      obtain ⟨⟨u6, hu6⟩, hfz6⟩ := hh.there (o := k * 8 + 6) (by show k * 8 + 6 < c * 8; omega)
      obtain ⟨⟨u7, hu7⟩, hfz7⟩ := hh.there (o := k * 8 + 7) (by show k * 8 + 7 < c * 8; omega)
      have hbH : b ≠ H := by have : b < B := h3; omega
      simp only at hu0 hfz0 hu1 hfz1 hu2 hfz2 hu3 hfz3 hu4 hfz4 hu5 hfz5 hu6 hfz6 hu7 hfz7
      clear hh h3 h2
      go_wp2_with fail
      go_region_held3 (fun W => W.cell? ⟨H, 0, none⟩ = some (.slice (some ⟨b, 0, none⟩) n c) ∧ W.cell? ⟨H, 2, none⟩ = some (.int .i64 (m : Nat))) (first | ((try dsimp only); (repeat' apply And.intro); all_goals (first | (with_reducible assumption) | (go_keep; done) | (simp [*, go_sem]; done)))) ((go_at_call 144; (with_reducible refine (M6 _ m hmm).mono ?_); rintro e w5 ⟨rfl, hb5⟩; have hbw := zD wr hb5; have hz5 := hb5.size; have b0' : w5.cell? ⟨H, 0, none⟩ = some (.slice (some ⟨b, 0, none⟩) n c) := Au hb5 qM; have b2' : w5.cell? ⟨H, 2, none⟩ = some (.int .i64 (m : Nat)) := Au hb5 qM; have v0 : w5.cell? ⟨b, k * 8, none⟩ = some u0 := Au hb5 qM; have z0 : w5.frozen? ⟨b, k * 8, none⟩ = false := (Ab hb5 qL).trans qM; have v1 : w5.cell? ⟨b, k * 8 + 1, none⟩ = some u1 := Au hb5 qM; have z1 : w5.frozen? ⟨b, k * 8 + 1, none⟩ = false := (Ab hb5 qL).trans qM; have v2 : w5.cell? ⟨b, k * 8 + 2, none⟩ = some u2 := Au hb5 qM; have z2 : w5.frozen? ⟨b, k * 8 + 2, none⟩ = false := (Ab hb5 qL).trans qM; have v3 : w5.cell? ⟨b, k * 8 + 3, none⟩ = some u3 := Au hb5 qM; have z3 : w5.frozen? ⟨b, k * 8 + 3, none⟩ = false := (Ab hb5 qL).trans qM; have v4 : w5.cell? ⟨b, k * 8 + 4, none⟩ = some u4 := Au hb5 qM; have z4 : w5.frozen? ⟨b, k * 8 + 4, none⟩ = false := (Ab hb5 qL).trans qM; have v5 : w5.cell? ⟨b, k * 8 + 5, none⟩ = some u5 := Au hb5 qM; have z5 : w5.frozen? ⟨b, k * 8 + 5, none⟩ = false := (Ab hb5 qL).trans qM; have v6 : w5.cell? ⟨b, k * 8 + 6, none⟩ = some u6 := Au hb5 qM; have z6 : w5.frozen? ⟨b, k * 8 + 6, none⟩ = false := (Ab hb5 qL).trans qM; have v7 : w5.cell? ⟨b, k * 8 + 7, none⟩ = some u7 := Au hb5 qM; have z7 : w5.frozen? ⟨b, k * 8 + 7, none⟩ = false := (Ab hb5 qL).trans qM))
      go_wp2_with fail
      have hin := HINH.out hc0
      have hd : Below (M9 w5 b (k * 8) m).heap.size (M9 w5 b (k * 8) m) (M9 w5 b (k * 8) m) := Ac _ _
      have hF' : Hid (∀ p ∈ Rt.take i, C0 (M9 w5 b (k * 8) m) 8 mkT p.1.b p.1.n p.1.m) := Ae fun p hp => by
       refine C0.keep (s := 8) (mk := mkT) (((hF.out p hp).keep hbw (by simp [mkT]) qB).congr ?_) hd (by simp [mkT]) qB
       by_cases hp0 : p.1.c = 0
       ·have := (hBk.ht p (List.mem_of_mem_take hp)).le
        exact .inl qB
       ·exact .inr (L3 _ _ _ _ _ (HAP.out p hp hp0 hc0))
      have hF1' : Hid (C0 (M9 w5 b (k * 8) m) 8 mkT b (k + 1) m) := Ae (C0.keep (s := 8) (mk := mkT) ((hF1.out.keep hbw (by simp [mkT]) qB).nextT fun j hj => by
       match j, hj with
       | 0, _ => exact ⟨_, v0⟩
       | 1, _ => exact ⟨_, v1⟩
       | 2, _ => exact ⟨_, v2⟩
       | 3, _ => exact ⟨_, v3⟩
       | 4, _ => exact ⟨_, v4⟩
       | 5, _ => exact ⟨_, v5⟩
       | 6, _ => exact ⟨_, v6⟩
       | 7, _ => exact ⟨_, v7⟩) hd (by simp [mkT]) qB)
      have hbH' : H ≠ b := fun e => hbH e.symm
      have c0' : (M9 w5 b (k * 8) m).cell? ⟨H, 0, none⟩ = some (.slice (some ⟨b, 0, none⟩) n c) := Au hd ((Af (a := ⟨H, 0, none⟩) (L3 w5 b (k * 8) m H hbH')).trans b0')
      have c2' : (M9 w5 b (k * 8) m).cell? ⟨H, 2, none⟩ = some (.int .i64 (m : Nat)) := Au hd ((Af (a := ⟨H, 2, none⟩) (L3 w5 b (k * 8) m H hbH')).trans b2')
      have hS' := Em (X9 (Em hS hbw) b (k * 8) m hin) hd
      have hBk' := ((hBk.keep hbw).putT (k * 8) m (.inr hin)).keep hd
      exact qDv
    ·obtain rfl : k = n := by omega
     have hF' := Ae (show ∀ p ∈ Rt.take (i + 1), C0 wr 8 mkT p.1.b p.1.n p.1.m from fun p hp => by
      rw [HNX.out] at hp
      rcases List.mem_append.1 hp with hp | hp
      ·exact hF.out p hp
      ·simp only [Ao] at hp
       subst hp
       exact hF1.out)
     exact qDr
  ·obtain rfl : i = Rt.length := by omega
   obtain ⟨ao, co, rfl⟩ := Hg hown
   have hF' := hF.out
   rw [As (Ad _)] at hF'
   clear hF
   have HF := Ae hF'
   clear hF'
   go_wp2_with fail
   exact bodyPost_end (v := .tuple #[]) (by simp [results, Tryz.results60, go_sem]) rfl ⟨rfl, hBk, HF.out, hS⟩
def Cm (mk : Nat → List Value) (m n : Nat) : List Value := (List.replicate n (mk m)).flatten
theorem Kc (mk : Nat → List Value) (m n s : Nat) (h : (mk m).length = s) : (Cm mk m n).length = n * s := by
 unfold Cm; simp [h]
theorem Iq (mk : Nat → List Value) (m n k : Nat) : Cm mk m (n + k) = Cm mk m n ++ Cm mk m k := by
 unfold Cm; rw [← List.replicate_append_replicate, List.flatten_append]
theorem Nr (mk : Nat → List Value) (m s : Nat) (h : (mk m).length = s) (n k j : Nat) (hk : k < n) (hj : j < s) : (Cm mk m n)[k * s + j]? = (mk m)[j]? := by
 induction n generalizing k with
 | zero => omega
 | succ n ih =>
  have e : Cm mk m (n + 1) = mk m ++ Cm mk m n := by unfold Cm; rw [List.replicate_succ, List.flatten_cons]
  rw [e]
  cases k with
  | zero => rw [Nat.zero_mul, Nat.zero_add, List.getElem?_append_left qB]
  | succ k =>
   rw [List.getElem?_append_right (by rw [h, Nat.succ_mul]; omega), h, Nat.succ_mul, show k * s + s + j - s = k * s + j by omega]
   exact ih k qB
theorem K9 {w : World} {s g n m : Nat} {mk : Nat → List Value} (hs : (mk m).length = s) (h : ∀ j, j < n * s → w.cell? ⟨g, j, none⟩ = (Cm mk m n)[j]?) : C0 w s mk g n m := fun k hk j hj => by
 rw [h _ (by have : (k + 1) * s ≤ n * s := Nat.mul_le_mul_right _ hk; rw [Nat.succ_mul] at this; omega)]
 exact Nr mk m s hs n k j hk hj
theorem C0.cells {w : World} {s g n m : Nat} {mk : Nat → List Value} (hs : (mk m).length = s) (h0 : 0 < s) (h : C0 w s mk g n m) : ∀ j u, (Cm mk m n)[j]? = some u → w.cell? ⟨g, 0 + j, none⟩ = some u := fun j u hu => by
 have hj : j < n * s := by rw [← Kc mk m n s hs]; exact (List.getElem?_eq_some_iff.1 hu).1
 have e : j = j / s * s + j % s := by rw [Nat.mul_comm]; exact (Nat.div_add_mod j s).symm
 have hk : j / s < n := by rw [Nat.div_lt_iff_lt_mul h0]; exact hj
 have hm := Nat.mod_lt j h0
 rw [Nat.zero_add, e, h _ hk _ hm, ← Nr mk m s hs n _ _ hk hm, ← e]
 exact hu
theorem Cx.came {w : World} {e : TypeId} {s B0 B : Nat} {h : Hl} {mk : Nat → List Value} (hh : Cx w e s B0 B h) (hs : (mk h.m).length = s) (h0 : 0 < s) (hF : C0 w s mk h.b h.n h.m) : Came w s h.a h.b 0 h.n h.c (Cm mk h.m h.n) := by
 have hl : 0 < h.c → h.a = some ⟨h.b, 0, none⟩ ∧ ∃ cur, w.heap[h.b]? = some (.cells cur e (0, 0)) := fun hc => by
  rcases hh.lies with h1 | ⟨h1, _, _, cur, h4, _⟩
  ·omega
  ·exact ⟨h1, cur, h4⟩
 refine ⟨hh.le, fun hc => (hl hc).1, fun hc => ?_, Kc _ _ _ _ hs, hF.cells hs h0, fun j hj => ?_⟩
 ·obtain ⟨_, cur, h4⟩ := hl hc
  exact (Ar.1 h4).1
 ·have hlt : h.n * s + j < h.c * s := by
   have := Nat.sub_mul h.c h.n s
   have := Nat.mul_le_mul_right s hh.le
   omega
  obtain ⟨⟨v, hv⟩, hf⟩ := hh.there hlt
  rw [Nat.zero_add]
  exact ⟨by rw [hv]; rfl, hf⟩
def E5 (w : World) (s : Nat) (mk : Nat → List Value) (H : Nat) (h : Hl) (v : Value) : Prop :=
 C0 w s mk h.b h.n h.m ∧ ∃ g c, v = .slice (some ⟨g, 0, none⟩) (h.n + 40) c ∧ h.n + 40 ≤ c ∧ C0 w s mk g (h.n + 40) h.m ∧ ((h.c ≠ 0 ∧ g = h.b) ∨ H ≤ g) ∧ g < w.heap.size
theorem E5.keepS {w w' : World} {s H : Nat} {mk : Nat → List Value} {h : Hl} {v : Value} {S : Nat → Prop} (hg : E5 w s mk H h v) (hb : Dd S w w') (h1 : h.n = 0 ∨ (h.b < w.heap.size ∧ ¬ S h.b)) (h2 : h.c ≠ 0 → ¬ S h.b) (h3 : ∀ g, H ≤ g → g < w.heap.size → ¬ S g) : E5 w' s mk H h v := by
 obtain ⟨hF, g, c, hv, hc, hF2, hor, hlt⟩ := hg
 refine ⟨hF.congr (h1.imp id fun h => hb.block _ h.1 h.2), g, c, hv, hc, hF2.congr (.inr (hb.block _ hlt ?_)), hor, Nat.lt_of_lt_of_le hlt hb.size⟩
 rcases hor with ⟨h5, rfl⟩ | h5
 ·exact h2 h5
 ·exact h3 g h5 hlt
theorem Ou {W : World} {e : TypeId} {size : Nat} {ao : Option Addr} {b off len cap : Nat} {olds : List Value} {w w' : World} {v : Value} {m : Nat} {ks : List Value} {r : Nat} (h : Upon W e size ao b off len cap olds w v m ks r) (hc : Came W size ao b off len cap olds) (hb : Below w.heap.size w w') : Upon W e size ao b off len cap olds w' v m ks r :=
 h.carry hc hb.os hb.output (fun i hi => hb.block i (Nat.lt_of_lt_of_le hi h.kept.size)) (fun g _ hg => hb.block g hg)
theorem Kb {W w : World} {e : TypeId} {s H : Nat} {h : Hl} {mk : Nat → List Value} {v : Value} {r : Nat} (hs : (mk h.m).length = s) (h0 : 0 < s) (hc : Came W s h.a h.b 0 h.n h.c (Cm mk h.m h.n)) (hF : C0 W s mk h.b h.n h.m) (hU : Upon W e s h.a h.b 0 h.n h.c (Cm mk h.m h.n) w v 40 (Cm mk h.m 40) r) (hH : H ≤ W.heap.size) (hW : 0 < h.n → 0 < h.c) :
  E5 w s mk H h v := by
 have hFb : C0 w s mk h.b h.n h.m := fun k hk j hj => by
  rw [hU.old (hc.lt (hW qB)) (fun j' _ ⟨_, e'⟩ => by
   have h1 : (k + 1) * s ≤ h.n * s := Nat.mul_le_mul_right _ hk
   rw [Nat.succ_mul] at h1
   omega)]
  exact hF k hk j hj
 refine ⟨hFb, ?_⟩
 rcases hU.val with ⟨hle, rfl, hr⟩ | ⟨_, g, c', rfl, ho⟩
 ·have hcp : 0 < h.c := by omega
  refine ⟨h.b, h.c, by rw [hc.addr hcp], hle, ?_, .inl ⟨by omega, rfl⟩, ?_⟩
  ·refine K9 hs fun j hj => ?_
   have := hU.inArray hc hcp hr j hj
   rw [Nat.zero_add] at this
   rw [this, Iq]
  ·exact Nat.lt_of_lt_of_le (hc.lt hcp) hU.kept.size
 ·have hF2 : C0 w s mk g (h.n + 40) h.m := K9 hs fun j hj => by rw [ho.holds j hj, Iq]
  refine ⟨g, c', rfl, ho.le, hF2, .inr (Ah hH ho.new), ?_⟩
  have h1 : 0 < c' * s := Nat.mul_pos (by have := ho.le; omega) h0
  obtain ⟨u, hu⟩ := Option.isSome_iff_exists.1 (ho.there 0 h1).1
  exact Aa _ _ hu
theorem Ow {W w : World} {e : TypeId} {s : Nat} {ao : Option Addr} {b off len cap : Nat} {olds : List Value} {v : Value} {m : Nat} {ks : List Value} {r : Nat} (h : Upon W e s ao b off len cap olds w v m ks r) : Dd (fun g => cap ≠ 0 ∧ g = b) W w :=
 ⟨h.kept.1, h.kept.2.1, h.kept.size, fun g hg hs => h.kept.block hg fun p ⟨j, hj, e'⟩ he => hs ⟨by have := h.capPos hj; omega, by rw [← he, e']; rfl⟩⟩
theorem I6 {W w : World} {e : TypeId} {s : Nat} {ao : Option Addr} {b off len cap : Nat} {olds : List Value} {v : Value} {m : Nat} {ks : List Value} {r : Nat} (h : Upon W e s ao b off len cap olds w v m ks r) {x o : Nat} {u : Value} (hx : W.cell? ⟨x, o, none⟩ = some u) (hne : cap ≠ 0 → x ≠ b) : w.cell? ⟨x, o, none⟩ = some u := by
 rw [h.old (Aa _ _ hx) (fun j hj ⟨e1, _⟩ => hne (by have := h.capPos hj; omega) e1)]
 exact hx
theorem Dd.wide {S T : Nat → Prop} {w w' : World} (h : Dd S w w') (hST : ∀ g, S g → T g) : Dd T w w' := ⟨h.os, h.output, h.size, fun g hg hs => h.block g hg fun e => hs (hST g e)⟩
theorem Pi (R S : List (Hl × Value)) (q : Hl) (u v : Value) : (Cw (R ++ (q, u) :: S)).set (R.length * 3 + 1) v = Cw (R ++ (q, v) :: S) := by
 rw [Jw, Jw, List.set_append_right _ _ (by rw [Lo]; omega), Lo]
 congr 1
 rw [show R.length * 3 + 1 - R.length * 3 = 1 by omega]
 rfl
theorem Jy {α : Type} {R : List α} {i : Nat} {q : α} (h : R[i]? = some q) : R.drop i = q :: R.drop (i + 1) := by
 obtain ⟨hlt, e⟩ := List.getElem?_eq_some_iff.1 h
 rw [List.drop_eq_getElem_cons hlt, e]
theorem Sw {R R' : List (Hl × Value)} {i : Nat} {q : Hl × Value} (h : R'.map (·.1) = (R.take i).map (·.1)) (hq : R[i]? = some q) (v : Value) : (R' ++ [(q.1, v)]).map (·.1) = (R.take (i + 1)).map (·.1) := by
 rw [He hq, List.map_append, List.map_append, h]
 rfl
theorem O5 {R R' : List (Hl × Value)} {i : Nat} (h : R'.map (·.1) = (R.take i).map (·.1)) {p : Hl × Value} (hp : p ∈ R') : ∃ q ∈ R.take i, q.1 = p.1 := by
 have : p.1 ∈ R'.map (·.1) := List.mem_map.2 ⟨p, hp, rfl⟩
 rw [h, List.mem_map] at this
 exact this
theorem K4 {R R' : List (Hl × Value)} {i : Nat} (h : R'.map (·.1) = (R.take i).map (·.1)) (hi : i ≤ R.length) : R'.length = i := by
 have := congrArg List.length h
 simp at this
 omega
theorem Oz {w : World} {e : TypeId} {s B0 B i : Nat} {R R' : List (Hl × Value)} (hR : ∀ p ∈ R, Cx w e s B0 B p.1) (h : R'.map (·.1) = (R.take i).map (·.1)) {p : Hl × Value} (hp : p ∈ R') : Cx w e s B0 B p.1 := by
 obtain ⟨q, hq, e1⟩ := O5 h hp
 rw [← e1]
 exact hR q (List.mem_of_mem_take hq)
theorem Cx.nb {w : World} {e : TypeId} {s B0 B : Nat} {h : Hl} (hh : Cx w e s B0 B h) : h.n = 0 ∨ (h.c ≠ 0 ∧ h.b < B) := by
 have := hh.le
 by_cases h0 : h.c = 0
 ·exact .inl qB
 ·exact .inr ⟨h0, hh.lt h0⟩
theorem E5.stay {w w' : World} {s H B b g : Nat} {mk : Nat → List Value} {h : Hl} {v : Value} {c : Nat} (hg : E5 w s mk H h v) (hb : Dd (fun x => (c ≠ 0 ∧ x = b) ∨ x = g) w w') (hn : h.n = 0 ∨ (h.c ≠ 0 ∧ h.b < B)) (hap : h.c ≠ 0 → c ≠ 0 → h.b ≠ b) (hbB : c ≠ 0 → b < B) (hgB : B < g) (hgH : g < H) (hlB : h.c ≠ 0 → h.b < B) (hBw : B < w.heap.size) : E5 w' s mk H h v := by
 refine hg.keepS hb (hn.imp id fun h1 => ⟨by have := h1.2; omega, fun e => ?_⟩) (fun h0 e => ?_) (fun x hx hx2 e => ?_)
 ·rcases e with ⟨e1, e2⟩ | e
  ·exact hap h1.1 e1 e2
  ·have := h1.2; omega
 ·have := hlB h0
  rcases e with ⟨e1, e2⟩ | e
  ·exact hap h0 e1 e2
  ·omega
 ·rcases e with ⟨e1, e2⟩ | e
  ·have := hbB e1; omega
  ·omega
theorem Vt (w : World) (B0 B : Nat) (Rl : List (Hl × Value)) (hhl : ∀ p ∈ Rl, Cx w 112 1 B0 B p.1) (hal : Rl.Pairwise C6) (hF : ∀ p ∈ Rl, C0 w 1 mkL p.1.b p.1.n p.1.m) (hz : ∀ p ∈ Rl, p.2 = .slice none 0 0) (hm : ∀ p ∈ Rl, p.1.m < 1000000000) (hk : Rl.length < 1000000000)
  (vl : Value) (hc2 : w.cell? ⟨B, 2, none⟩ = some vl) (hown : w.ownsRow (B + 1) 144 3 vl Rl.length (Cw Rl)) :
  Calls Tryz.prog 68 #[.pointer (some ⟨B, 0, none⟩)] w fun e w' => e = .returned (.tuple #[]) ∧ ∃ R' : List (Hl × Value), R'.map (·.1) = Rl.map (·.1) ∧ w'.ownsRow (B + 1) 144 3 vl Rl.length (Cw R') ∧ (∀ p ∈ R', E5 w' 1 mkL w.heap.size p.1 p.2) ∧ Dd (fun g => inR Rl g ∨ vl.ownBlock = some g) w w' := by
 have HZ := Ae hz
 have HM := Ae hm
 have HFF := Ae hF
 have HBH := Ae hhl
 have HBA := Ae hal
 have hBw : B < w.heap.size := Aa _ _ hc2
 have hgt := I0 hown
 obtain ⟨ao, co, rfl⟩ := Hg hown
 obtain ⟨i0, hi', hz0, hz1, hz2⟩ := info_parts Cu
 clear hz hm hF hhl hal
 go_enter Tryz.func68, Tryz.ntmps68
 go_wp2_with fail
 go_loopw [2] (fun v2 wr => ∃ (i : Nat) (R' : List (Hl × Value)), i ≤ Rl.length ∧ v2 = .int .i64 i ∧ Hid (R'.map (·.1) = (Rl.take i).map (·.1)) ∧ wr.ownsRow (B + 1) 144 3 (.slice ao Rl.length co) Rl.length (Cw (R' ++ Rl.drop i)) ∧ Hid (∀ p ∈ R', E5 wr 1 mkL w.heap.size p.1 p.2) ∧ Dd (fun g => inR (Rl.take i) g ∨ (Value.slice ao Rl.length co).ownBlock = some g) w wr) (fun v2 _ => Rl.length - (intOf v2).toNat)
 case atStart => exact ⟨0, [], by omega, rfl, Ae qH, by simpa using hown, Ae qH, Ey qF _⟩
 case round =>
  obtain ⟨i, R', hi, rfl, hMp, hownr, hGr, hS⟩ := hrel
  have c2 : wr.cell? ⟨B, 2, none⟩ = some (.slice ao Rl.length co) := (Af (a := ⟨B, 2, none⟩) (hS.block B hBw (fun e => e.elim (fun ⟨p, hp, hpc, he⟩ => by have := (HBH.out p (List.mem_of_mem_take hp)).lt hpc; omega) (fun e => by have := hgt _ e; omega)))).trans hc2
  by_cases hlt : i < Rl.length
  ·obtain ⟨⟨⟨a, b, n, c, m⟩, v⟩, hq⟩ : ∃ q, Rl[i]? = some q := ⟨_, Ai hlt⟩
   have hqm := List.mem_of_getElem? hq
   obtain rfl : v = .slice none 0 0 := HZ.out _ hqm
   have hmm : m < 1000000000 := HM.out _ hqm
   have hRl := K4 hMp.out hi
   have hRlen : (R' ++ Rl.drop i).length = Rl.length := by rw [List.length_append, List.length_drop]; omega
   obtain ⟨g, cap, hv, hg, hcl⟩ := Gd (R := R' ++ Rl.drop i) (by rw [hRlen]; exact hownr) (by intro e; rw [e] at hRlen; simp at hRlen; omega)
   simp only [Value.slice.injEq] at hv
   obtain ⟨rfl, -, rfl⟩ := hv
   obtain ⟨e0, e1, e2⟩ := hcl i (⟨a, b, n, c, m⟩, .slice none 0 0) (by rw [List.getElem?_append_right qB, hRl, Nat.sub_self, Jy hq]; rfl)
   have hnS : c ≠ 0 → ¬ (inR (Rl.take i) b ∨ (Value.slice (some ⟨g, 0, none⟩) Rl.length co).ownBlock = some b) := fun hc0 e => by
    exact qDg
   have hblt : c ≠ 0 → b < w.heap.size := fun hc0 => by have : b < B := (HBH.out _ hqm).lt hc0; omega
   have hh0 := (HBH.out _ hqm).kept fun hc0 => hS.block b (hblt hc0) (hnS hc0)
   have hle : n ≤ c := hh0.le
   have hfw : n ≤ 1000000 := hh0.few
   have hF0 : C0 wr 1 mkL b n m := (HFF.out _ hqm).congr (by
    by_cases hc0 : c = 0
    ·exact .inl (show n = 0 by omega)
    ·exact .inr (hS.block b (hblt hc0) (hnS hc0)))
   have HH := Ae hh0
   have HF0 := Ae hF0
   have HNS := Ae hnS
   have hbB : c ≠ 0 → b < B := fun hc0 => hh0.lt hc0
   have HbB := Ae hbB
   have hwr := hS.size
   have HRl := Ae hRl
   clear hcl hh0 hF0 hnS hblt hbB hRlen hRl
   simp only at e0 e1 e2
   go_wp2_with fail
   refine Ck ?_
   intro w2 hw2
   have hb2 : Below wr.heap.size wr w2 := by rw [hw2]; go_grown
   have b0 : w2.cell? ⟨wr.heap.size, 0, none⟩ = some (.slice a n c) := by rw [hw2]; simp [*, go_sem]
   have b2 : w2.cell? ⟨wr.heap.size, 2, none⟩ = some (.int .i64 (m : Nat)) := by rw [hw2]; simp [*, go_sem]
   clear hw2
   have hS2 := Em hS hb2
   have hown2 := Bm hownr hb2
   have hF2 : C0 w2 1 mkL b n m := HF0.out.keep hb2 (by simp [mkL]) qB
   have hh2 := HH.out.keep hb2
   have hcame := hh2.came (mk := mkL) rfl qB hF2
   have c22 := Au hb2 c2
   have fz2 := hown2.frozenAt (i * 3 + 1)
   have e12 := Au hb2 e1
   have hGr2 : Hid (∀ p ∈ R', E5 w2 1 mkL w.heap.size p.1 p.2) := Ae fun p hp => by
    exact qDk
   have hgw : g < w.heap.size := by
    exact qCz
   have hHlt : wr.heap.size < w2.heap.size := Aa _ _ b0
   have hW2 := hb2.size
   have HHb := Ae (show c ≠ 0 → wr.heap.size ≠ b from fun hc0 => by have := HbB.out hc0; omega)
   clear hGr hownr hS c2 e0 e1 e2 hb2 hh2
   generalize wr.heap.size = H at *
   go_loopw [4, 5] (fun v4 v5 wi => ∃ (k r : Nat), k ≤ 40 ∧ v5 = .int .i64 k ∧ (∃ a' c', v4 = .slice a' (n + k) c') ∧ Upon w2 112 1 a b 0 n c (Cm mkL m n) wi v4 k (Cm mkL m k) r ∧ wi.cell? ⟨H, 2, none⟩ = some (.int .i64 (m : Nat))) (fun _ v5 _ => 40 - (intOf v5).toNat)
   case atStart => exact ⟨0, 0, by omega, rfl, ⟨_, _, rfl⟩, by simpa [Cm] using Upon.start hcame, b2⟩
   case round =>
    obtain ⟨k, r, hk40, rfl, ⟨a', c', rfl⟩, hU, d2⟩ := hrel
    by_cases hkl : k < 40
    ·go_wp2_with (first | (go_at_call 140; refine (Nh _ m hmm).mono ?_; rintro e w5 ⟨rfl, rfl⟩) | (at_builtin; refine wpList_append_upon _ rfl _ _ 57 57 rfl hcame i0 (.int .u32 0) 4 Tryz.underlying57 hi' hz0 hz1 hz2 rfl rfl (Ou hU hcame qF) (.slice (some ⟨w5.heap.size, 0, none⟩) 1 1) 1 [.int .u32 (1000 + (m : Int))] rfl (Src.ofSlice _ Tryz.underlying57 ⟨w5.heap.size, 0, none⟩ 1 1 [.int .u32 (1000 + (m : Int))] rfl (Ep w5 [.int .u32 (1000 + (m : Int))] 112) (by simp [Value.oneCell'])) qO qB ?_; intro v6 w6 hU6))
     have hU7 : Upon w2 112 1 a b 0 n c (Cm mkL m n) w6 v6 (k + 1) (Cm mkL m (k + 1)) (Upon.next n c 1 k r 1) := by rw [Iq, show Cm mkL m 1 = [.int .u32 (1000 + (m : Int))] by simp [Cm, mkL]]; exact hU6
     exact qDb
    ·obtain rfl : k = 40 := by omega
     have c23 := I6 hU c22 (fun hc0 => by have := HbB.out hc0; omega)
     have e13 := I6 hU e12 (fun hc0 => by have := HbB.out hc0; omega)
     have fz3 : wr.frozen? ⟨g, i * 3 + 1, none⟩ = false := (hU.frozen ⟨g, i * 3 + 1, none⟩ (by show g < _; omega)).trans fz2
     have hS3 := Ow hU
     have hown3 : wr.ownsRow (B + 1) 144 3 (.slice (some ⟨g, 0, none⟩) Rl.length co) Rl.length (Cw (R' ++ Rl.drop i)) := Ju hown2 hS3 (fun x hx e => by have := HbB.out e.1; have := e.2; omega)
     have hGn := Ae (Kb (W := w2) (s := 1) (h := ⟨a, b, n, c, m⟩) (H := w.heap.size) rfl qB hcame hF2 hU qB (fun h0 => by show 0 < c; have : 0 < n := h0; omega))
     have hst := Ae (hown3.stored (i * 3 + 1) (.slice a' (n + 40) c'))
     clear hU d2 hown3
     go_wp2_with fail
     have hS4 : Dd (fun x => (c ≠ 0 ∧ x = b) ∨ x = g) w2 (wr.setCell ⟨g, i * 3 + 1, none⟩ (.slice a' (n + 40) c')) := Dk (hS3.wide fun x hx => .inl hx) g _ _ (.inr rfl)
     have hS5 : Dd (fun x => (c ≠ 0 ∧ x = b) ∨ x = g) wr (wr.setCell ⟨g, i * 3 + 1, none⟩ (.slice a' (n + 40) c')) := Dk (Fg _ _) g _ _ (.inr rfl)
     have hMp' := Ae (Sw hMp.out hq (.slice a' (n + 40) c'))
     have hGr' : Hid (∀ p ∈ R' ++ [((⟨a, b, n, c, m⟩ : Hl), Value.slice a' (n + 40) c')], E5 (wr.setCell ⟨g, i * 3 + 1, none⟩ (.slice a' (n + 40) c')) 1 mkL w.heap.size p.1 p.2) := Ae fun p hp => by
      exact qBi
     have hown4 : (wr.setCell ⟨g, i * 3 + 1, none⟩ (.slice a' (n + 40) c')).ownsRow (B + 1) 144 3 (.slice (some ⟨g, 0, none⟩) Rl.length co) Rl.length (Cw ((R' ++ [((⟨a, b, n, c, m⟩ : Hl), Value.slice a' (n + 40) c')]) ++ Rl.drop (i + 1))) := by
      have h1 := hst.out.1
      have h2 := Pi R' (Rl.drop (i + 1)) ⟨a, b, n, c, m⟩ (.slice none 0 0) (.slice a' (n + 40) c')
      rw [HRl.out] at h2
      rw [Jy hq, h2] at h1
      rw [List.append_assoc]
      exact h1
     have hS6 : Dd (fun x => inR (Rl.take (i + 1)) x ∨ (Value.slice (some ⟨g, 0, none⟩) Rl.length co).ownBlock = some x) w (wr.setCell ⟨g, i * 3 + 1, none⟩ (.slice a' (n + 40) c')) := by
      exact qCj
     exact qDj
  ·obtain rfl : i = Rl.length := by omega
   have hMp2 := hMp.out
   rw [As (Ad _)] at hMp2 hS
   rw [List.drop_of_length_le (Ad _), List.append_nil] at hownr
   have HM2 := Ae hMp2
   clear hMp2 hMp
   go_wp2_with fail
   exact bodyPost_end (v := .tuple #[]) (by simp [results, Tryz.results68, go_sem]) rfl ⟨rfl, R', HM2.out, hownr, (fun a b h => hGr.out (a, b) h), hS⟩
end Go.Proofs.YtdamegaedmckbaaGreatDoor
end
