/- slices.Concat at two sums. -/
import Derived.Test.YtdamegaedmckbaaGreatDoorQP24
set_option linter.unusedSimpArgs false
set_option linter.unusedVariables false
set_option maxRecDepth 100000
set_option maxHeartbeats 4000000
section
namespace Go.Proofs.YtdamegaedmckbaaGreatDoor
open Go.RowKit
theorem R5 {w : World} {b o n c : Nat} {p : Nat → Tm} (h : RdP w (some ⟨b, o, none⟩) n c p) : ∀ j u, (Co p n)[j]? = some u → w.cell? ((⟨b, o, none⟩ : Addr).add j) = some u := by
 intro j u hj
 have hlt : j < n * 8 := by
  have := (List.getElem?_eq_some_iff.1 hj).1
  rwa [Il] at this
 have h1 := Pj p n (j / 8) (j % 8) qB qB
 rw [show j / 8 * 8 + j % 8 = j by omega, hj] at h1
 have hadd : (⟨b, o, none⟩ : Addr).add j = ⟨b, o + j, none⟩ := by unfold Addr.add; split <;> simp_all
 rw [hadd]
 obtain ⟨e0, e1, e2, e3, e4, e5, e6, e7⟩ := h.at (i := j / 8) qB
 have hk : o + j = o + j / 8 * 8 + j % 8 := by omega
 rw [hk]
 have h8 : j % 8 < 8 := by omega
 generalize j % 8 = k at *
 generalize o + j / 8 * 8 = m at *
 match k, h8 with
 | 0, _ => rw [Nat.add_zero, e0]; exact h1.symm
 | 1, _ => rw [e1]; exact h1.symm
 | 2, _ => rw [e2]; exact h1.symm
 | 3, _ => rw [e3]; exact h1.symm
 | 4, _ => rw [e4]; exact h1.symm
 | 5, _ => rw [e5]; exact h1.symm
 | 6, _ => rw [e6]; exact h1.symm
 | 7, _ => rw [e7]; exact h1.symm
theorem X5 (p : Nat → Tm) (n : Nat) : ∀ u ∈ Co p n, u.oneCell' = true := by
 induction n with
 | zero => simp [Co]
 | succ n ih =>
  intro u hu
  rw [Co] at hu
  rcases List.mem_append.1 hu with h | h
  ·exact ih u h
  ·simp [Tm.cells] at h
   rcases h with rfl | rfl | rfl | rfl | rfl | rfl | rfl | rfl <;> rfl
theorem Ic {w : World} {ops : Array Oper} {rest : List Oper} {o : Oper} {a : Act} {Q : Exit → Act → World → Prop} (hgd : o.guard = none) (s x : Operand)
  (ho : o.op = .call { callee := .builtin .append, args := #[s, x], argTypes := #[23, 23] }) (base : Nat) (v : Value) (k : Nat) (xs : List Value) (hs : a.eval s = v) (hown : w.ownsRow base 68 8 v k xs)
  (ad : Option Addr) (n c : Nat) (p : Nat → Tm) (hx : a.eval x = .slice ad n c) (hp : RdP w ad n c p) (hnil : ad = none → c = 0) (hk : k ≤ 1000000) (hn : n ≤ 1000000) (hbase : base ≤ w.heap.size)
  (h : ∀ v' w', w'.ownsRow base 68 8 v' (k + n) (xs ++ Co p n) → w.grownBy w' v.ownBlock → wpList Tryz.prog ops Q rest (a.put o.dst v') w') : wpList Tryz.prog ops Q (o :: rest) a w := by
 obtain ⟨i0, hi, hz0, hz1, hz2⟩ := info_parts Og
 cases ad with
 | none =>
  have hc := hnil rfl
  have h0 : n = 0 := by have := hp.cap; omega
  subst hc h0
  refine wpList_append_own_none hgd s x 23 ho base 68 i0 8 Tryz.underlying23 hi v k xs hs hown hx (h v w ?_ ⟨rfl, rfl, rfl, Ad _, fun _ _ _ => rfl⟩)
  simpa [Co] using hown
 | some ad =>
  obtain ⟨b, off, sp⟩ := ad
  have hsp : n = 0 ∨ sp = none := by
   rcases hp.cell with h0 | ⟨b', o', e, _⟩
   ·exact .inl h0
   ·right; simp only [Option.some.injEq, Addr.mk.injEq] at e; exact e.2.2
  refine wpList_append_own _ hgd s x 23 ho base 68 i0 (.agg #[.bool false, .slice none 0 0, .bool false, .slice none 0 0, .int .u16 0, .int .u16 0, .int .u16 0, .int .u16 0]) 8 72 Tryz.underlying23 hi hz0 hz1 hz2 rfl qC v k xs hs hown ⟨b, off, sp⟩ n c (Co p n) hx (Il p n) ?_ (X5 p n) qO qB hbase (fun v' w' h1 h2 _ => h v' w' h1 h2)
  rcases hsp with h0 | h0
  ·subst h0; intro j u hj; simp [Co] at hj
  ·subst h0; exact R5 hp
theorem eZ (w : World) (n : Nat) (hn : n ≤ 2000000) : Calls Tryz.prog 176 #[.slice none 0 0, .int .i64 n] w fun e w' => ∃ v, e = .returned v ∧ w'.ownsRow w.heap.size 68 8 v 0 [] ∧ Below w.heap.size w w' := by
 obtain ⟨i0, hi, hz0, hz1, hz2⟩ := info_parts Og
 by_cases h0 : n = 0
 ·subst h0
  have h := Any8.slices_Grow_room Tryz.laysGrow176 none 0 0 0 w qB qB qB qB
  exact (show Calls Tryz.prog 176 _ _ _ from h).mono fun e w' ⟨he, hw⟩ => ⟨_, he, ⟨rfl, .inl ⟨rfl, rfl⟩⟩, by rw [hw]; exact Ac _ _⟩
 ·have h := Any8.slices_Grow_grow Tryz.laysGrow176 i0 _ hi hz0 qB none 0 0 n [] w qB qB (by rw [hz2]; omega) qB qH qH qH
  refine (show Calls Tryz.prog 176 _ _ _ from h).mono ?_
  rintro e w' ⟨rfl, rfl⟩
  have hg := grownCap_ge w (0 + n) 0 (Tryz.laysGrow176_ren.t 25)
  have hm := grownCap_le_maxLen w (0 + n) 0 (Tryz.laysGrow176_ren.t 25) qO
  refine ⟨_, rfl, ⟨rfl, .inr ⟨w.heap.size, _, _, rfl, Ad _, by exact World.alloc_heap_new w.drew _, by omega, hm, ?_, by simp⟩⟩, (Ac _ w).drew.alloc (Ad _) _⟩
  generalize grownCap w (0 + n) 0 (Tryz.laysGrow176_ren.t 25) = G at *
  have h8 : (Value.agg #[.bool false, .slice none 0 0, .bool false, .slice none 0 0, .int .u16 0, .int .u16 0, .int .u16 0, .int .u16 0]).cells.size = 8 := rfl
  simp only [Array.size_append, size_zeroCells, h8, List.size_toArray, List.length_nil]
  omega
theorem aZ (w : World) (A : Nat) (a : Option Addr) (n c : Nat) (p : Nat → Tm) (hp : RdP w a n c p) (hnl : a = none → c = 0) (a' : Option Addr) (n' c' : Nat) (q : Nat → Tm) (hq : RdP w a' n' c' q) (hnl' : a' = none → c' = 0)
  (hn : n ≤ 500000) (hn' : n' ≤ 500000) (x0 : w.cell? ⟨A, 0, none⟩ = some (.slice a n c)) (x1 : w.cell? ⟨A, 1, none⟩ = some (.slice a' n' c')) :
  Calls Tryz.prog 109 #[.slice (some ⟨A, 0, none⟩) 2 2] w fun e w' => ∃ v, e = .returned v ∧ w'.ownsRow w.heap.size 68 8 v (n + n') (Co p n ++ Co q n') ∧ Below w.heap.size w w' := by
 have HB := Ac w.heap.size w
 have hG : ∀ W : World, Calls Tryz.prog 176 #[.slice none 0 0, .int .i64 ((n : Int) + (n' : Int))] W fun e w' => ∃ v, e = .returned v ∧ w'.ownsRow W.heap.size 68 8 v 0 [] ∧ Below W.heap.size W w' := fun W => by
  have h := eZ W (n + n') qB
  rwa [Int.natCast_add] at h
 go_enter Tryz.func109, Tryz.ntmps109
 go_wp2_with fail
 refine wp_loop_rounds 3 ?_
 rw [rounds_succ]
 go_wp2_with fail
 rw [rounds_succ]
 go_wp2_with fail
 rw [rounds_succ]
 go_wp2_with (first | (go_at_call 176; refine (hG _).mono ?_; rintro e w1 ⟨v1, rfl, hown1, hb1⟩))
 have hz1 := hb1.size
 have y0 := Au hb1 x0
 have y1 := Au hb1 x1
 refine wp_loop_rounds 3 ?_
 rw [rounds_succ]
 go_wp2_with (first | (at_builtin; refine Ic rfl _ _ rfl w.heap.size _ 0 [] rfl hown1 a n c p rfl (hp.keep hb1) hnl qB qB hz1 ?_; intro v2 w2 hown2 hg2))
 have hb2 : Below w.heap.size w w2 := hb1.grown hg2 hz1 (Eu hown1)
 have hz2 := hb2.size
 have z0 := Au hb2 x0
 have z1 := Au hb2 x1
 rw [List.nil_append, Nat.zero_add] at hown2
 rw [rounds_succ]
 go_wp2_with (first | (at_builtin; refine Ic rfl _ _ rfl w.heap.size _ n (Co p n) rfl hown2 a' n' c' q rfl (hq.keep hb2) hnl' qB qB hz2 ?_; intro v3 w3 hown3 hg3))
 have hb3 : Below w.heap.size w w3 := hb2.grown hg3 hz2 (Eu hown2)
 rw [rounds_succ]
 go_wp2_with fail
 refine bodyPost_ret (v := v3) (by simp [results, Tryz.results109, go_sem]) rfl ?_
 exact ⟨v3, rfl, hown3, hb3⟩
theorem Q4 {a b : List PT} (ha : PW a) (hb : PW b) {K K' : Nat} (hK : Da K a) (hK' : Da K' b) (i k : Nat) (y : PC) (h : H8 ((a ++ b).take i) k = some y) : Cv (K + K' + 1) y ∧ k < 18446744073709551616 := by
 have hf : Gb (a.take i) := ha.falls.sublist (List.take_sublist _ _)
 have hf' : Gb (b.take (i - a.length)) := hb.falls.sublist (List.take_sublist _ _)
 rw [List.take_append, S4 _ _ hf hf'] at h
 have m1 : ∀ c, lk (a.take i) k = some c → (k, c) ∈ a := fun c hc => List.mem_of_mem_take (Nv hc)
 have m2 : ∀ c, lk (b.take (i - a.length)) k = some c → (k, c) ∈ b := fun c hc => List.mem_of_mem_take (Nv hc)
 cases h1 : lk (a.take i) k with
 | none =>
  cases h2 : lk (b.take (i - a.length)) k with
  | none => rw [h1, h2] at h; cases h
  | some d =>
   rw [h1, h2] at h
   cases h
   exact ⟨Cv.mono (hK' _ (m2 _ h2)) qB, hb.key _ (m2 _ h2)⟩
 | some c =>
  cases h2 : lk (b.take (i - a.length)) k with
  | none =>
   rw [h1, h2] at h
   cases h
   exact ⟨Cv.mono (hK _ (m1 _ h1)) qB, ha.key _ (m1 _ h1)⟩
  | some d =>
   rw [h1, h2] at h
   cases h
   exact ⟨Cv.add (ha.good _ (m1 _ h1)).1 (hb.good _ (m2 _ h2)).1 (hK _ (m1 _ h1)) (hK' _ (m2 _ h2)), ha.key _ (m1 _ h1)⟩
def Ll (n : Nat) (p q : Nat → Tm) : Nat → Tm := fun i => if i < n then p i else q (i - n)
theorem Tp (n : Nat) (p q : Nat → Tm) (k : Nat) : Co (Ll n p q) (n + k) = Co p n ++ Co q k := by
 induction k with
 | zero =>
  rw [Nat.add_zero]
  have : Co (Ll n p q) n = Co p n := Mm fun j hj => by simp [Ll, hj]
  simp [this, Co]
 | succ k ih =>
  rw [← Nat.add_assoc, Co, ih, Co, List.append_assoc]
  have : Ll n p q (n + k) = q k := by unfold Ll; rw [if_neg qB]; congr 1; omega
  rw [this]
def bV (w : World) (l : List PT) (e : Ending) (w' : World) : Prop := ∃ a n c, e = .returned (.slice a n c) ∧ Bk w' w.heap.size a n c l ∧ Below w.heap.size w w'
def Yz (w : World) (l : List PT) (e : Ending) (w' : World) : Prop := ∃ a n c, e = .returned (.slice a n c) ∧ Bk w' w.heap.size a n c l ∧ Cb w' w.heap.size a n c ∧ Below w.heap.size w w'
theorem Zh {w : World} {base base' : Nat} {e : TypeId} {size : Nat} {v : Value} {n : Nat} {xs : List Value} (h : w.ownsRow base e size v n xs) (hb : base' ≤ base) : w.ownsRow base' e size v n xs :=
 ⟨h.1, h.2.imp id fun ⟨g, cap, cur, h1, h2, h3⟩ => ⟨g, cap, cur, h1, Ah hb h2, h3⟩⟩
theorem O4 {w : World} {base : Nat} {e : TypeId} {size : Nat} {v : Value} {n : Nat} {xs : List Value} (h : w.ownsRow base e size v n xs) : ∃ ao co, v = .slice ao n co ∧ (n = 0 ∨ ∃ g, ao = some ⟨g, 0, none⟩) := by
 rcases h.2 with ⟨rfl, h0⟩ | ⟨g, cap, cur, rfl, _⟩
 ·subst h0; exact ⟨none, 0, rfl, .inl rfl⟩
 ·exact ⟨_, _, rfl, .inr ⟨g, rfl⟩⟩
theorem Ps (wo : World) (B : Nat) (a : Option Addr) (n c : Nat) (l : List PT) (h : Bk wo B a n c l) (hl : PW l) (K : Nat) (hK : Da K l) (B' : Nat) (a' : Option Addr) (n' c' : Nat) (l' : List PT) (h' : Bk wo B' a' n' c' l') (hl' : PW l') (K' : Nat) (hK' : Da K' l')
  (hKK : K + K' < 1000000) (hn : n ≤ 500000) (hn' : n' ≤ 500000) :
  Calls Tryz.prog 32 #[.slice a n c, .slice a' n' c'] wo (Yz wo (Bt l l')) := by
 have HB := Ac wo.heap.size wo
 obtain ⟨p, hp, hpx⟩ := h.ts
 obtain ⟨q, hq, hqx⟩ := h'.ts
 have hpok := h.pok hl hp hpx
 have hqok := h'.pok hl' hq hqx
 have hpf := h.few hK hp hpx
 have hqf := h'.few hK' hq hqx
 have P1 := Ae hpok
 have P2 := Ae hqok
 have P3 : Hid (∀ k, k < n → (p k).n1 ≤ 1000000 ∧ (p k).n2 ≤ 1000000) := Ae fun k hk => by have := hpf k hk; omega
 have P4 : Hid (∀ k, k < n' → (q k).n1 ≤ 1000000 ∧ (q k).n2 ≤ 1000000) := Ae fun k hk => by have := hqf k hk; omega
 have P5 := Ae hpx
 have P6 := Ae hqx
 clear hpok hqok hpf hqf hpx hqx
 have hmm := @run_makeMap Tryz.prog
 go_enter Tryz.func32, Tryz.ntmps32
 have HM0 : Gv (wo.alloc (.map #[] 0)) wo.heap.size 0 (wo.heap.size + 1) (fun _ => none) := ⟨.map [], id, World.ownsMap_made wo Tryz.prog 66 RH, Gt.empty _ _ _⟩
 go_wp2_with (first
  | (go_at_call 103; (first | (refine (eI _ a n c p (hp.keep qF) P3.out true ⟨fun _ => rfl, fun _ => P1.out⟩).mono ?_; rintro e w1 ⟨rfl, hb1⟩; have HM1 := HM0.keep hb1; have HB1 := zD wo hb1; have hz1 := hb1.size; (try simp only [Aj] at hz1)) | (refine (eI _ a' n' c' q (hq.keep qF) P4.out true ⟨fun _ => rfl, fun _ => P2.out⟩).mono ?_; rintro e w2 ⟨rfl, hb2⟩; have HM2 := HM1.keep hb2; have HB2 := zD wo hb2; have hz2 := hb2.size)))
  | (go_at_call 109; refine (aZ _ _ a n c p (hp.keep qF) h.nl a' n' c' q (hq.keep qF) h'.nl hn hn' qJ qJ).mono ?_; rintro e w3 ⟨v3, rfl, hown3, hb3⟩; have HM3 := (HM2.keep ((Ac _ _).alloc (Ad _) _)).keep hb3; have HB3 := zD wo hb3; have hz3 := hb3.size; (try simp only [Aj] at hz3); obtain ⟨ao, co, rfl, hao⟩ := O4 hown3))
 have hownB : w3.ownsRow (wo.heap.size + 1) 68 8 (.slice ao (n + n') co) (n + n') (Co (Ll n p q) (n + n')) := by
  rw [Tp]
  exact Zh hown3 qL
 have hin : Hid (∀ i x, (l ++ l')[i]? = some x → Iv (Ll n p q i) x ∧ Gy wo (Ll n p q i) ∧ CW x.2 ∧ Cv (K + K' + 1) x.2) := Ae fun i x hx => by
  have hll := h.len
  have hll' := h'.len
  by_cases hlt : i < n
  ·rw [List.getElem?_append_left qB] at hx
   have hb : Ll n p q i = p i := by simp [Ll, hlt]
   have hm := List.mem_of_getElem? hx
   rw [hb]
   exact ⟨(P5.out i x hx).1, hp.tm i hlt, (hl.good x hm).1, Cv.mono (hK x hm) qB⟩
  ·rw [List.getElem?_append_right qB, hll] at hx
   have hb : Ll n p q i = q (i - n) := by simp [Ll, hlt]
   have hm := List.mem_of_getElem? hx
   have hi : i - n < n' := by rw [← hll']; exact (List.getElem?_eq_some_iff.1 hx).1
   rw [hb]
   exact ⟨(P6.out _ x hx).1, hq.tm _ hi, (hl'.good x hm).1, Cv.mono (hK' x hm) qB⟩
 have hlen : (l ++ l').length = n + n' := by rw [List.length_append, h.len, h'.len]
 have HL := Ae hlen
 have HLL := Ae (And.intro hl hl')
 have HKL := Ae (And.intro hK hK')
 clear hown3 hb3 hb1 hb2 HM0 HM1 HM2 hlen
 go_loopw [16] (fun v16 wr => ∃ i : Nat, i ≤ n + n' ∧ v16 = .int .i64 i ∧ Gv wr wo.heap.size i (wo.heap.size + 1) (H8 ((l ++ l').take i)) ∧ wr.ownsRow (wo.heap.size + 1) 68 8 (.slice ao (n + n') co) (n + n') (Co (Ll n p q) (n + n')) ∧ Below wo.heap.size wo wr) (fun v16 _ => n + n' - (intOf v16).toNat)
 case atStart => exact ⟨0, by omega, rfl, by simpa [H8] using HM3, hownB, HB3⟩
 case round =>
  obtain ⟨k, hk, rfl, hM, hown, HBr⟩ := hrel
  have hzr := HBr.size
  clear HM3 hownB HB3 hz1 hz2 hz3
  by_cases hlt : k < n + n'
  ·obtain ⟨g, rfl⟩ := hao.resolve_left qB
   have hkl : k < (l ++ l').length := by rw [HL.out]; exact hlt
   obtain ⟨x, hx⟩ : ∃ x, (l ++ l')[k]? = some x := ⟨_, Ai hkl⟩
   obtain ⟨hti, hrt, hcw, hfw⟩ := hin.out k x hx
   have hat := Lj hown hlt
   generalize Ll n p q k = t at *
   obtain ⟨e0, e1, e2, e3, e4, e5, e6, e7⟩ := hat
   simp only [Nat.zero_add] at e0 e1 e2 e3 e4 e5 e6 e7
   obtain ⟨w, rfl⟩ : ∃ w : World, w = wr := ⟨_, rfl⟩
   have HB := Ac w.heap.size w
   have hfr := (hti.frac hrt hcw).keep HBr
   have hgl : g < w.heap.size := Aa _ _ e0
   have hbl : wo.heap.size < w.heap.size := by obtain ⟨D, _, hD, _⟩ := hM.ex; exact hD.lt
   have e8 : (dg (1 : Int).natAbs).length = 1 := Fd
   have e9 := hfr.top.rd.len
   have e10 := hfr.low.rd.len
   obtain ⟨i1, i2⟩ := hfw
   have q1 : t.n1 ≤ 1000000000 := by omega
   have q2 : t.n2 ≤ 1000000000 := by omega
   have E1 : Fz (x.2.1 * 1) (x.2.2 * 1) = x.2.1 := congrArg Prod.fst (R6 hcw)
   have E2 : Fj (x.2.1 * 1) (x.2.2 * 1) = x.2.2 := congrArg Prod.snd (R6 hcw)
   have hf9 : Cv 1000000000 x.2 := ⟨by omega, by omega⟩
   have hyk : ∀ y, H8 ((l ++ l').take k) (Dh t.m0 t.m1 t.m2 t.m3) = some y → Cv 1000000000 y := fun y hy => Cv.mono (Q4 HLL.out.1 HLL.out.2 HKL.out.1 HKL.out.2 k _ y hy).1 qB
   have HN := Ae (show H8 ((l ++ l').take (k + 1)) = Ln (H8 ((l ++ l').take k)) (Dh t.m0 t.m1 t.m2 t.m3, x.2) by
    have e : (l ++ l').take (k + 1) = (l ++ l').take k ++ [x] := by
     rw [List.take_add_one, hx]; rfl
    rw [e, W4, hti.key])
   have HT := Ae hti
   clear hti hx i1 i2 e9 e10
   go_wp2_with fail
   go_region_held3 (fun W => W.cell? ⟨w.heap.size, 0, none⟩ = some (.bool t.g1) ∧ W.cell? ⟨w.heap.size, 1, none⟩ = some (.slice t.a1 t.n1 t.c1) ∧ W.cell? ⟨w.heap.size, 2, none⟩ = some (.bool t.g2) ∧ W.cell? ⟨w.heap.size, 3, none⟩ = some (.slice t.a2 t.n2 t.c2) ∧ W.cell? ⟨w.heap.size, 4, none⟩ = some (.int .u16 t.m0) ∧ W.cell? ⟨w.heap.size, 5, none⟩ = some (.int .u16 t.m1) ∧ W.cell? ⟨w.heap.size, 6, none⟩ = some (.int .u16 t.m2) ∧ W.cell? ⟨w.heap.size, 7, none⟩ = some (.int .u16 t.m3)) (first | ((try dsimp only); (repeat' apply And.intro); all_goals (first | (with_reducible assumption) | (go_keep; done) | (simp [*, go_sem]; done)))) (first
    | (go_at_call 30; (with_reducible refine (Ph _ 1 qB qB).mono ?_); rintro e w1 ⟨go1, ao1, no1, co1, go2, ao2, no2, co2, rfl, hone, hfo1, hfo2, _, hb⟩; obtain ⟨hc, hf⟩ := Ax hb; have hz := hb.size; (try simp only [Aj, Ak, Am] at hz); replace HB := zD w hb; obtain ⟨s0_0, s0_1⟩ := qX hc (w.heap.size) (.bool t.g1) (.slice t.a1 t.n1 t.c1); obtain ⟨s0_2, s0_3⟩ := qY hc (w.heap.size) (.bool t.g2) (.slice t.a2 t.n2 t.c2); have s0_4 := qV hc (w.heap.size) 4 (.int .u16 t.m0); have s0_5 := qV hc (w.heap.size) 5 (.int .u16 t.m1); have s0_6 := qV hc (w.heap.size) 6 (.int .u16 t.m2); have s0_7 := qV hc (w.heap.size) 7 (.int .u16 t.m3); have e11 := hone.top.rd.len; have e12 := hone.low.rd.len)
    | (go_at_call 106; (with_reducible refine (Zm _ _ _ _ _ _ _ _ _ _ _ (hfr.keep qF) _ _ _ _ _ _ _ _ _ _ (hone.keep qF) q1 q2 qB qB).mono ?_); rintro e w4 ⟨gm1, am1, nm1, cm1, gm2, am2, nm2, cm2, rfl, hmul, hfm1, hfm2, hap, hb⟩; obtain ⟨hc, hf⟩ := Ax hb; have hz := hb.size; (try simp only [Aj, Ak, Am] at hz); replace HB := zD w hb; obtain ⟨s0_0, s0_1⟩ := qX hc (w.heap.size) (.bool t.g1) (.slice t.a1 t.n1 t.c1); obtain ⟨s0_2, s0_3⟩ := qY hc (w.heap.size) (.bool t.g2) (.slice t.a2 t.n2 t.c2); have s0_4 := qV hc (w.heap.size) 4 (.int .u16 t.m0); have s0_5 := qV hc (w.heap.size) 5 (.int .u16 t.m1); have s0_6 := qV hc (w.heap.size) 6 (.int .u16 t.m2); have s0_7 := qV hc (w.heap.size) 7 (.int .u16 t.m3); rw [E1, E2] at hmul; have km1 : Av w.heap.size w4 am1 cm1 := hfm1.mono qA; have km2 : Av w.heap.size w4 am2 cm2 := hfm2.mono qA)
    | (go_at_call 110; (with_reducible refine (gK w _ wo.heap.size k (wo.heap.size + 1) (H8 ((l ++ l').take k)) hM qF (Ag _) qB qB _ _ _ _ _ _ _ _ x.2 (hmul.keep qF) (km1.keep qF) (km2.keep qF) hap t.m0 t.m1 t.m2 t.m3 hrt.s0 hrt.s1 hrt.s2 hrt.s3 hf9 hyk).mono ?_); rintro e w5 ⟨rfl, hM5, hg5⟩; have s0_0 : w5.cell? ⟨w.heap.size, 0, none⟩ = some (.bool t.g1) := hg5.cell qD qL; have s0_1 : w5.cell? ⟨w.heap.size, 1, none⟩ = some (.slice t.a1 t.n1 t.c1) := hg5.cell qD qL; have s0_2 : w5.cell? ⟨w.heap.size, 2, none⟩ = some (.bool t.g2) := hg5.cell qD qL; have s0_3 : w5.cell? ⟨w.heap.size, 3, none⟩ = some (.slice t.a2 t.n2 t.c2) := hg5.cell qD qL; have s0_4 : w5.cell? ⟨w.heap.size, 4, none⟩ = some (.int .u16 t.m0) := hg5.cell qD qL; have s0_5 : w5.cell? ⟨w.heap.size, 5, none⟩ = some (.int .u16 t.m1) := hg5.cell qD qL; have s0_6 : w5.cell? ⟨w.heap.size, 6, none⟩ = some (.int .u16 t.m2) := hg5.cell qD qL; have s0_7 : w5.cell? ⟨w.heap.size, 7, none⟩ = some (.int .u16 t.m3) := hg5.cell qD qL; have hown5 := (Bm hown (by go_grown : Below w.heap.size w _)).kept hg5 (aJ hown); have HB5 : Below wo.heap.size wo w5 := Below.grown (HBr.trans (Below.mono (by go_grown : Below w.heap.size w _) HBr.size)) hg5 qA (fun j hj => by cases hj; exact Ad _)))
   go_wp2_with fail
   go_roundw
   case rel => exact ⟨k + 1, by omega, by go_num, by rw [HN.out]; exact hM5, hown5, HB5⟩
   case measure => (first | (simp [intOf]; omega) | (simp [intOf]; done))
  ·obtain rfl : k = n + n' := by omega
   have hM6 : Gv wr wo.heap.size (n + n') (wo.heap.size + 1) (H8 (l ++ l')) := by
    have := hM
    rwa [As (by rw [HL.out]; exact Ad _)] at this
   have hbl : wo.heap.size < wr.heap.size := by obtain ⟨D, _, hD, _⟩ := hM.ex; exact hD.lt
   have hkk : ∀ k x, H8 (l ++ l') k = some x → k < 18446744073709551616 ∧ Cv 1000000 x := fun k x hx => by
    have := Q4 HLL.out.1 HLL.out.2 HKL.out.1 HKL.out.2 (l ++ l').length k x (by rw [As (Ad _)]; exact hx)
    exact ⟨this.2, Cv.mono this.1 qB⟩
   clear hM hown
   go_wp2_with (first | (go_at_call 111; refine (gN _ wo.heap.size (n + n') (wo.heap.size + 1) (H8 (l ++ l')) hM6 qB qB hkk).mono ?_; rintro e w6 ⟨a6, n6, c6, r, rfl, hr, hro, hfr, hmr, hb6⟩))
   refine bodyPost_ret (v := .slice a6 n6 c6) (by simp [results, Tryz.results32, go_sem]) rfl ?_
   have := Tr HLL.out.1 HLL.out.2 hfr hmr
   subst this
   exact ⟨a6, n6, c6, rfl, hr.mono qB, hro.mono qB, HBr.trans (hb6.mono HBr.size)⟩
end Go.Proofs.YtdamegaedmckbaaGreatDoor
end
