/- Package polys: likes.sum. -/
import Derived.Test.YtdamegaedmckbaaGreatDoorX28
import Derived.Test.YtdamegaedmckbaaGreatDoorX29
set_option linter.unusedSimpArgs false
set_option linter.unusedVariables false
section
namespace Go.Proofs.YtdamegaedmckbaaGreatDoor
open Go.RowKit Go.Lib Go.Sort

theorem below_sortWorld (w : World) (blk off n : Nat) (d : Array STm) (os : Array Obj) (hblk : blk < w.heap.size) : RowKit.Below blk w (sortWorldK encT 8 w blk off n d os) := by
  refine ⟨rfl, rfl, rfl, size_sortWorldK_c _ _ _ _ _ _ _ _, fun k hk => ?_⟩
  unfold sortWorldK putRowK putRow grow mapBlock
  have h : k < w.heap.size := by omega
  have hne : blk ≠ k := by omega
  simp [Array.getElem?_append, h, ahead]
  rw [Array.getElem_modify_of_ne hne]
theorem next_facts {w : World} {B : Nat} {D : DataW Value} {f : Nat → Option PC} (hH : Holds4 w B D f) {key v : Value} {kl : Lit} {y : DataW Value × List MemPlace} (hkey : keyOf Tryz.prog 66 key = some kl) (hat : ∀ zd, D.atKey kl zd = y.1) (hR : RH v = some y) :
    ∃ (q0 q1 q2 q3 : Nat) (x : PC), f (key4 q0 q1 q2 q3) = some x ∧ q0 < 65536 ∧ q1 < 65536 ∧ q2 < 65536 ∧ q3 < 65536 ∧ key = mono4 q0 q1 q2 q3 ∧ FrIs w B v x := by
  obtain ⟨q0, q1, q2, q3, h0, h1, h2, h3, rfl⟩ := key_inv hkey
  have hhas := Maps.has_true_of_atKey hat
  obtain ⟨e1, e2⟩ := hH q0 q1 q2 q3 kl h0 h1 h2 h3 hkey
  cases hf : f (key4 q0 q1 q2 q3) with
  | none => rw [e1 hf] at hhas; cases hhas
  | some x =>
    obtain ⟨_, u, hu, hfr⟩ := e2 x hf
    simp only [RH, Option.some.injEq] at hR
    subst hR
    have := hu (.held v)
    rw [hat] at this
    simp only [DataW.held.injEq] at this
    subst this
    exact ⟨q0, q1, q2, q3, x, hf, h0, h1, h2, h3, rfl, hfr⟩
theorem own_ne {w : World} {N : Nat} {e : TypeId} {size : Nat} {v : Value} {n : Nat} {xs : List Value} (h : w.ownsRow (N + 1) e size v n xs) : v.ownBlock = none ∨ v.ownBlock ≠ some N := by
  rcases h.2 with ⟨rfl, _⟩ | ⟨g, cap, cur, rfl, hg, _⟩
  · exact .inl rfl
  · right
    intro e
    simp only [Value.ownBlock, Option.some.injEq] at e
    omega
def STm.of (t : Tm) (h0 : t.m0 < 65536) (h1 : t.m1 < 65536) (h2 : t.m2 < 65536) (h3 : t.m3 < 65536) : STm := ⟨t, h0, h1, h2, h3⟩
theorem map_size {w : World} {b n : Nat} {D : DataW Value} (h : w.ownsMap Tryz.prog 66 RH b n D) : Maps.size D ≤ n := by
  obtain ⟨es, clock, hb, F, hs, rfl⟩ := h
  simpa [Maps.size, length_sorted] using hs
theorem own_ge {w : World} {N : Nat} {e : TypeId} {size : Nat} {v : Value} {n : Nat} {xs : List Value} (h : w.ownsRow N e size v n xs) : ∀ k, v.ownBlock = some k → N ≤ k := by
  rcases h.2 with ⟨rfl, _⟩ | ⟨g, cap, cur, rfl, hg, _⟩
  · intro k hk; cases hk
  · intro k hk
    simp only [Value.ownBlock, Option.some.injEq] at hk
    omega
theorem ne_own {v : Value} {N k : Nat} (h : ∀ j, v.ownBlock = some j → N ≤ j) (hk : k < N) : some k ≠ v.ownBlock := fun e => by have := h k e.symm; omega
/-- What has been gathered out of the map. -/
structure Coll (w : World) (B : Nat) (f : Nat → Option PC) (left : Lit → Bool) (out : List STm) : Prop where
  mem : ∀ t ∈ out, ∃ x, f t.key = some x ∧ x.1 ≠ 0 ∧ TmIs t.1 (t.key, x) ∧ RdTm w t.1 ∧ Nw B t.1.n1 t.1.a1 ∧ Nw B t.1.n2 t.1.a2 ∧ ∀ kl, keyOf Tryz.prog 66 (mono4 t.1.m0 t.1.m1 t.1.m2 t.1.m3) = some kl → left kl = false
  all : ∀ a b c d kl x, a < 65536 → b < 65536 → c < 65536 → d < 65536 → keyOf Tryz.prog 66 (mono4 a b c d) = some kl → f (key4 a b c d) = some x → x.1 ≠ 0 → left kl = false → ∃ t ∈ out, t.key = key4 a b c d
  apart : out.Pairwise (fun s t => s.key ≠ t.key)
theorem Coll.start {w : World} {B : Nat} {D : DataW Value} {f : Nat → Option PC} (hH : Holds4 w B D f) : Coll w B f (Maps.has D) [] :=
  ⟨by simp, fun a b c d kl x ha hb hc hd hk hf _ hl => (by rw [((hH a b c d kl ha hb hc hd hk).2 x hf).1] at hl; cases hl), by simp⟩
theorem left_step {left : Lit → Bool} {kl kl' : Lit} (h : left kl' = false) : (left kl' && !kl'.sameKey kl) = false := by rw [h]; rfl
/-- An entry that is 0 is passed over. -/
theorem Coll.pass {w : World} {B : Nat} {f : Nat → Option PC} {left : Lit → Bool} {out : List STm} (h : Coll w B f left out) {q0 q1 q2 q3 : Nat} {kl : Lit} {x : PC} (h0 : q0 < 65536) (h1 : q1 < 65536) (h2 : q2 < 65536) (h3 : q3 < 65536)
    (hk : keyOf Tryz.prog 66 (mono4 q0 q1 q2 q3) = some kl) (hf : f (key4 q0 q1 q2 q3) = some x) (hx : x.1 = 0) : Coll w B f (fun z => left z && !z.sameKey kl) out := by
  refine ⟨fun t ht => ?_, fun a b c d kl' x' ha hb hc hd hk' hf' hx' hl => ?_, h.apart⟩
  · obtain ⟨y, g1, g2, g3, g4, g5, g6, g7⟩ := h.mem t ht
    exact ⟨y, g1, g2, g3, g4, g5, g6, fun kl' hkl' => left_step (g7 kl' hkl')⟩
  · by_cases e : left kl' = false
    · exact h.all a b c d kl' x' ha hb hc hd hk' hf' hx' e
    · have e1 : left kl' = true := by simpa using e
      rw [e1] at hl
      have e2 : kl'.sameKey kl = true := by simpa using hl
      have e3 := WideAt.sameKey_eq e2
      have e4 := (key_ne ha hb hc hd h0 h1 h2 h3 hk' hk).1 e3
      rw [e4, hf] at hf'
      cases hf'
      exact absurd hx hx'
theorem Coll.more {w : World} {B : Nat} {f : Nat → Option PC} {left : Lit → Bool} {out : List STm} (h : Coll w B f left out) {t : STm} {kl : Lit} {x : PC}
    (hk : keyOf Tryz.prog 66 (mono4 t.1.m0 t.1.m1 t.1.m2 t.1.m3) = some kl) (hl : left kl = true) (hf : f t.key = some x) (hx : x.1 ≠ 0) (ht : TmIs t.1 (t.key, x)) (hr : RdTm w t.1) (k1 : Nw B t.1.n1 t.1.a1) (k2 : Nw B t.1.n2 t.1.a2) :
    Coll w B f (fun z => left z && !z.sameKey kl) (out ++ [t]) := by
  have hkk := keyed66.key hk
  refine ⟨fun s hs => ?_, fun a b c d kl' x' ha hb hc hd hk' hf' hx' hl' => ?_, ?_⟩
  · rcases List.mem_append.1 hs with hs | hs
    · obtain ⟨y, g1, g2, g3, g4, g5, g6, g7⟩ := h.mem s hs
      exact ⟨y, g1, g2, g3, g4, g5, g6, fun kl' hkl' => left_step (g7 kl' hkl')⟩
    · simp only [List.mem_singleton] at hs
      subst hs
      refine ⟨x, hf, hx, ht, hr, k1, k2, fun kl' hkl' => ?_⟩
      rw [hk] at hkl'
      cases hkl'
      rw [WideAt.sameKey_self hkk]
      simp
  · by_cases e : left kl' = false
    · obtain ⟨s, hs, hsk⟩ := h.all a b c d kl' x' ha hb hc hd hk' hf' hx' e
      exact ⟨s, by simp [hs], hsk⟩
    · have e1 : left kl' = true := by simpa using e
      rw [e1] at hl'
      have e2 : kl'.sameKey kl = true := by simpa using hl'
      have e3 := WideAt.sameKey_eq e2
      have e4 := (key_ne ha hb hc hd t.2.1 t.2.2.1 t.2.2.2.1 t.2.2.2.2 hk' hk).1 e3
      exact ⟨t, by simp, e4.symm⟩
  · refine List.pairwise_append.2 ⟨h.apart, by simp, fun s hs u hu => ?_⟩
    simp only [List.mem_singleton] at hu
    subst hu
    obtain ⟨y, _, _, _, _, _, _, g7⟩ := h.mem s hs
    intro e
    obtain ⟨kl', hkl'⟩ := key_of s.2.1 s.2.2.1 s.2.2.2.1 s.2.2.2.2
    have := (key_ne s.2.1 s.2.2.1 s.2.2.2.1 s.2.2.2.2 u.2.1 u.2.2.1 u.2.2.2.1 u.2.2.2.2 hkl' hk).2 e
    subst this
    rw [g7 _ hkl'] at hl
    cases hl
/-- The sum that has been gathered. -/
def listOf (f : Nat → Option PC) (l : List STm) : List PT := l.map fun t => (t.key, (f t.key).getD (0, 1))
theorem coll_poly {w W : World} {B g c : Nat} {f : Nat → Option PC} {left : Lit → Bool} {out : List STm} (hC : Coll w B f left out) (hl : ∀ kl, left kl = false) (hf : ∀ k x, f k = some x → k < 18446744073709551616)
    {d' : Array STm} (hp : PermIn 0 out.toArray.size out.toArray d') (hs : SortedIn (ltOf cfT) 0 out.toArray.size d') (hH : HoldsK encT 8 W g 0 d') (hb : RowKit.Below w.heap.size w W) (hBg : B ≤ g) (hc : out.length ≤ c) (hc1 : c ≤ 9223372036854775807) (hn : out.length ≤ 35184372088832) :
    PolyAt W B (some ⟨g, 0, none⟩) out.length c (listOf f d'.toList) ∧ Falls (listOf f d'.toList) ∧ ∀ t, t ∈ listOf f d'.toList ↔ f t.1 = some t.2 ∧ t.2.1 ≠ 0 := by
  have hsz : d'.size = out.length := by have := hp.1; simpa using this
  have hperm : d'.toList.Perm out := by
    have h := hp.2.2
    have e1 : d'.extract 0 out.toArray.size = d' := by
      apply Array.ext
      · simp [hsz]
      · intro i h1 h2; simp
    have e2 : out.toArray.extract 0 out.toArray.size = out.toArray := by
      apply Array.ext
      · simp
      · intro i h1 h2; simp
    rw [e1, e2] at h
    simpa using h
  have hmem : ∀ t, t ∈ d'.toList ↔ t ∈ out := fun t => hperm.mem_iff
  have hap : d'.toList.Pairwise (fun s t => s.key ≠ t.key) := (hperm.symm.pairwise_iff (fun {a b} (h : a.key ≠ b.key) => h.symm)).1 hC.apart
  have hget : ∀ i (h : i < d'.size), d'[i]! = d'[i] := fun i h => getElem!_pos d' i h
  have hval : ∀ t ∈ out, ∃ x, f t.key = some x ∧ (f t.key).getD (0, 1) = x ∧ x.1 ≠ 0 ∧ TmIs t.1 (t.key, x) ∧ RdTm w t.1 ∧ Nw B t.1.n1 t.1.a1 ∧ Nw B t.1.n2 t.1.a2 := fun t ht => by
    obtain ⟨x, h1, h2, h3, h4, h5, h6, _⟩ := hC.mem t ht
    exact ⟨x, h1, by rw [h1]; rfl, h2, h3, h4, h5, h6⟩
  refine ⟨⟨by simp [listOf, hsz], .inr (fun x hx => by cases hx; exact hBg), fun h => (by cases h), fun i => (d'[i]!).1, ⟨hc, hn, hc1, fun i hi => ?_, .inr ⟨g, 0, rfl, fun i hi => tmAt_of_holds hH (by omega)⟩⟩, fun i x hx => ?_⟩, ?_, fun t => ?_⟩
  · have hi' : i < d'.size := by omega
    show RdTm W (d'[i]!).1
    rw [hget i hi']
    obtain ⟨x, _, _, _, _, h4, _⟩ := hval d'[i] ((hmem _).1 (by simp))
    exact h4.keep hb
  · simp only [listOf, List.getElem?_map] at hx
    cases he : d'.toList[i]? with
    | none => rw [he] at hx; cases hx
    | some s =>
      rw [he] at hx
      have hi' : i < d'.size := by
        have := (List.getElem?_eq_some_iff.1 he).1
        simpa using this
      have es : d'[i]! = s := by
        rw [hget i hi']
        obtain ⟨_, e⟩ := List.getElem?_eq_some_iff.1 he
        simpa using e
      obtain ⟨y, h1, h2, h3, h4, h5, h6, h7⟩ := hval s ((hmem s).1 (List.mem_of_getElem? he))
      show TmIs (d'[i]!).1 x ∧ Nw B (d'[i]!).1.n1 (d'[i]!).1.a1 ∧ Nw B (d'[i]!).1.n2 (d'[i]!).1.a2
      rw [es]
      simp only [Option.map_some, Option.some.injEq] at hx
      rw [h2] at hx
      subst hx
      exact ⟨h4, h6, h7⟩
  · unfold Falls listOf
    rw [List.pairwise_map, List.pairwise_iff_getElem]
    intro i j hi hj hij
    have hi' : i < d'.size := by simpa using hi
    have hj' : j < d'.size := by simpa using hj
    have h1 := hs i j (Nat.zero_le _) hij (by simp; omega)
    rw [ltT, hget i hi', hget j hj', decide_eq_false_iff_not] at h1
    have h2 := List.pairwise_iff_getElem.1 hap i j hi hj hij
    simp only [Array.getElem_toList] at h2 ⊢
    omega
  · unfold listOf
    rw [List.mem_map]
    constructor
    · rintro ⟨s, hs', rfl⟩
      obtain ⟨y, h1, h2, h3, _⟩ := hval s ((hmem s).1 hs')
      rw [h2]
      exact ⟨h1, h3⟩
    · rintro ⟨h1, h2⟩
      obtain ⟨k, x⟩ := t
      obtain ⟨q0, q1, q2, q3, hq⟩ := key4_split k (hf k x h1)
      obtain ⟨kl, hkl⟩ := key_of q0 q1 q2 q3
      obtain ⟨s, hs', hsk⟩ := hC.all _ _ _ _ kl x q0 q1 q2 q3 hkl (by rw [hq]; exact h1) h2 (hl kl)
      rw [hq] at hsk
      refine ⟨s, (hmem s).2 hs', ?_⟩
      have h1' : f k = some x := h1
      rw [hsk, h1']
      rfl
set_option maxRecDepth 100000 in
set_option maxHeartbeats 4000000 in
theorem sum_c (w : World) (b n B : Nat) (f : Nat → Option PC) (h : MapAt w b n B f) (hn : n ≤ 1000000) (hBw : B ≤ w.heap.size) (hK : ∀ k x, f k = some x → k < 18446744073709551616 ∧ FewC 1000000 x) :
    Calls Tryz.prog 111 #[.map (some b)] w fun e w' => ∃ a n' c, ∃ l : List PT, e = .returned (.slice a n' c) ∧ PolyAt w' B a n' c l ∧ Falls l ∧ (∀ t, t ∈ l ↔ f t.1 = some t.2 ∧ t.2.1 ≠ 0) ∧ RowKit.Below w.heap.size w w' := by
  obtain ⟨D, hown, hH⟩ := h.ex
  have HB := Below.refl w.heap.size w
  have HKK := Lib.hid hK
  obtain ⟨i0, hi, hz0, hz1', hz2'⟩ := info_parts info68
  clear hK
  go_enter Tryz.func111, Tryz.ntmps111
  go_wp2_with (first | (at_range; refine wpList_range_own _ rfl _ 123 rfl 66 64 keyed66 Tryz.underlying123 RH b n D rfl (ownsMap_keep hown (by go_grown)) ?_; intro w0 hrg0 hg0 hs0))
  go_frame
  go_loopw [2] (fun v2 wr => ∃ (left : Lit → Bool) (cnt : Nat) (out : List STm), wr.ranges Tryz.prog 66 RH b w.heap.size n D left cnt ∧ wr.ownsRow (w.heap.size + 1) 68 8 v2 out.length (flatT out) ∧ Hid (Coll w B f left out) ∧ RowKit.Below w.heap.size w wr ∧ out.length + cnt ≤ n) (fun _ wr => wr.rangeLeft b w.heap.size)
  case atStart => exact ⟨_, _, [], hrg0, ⟨rfl, .inl ⟨rfl, rfl⟩⟩, Lib.hid (Coll.start hH), ⟨hg0.os, hg0.tape, hg0.output, hg0.size, fun k hk => hg0.block k hk (by simp)⟩, by simpa using map_size hown⟩
  case round =>
    obtain ⟨left, cnt, out, hrg, hown2, hC, HB, hcn⟩ := hrel
    go_wp2_with (first | (at_next; refine wpList_next_ranges _ rfl _ rfl 66 keyed66 RH (fun v => v) (fun v => v) (fun key _ _ => ⟨key, rfl⟩) (fun v _ _ => ⟨v, rfl⟩) b w.heap.size n D left cnt rfl hrg ?_ ?_))
    · intro hc0 hl0
      have hf' : ∀ k x, f k = some x → k < 18446744073709551616 := fun k x hk => (HKK.out k x hk).1
      rcases hown2.2 with ⟨rfl, hlen⟩ | ⟨g, cap, cur, rfl, hgb, hblk, hnc, hcm, hsz, htk⟩
      · have hout : out = [] := List.length_eq_zero_iff.1 hlen
        subst hout
        have HP := Lib.hid (coll_poly (W := w) (g := B) (c := 0) (d' := #[]) hC.out hl0 hf' ⟨rfl, fun _ _ => rfl, List.Perm.refl _⟩ (fun i j _ _ hj => by simp at hj) (fun j hj => by simp [flatK] at hj) (Below.refl _ _) (Nat.le_refl _) (Nat.le_refl _) (by omega) (by simp)).2
        clear hrg hown2 hf'
        go_wp2_with (first | (go_at_call 178; refine (sort_none _ _ _).mono ?_; rintro e w3 ⟨rfl, rfl⟩))
        refine bodyPost_ret (v := .slice none 0 0) (by simp [results, Tryz.results111, go_sem]) rfl ?_
        exact ⟨none, 0, 0, [], rfl, PolyAt.nil _ _, HP.out.1, HP.out.2, HB⟩
      · have hlt : g < wr.heap.size := (Array.getElem?_eq_some_iff.1 hblk).1
        have hcap : cap ≤ 9223372036854775807 := hcm
        have hS := sort_c g 0 cap out.toArray wr (holds_of_owns hown2 rfl) hlt (by simp; omega)
        have hHO := Lib.hid (holds_of_owns hown2 rfl)
        rw [List.size_toArray] at hS
        clear hrg hown2 hblk htk hsz
        go_wp2_with (first | (go_at_call 178; refine hS.mono ?_; rintro e w3 ⟨rfl, d', m, os, hperm, hsrt, rfl⟩))
        have hbw := below_sortWorld wr g 0 m d' os hlt
        have HB3 : RowKit.Below w.heap.size w (sortWorldK encT 8 wr g 0 m d' os) := HB.trans (hbw.mono (by omega))
        have hd : d'.size = out.toArray.size := hperm.1
        have hP := coll_poly (W := sortWorldK encT 8 wr g 0 m d' os) (g := g) (c := cap) (d' := d') hC.out hl0 hf' (by simpa using hperm) (by simpa using hsrt) (holdsK_sortWorldK_c encT 8 wr g 0 out.toArray d' m os hHO.out hlt hd) HB3 (by omega) hnc hcap (by omega)
        refine bodyPost_ret (v := .slice (some ⟨g, 0, none⟩) out.length cap) (by simp [results, Tryz.results111, go_sem]) rfl ?_
        exact ⟨_, _, _, _, rfl, hP.1, hP.2.1, hP.2.2, HB3⟩
    · intro key v kl y1 y2 w1 cnt1 hkey hlk hRv hR2 hat hrg1 hlt hg1 hs1 hen
      subst hRv
      obtain ⟨q0, q1, q2, q3, x, hfx, b0, b1, b2, b3, rfl, hfr⟩ := next_facts (y := (.held v, [])) hH hkey hat rfl
      obtain ⟨g1, a1, n1, c1, g2, a2, n2, c2, rfl, hx, k1, k2⟩ := hfr
      have HM := Lib.hid hrg.left_eq
      clear hat hR2 hrg
      have HB1 : RowKit.Below w.heap.size w w1 := HB.grown hg1 HB.size (fun k hk => by cases hk; exact Nat.le_refl _)
      have hown3 := hown2.kept hg1 (own_ne hown2)
      have hfew := (HKK.out _ _ hfx).2
      have e1 := hx.top.rd.len
      have e2 := hx.low.rd.len
      obtain ⟨i1, i2⟩ := hfew
      have s1 : n1 < 35184372088829 := by omega
      have s2 : n2 < 35184372088829 := by omega
      have hrd : RdTm w ⟨g1, a1, n1, c1, dg x.1.natAbs, g2, a2, n2, c2, dg x.2.natAbs, q0, q1, q2, q3⟩ := ⟨hx.top.rd, hx.low.rd, b0, b1, b2, b3⟩
      have hti : TmIs ⟨g1, a1, n1, c1, dg x.1.natAbs, g2, a2, n2, c2, dg x.2.natAbs, q0, q1, q2, q3⟩ (key4 q0 q1 q2 q3, x) := ⟨hx.top.neg, rfl, hx.low.neg, rfl, rfl⟩
      have HX := Lib.hid (And.intro hrd hti)
      have HS := Lib.hid hs1
      have hz1 := HB1.size
      clear hrd hti e1 e2 i1 i2 hs1
      by_cases hx0 : x.1 = 0
      · have hc0 : cmpI x.1 0 = 0 := by rw [hx0, cmpI_eq]
        have HC2 := Lib.hid (hC.out.pass b0 b1 b2 b3 hkey hfx hx0)
        clear hx0
        go_wp2_with (first | (go_at_call 31; refine (fSign_c _ _ _ _ _ _ _ _ _ _ _ (hx.keep (by go_grown)) s2 s1).mono ?_; rintro e w2 ⟨rfl, hb⟩; rw [hc0]; have d0 : w2.cell? ⟨w1.heap.size, 0, none⟩ = some (.int .u16 q0) := cell_keep hb (by simp [go_sem]); have d1 : w2.cell? ⟨w1.heap.size, 1, none⟩ = some (.int .u16 q1) := cell_keep hb (by simp [go_sem]); have d2 : w2.cell? ⟨w1.heap.size, 2, none⟩ = some (.int .u16 q2) := cell_keep hb (by simp [go_sem]); have d3 : w2.cell? ⟨w1.heap.size, 3, none⟩ = some (.int .u16 q3) := cell_keep hb (by simp [go_sem]); have k4 : w2.cell? ⟨w1.heap.size + 1, 0, none⟩ = some (.bool g1) := cell_keep hb (by simp [go_sem]); have k5 : w2.cell? ⟨w1.heap.size + 1, 1, none⟩ = some (.slice a1 n1 c1) := cell_keep hb (by simp [go_sem]); have k6 : w2.cell? ⟨w1.heap.size + 1, 2, none⟩ = some (.bool g2) := cell_keep hb (by simp [go_sem]); have k7 : w2.cell? ⟨w1.heap.size + 1, 3, none⟩ = some (.slice a2 n2 c2) := cell_keep hb (by simp [go_sem]); have HB2 : RowKit.Below w.heap.size w w2 := RowKit.Below.trans (by go_grown) (hb.mono (by go_size)); have HB12 : RowKit.Below w1.heap.size w1 w2 := RowKit.Below.trans (by go_grown) (hb.mono (by go_size)); have hz2 := hb.size; (try simp only [World.size_alloc] at hz2)))
        go_roundw
        case rel => exact ⟨_, cnt1, out, hrg1.kept (row := none) (grownBy_of_below HB12) (by simp) (by simp), ownsRow_keep hown3 HB12, HC2, HB2, by omega⟩
        case measure => rw [(hrg1.kept (row := none) (grownBy_of_below HB12) (by simp) (by simp)).left_eq, HM.out]; omega
      · have hc0 : (cmpI x.1 0 == 0) = false := by rw [beq_eq_false_iff_ne]; exact fun e => hx0 (cmpI_zero.1 e)
        have HC2 := Lib.hid (hC.out.more (t := STm.of ⟨g1, a1, n1, c1, dg x.1.natAbs, g2, a2, n2, c2, dg x.2.natAbs, q0, q1, q2, q3⟩ b0 b1 b2 b3) hkey hlk hfx hx0 HX.out.2 HX.out.1 k1 k2)
        clear hx0
        go_wp2_with (first | (go_at_call 31; refine (fSign_c _ _ _ _ _ _ _ _ _ _ _ (hx.keep (by go_grown)) s2 s1).mono ?_; rintro e w2 ⟨rfl, hb⟩; have d0 : w2.cell? ⟨w1.heap.size, 0, none⟩ = some (.int .u16 q0) := cell_keep hb (by simp [go_sem]); have d1 : w2.cell? ⟨w1.heap.size, 1, none⟩ = some (.int .u16 q1) := cell_keep hb (by simp [go_sem]); have d2 : w2.cell? ⟨w1.heap.size, 2, none⟩ = some (.int .u16 q2) := cell_keep hb (by simp [go_sem]); have d3 : w2.cell? ⟨w1.heap.size, 3, none⟩ = some (.int .u16 q3) := cell_keep hb (by simp [go_sem]); have k4 : w2.cell? ⟨w1.heap.size + 1, 0, none⟩ = some (.bool g1) := cell_keep hb (by simp [go_sem]); have k5 : w2.cell? ⟨w1.heap.size + 1, 1, none⟩ = some (.slice a1 n1 c1) := cell_keep hb (by simp [go_sem]); have k6 : w2.cell? ⟨w1.heap.size + 1, 2, none⟩ = some (.bool g2) := cell_keep hb (by simp [go_sem]); have k7 : w2.cell? ⟨w1.heap.size + 1, 3, none⟩ = some (.slice a2 n2 c2) := cell_keep hb (by simp [go_sem]); have HB2 : RowKit.Below w.heap.size w w2 := RowKit.Below.trans (by go_grown) (hb.mono (by go_size)); have HB12 : RowKit.Below w1.heap.size w1 w2 := RowKit.Below.trans (by go_grown) (hb.mono (by go_size)); have hz2 := hb.size; (try simp only [World.size_alloc] at hz2)) | (at_builtin; refine wpList_append_own _ rfl _ _ 23 rfl (w.heap.size + 1) 68 i0 (.agg #[.bool false, .slice none 0 0, .bool false, .slice none 0 0, .int .u16 0, .int .u16 0, .int .u16 0, .int .u16 0]) 8 72 Tryz.underlying23 hi hz0 hz1' hz2' rfl (by decide) _ out.length (flatT out) rfl (ownsRow_keep (ownsRow_keep hown3 HB12) (by go_grown)) ⟨w2.heap.size, 0, none⟩ 1 1 (Tm.cells ⟨g1, a1, n1, c1, dg x.1.natAbs, g2, a2, n2, c2, dg x.2.natAbs, q0, q1, q2, q3⟩) rfl rfl (cells_new _ _ _) (by simp [Tm.cells, Value.oneCell']) (by unfold maxLen; omega) (by omega) (by go_size) ?_; intro v3 w3 hown4 hgrow4 _))
        have hge := own_ge hown2
        have hbl := hown.lt
        have HB3 : RowKit.Below w.heap.size w w3 := (HB2.alloc HB2.size _).grown hgrow4 (by simp; omega) (fun k hk => by have := hge k hk; omega)
        have hr3 := (hrg1.kept (row := none) (grownBy_of_below HB12) (by simp) (by simp)).alloc (.cells (Tm.cells ⟨g1, a1, n1, c1, dg x.1.natAbs, g2, a2, n2, c2, dg x.2.natAbs, q0, q1, q2, q3⟩).toArray 68) |>.kept hgrow4 (ne_own hge (by omega)) (ne_own hge (by omega))
        go_roundw
        case rel => exact ⟨_, cnt1, out ++ [STm.of ⟨g1, a1, n1, c1, dg x.1.natAbs, g2, a2, n2, c2, dg x.2.natAbs, q0, q1, q2, q3⟩ b0 b1 b2 b3], hr3, by rw [flatT_snoc, List.length_append]; exact hown4, HC2, HB3, by rw [List.length_append, List.length_singleton]; omega⟩
        case measure => rw [hr3.left_eq, HM.out]; omega
end Go.Proofs.YtdamegaedmckbaaGreatDoor
end
