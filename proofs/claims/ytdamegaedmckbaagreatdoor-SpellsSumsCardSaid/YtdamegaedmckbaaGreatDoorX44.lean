/- Package polys: Sub. No further condition. Plain: what is left behind a term is the text's end. No condition. SpellsSums: the law's own walk. Conditions: the variables that strconv asks. SpellsSums: the law's own walk, its last step. Conditions: the variables that strconv asks. -/
import Derived.Test.YtdamegaedmckbaaGreatDoorX42
import Derived.Test.YtdamegaedmckbaaGreatDoorX41
import Derived.Test.YtdamegaedmckbaaGreatDoorX39
set_option linter.unusedSimpArgs false
set_option linter.unusedVariables false
section
namespace Go.Proofs.YtdamegaedmckbaaGreatDoor
open Go.RowKit

set_option maxRecDepth 100000 in
set_option maxHeartbeats 4000000 in
theorem polySub_c (w : World) (B : Nat) (a : Option Addr) (n c : Nat) (l : List PT) (h : PolyAt w B a n c l) (hl : PW l) (K : Nat) (hK : FewL K l) (B' : Nat) (a' : Option Addr) (n' c' : Nat) (l' : List PT) (h' : PolyAt w B' a' n' c' l') (hl' : PW l') (K' : Nat) (hK' : FewL K' l')
    (hKK : K + K' < 1000000) (hK1 : K' < 500000) (hn : n ≤ 500000) (hn' : n' ≤ 500000) :
    Calls Tryz.prog 33 #[.slice a n c, .slice a' n' c'] w (RetPoly w (addL l (l'.map negT))) := by
  have HN := Lib.hid (negT_pw hl')
  have HF := Lib.hid (negT_few hK')
  go_enter Tryz.func33, Tryz.ntmps33
  go_wp2_with fail
  refine (fOf_c w (-1) (by omega) (by omega)).mono ?_
  rintro e w1 ⟨g1, a1, n1, c1, g2, a2, n2, c2, rfl, hone, hf1, hf2, hb1⟩
  go_wp2_with fail
  refine (scale_c w1 B' a' n' c' l' (h'.keep hb1) hl' K' hK' hK1 hn' g1 a1 n1 c1 g2 a2 n2 c2 hone).mono ?_
  rintro e w2 ⟨a3, n3, c3, rfl, P3, hb2⟩
  have B2 := hb1.trans (hb2.mono hb1.size)
  have hn3 : n3 ≤ 500000 := by have h1 := P3.len; have h2 := h'.len; rw [List.length_map] at h1; omega
  go_wp2_with fail
  refine (polyAdd_c w2 B a n c l (h.keep B2) hl K hK _ a3 n3 c3 _ P3 HN.out K' HF.out hKK hn hn3).mono ?_
  rintro e w3 ⟨a4, n4, c4, rfl, P4, hb3⟩
  go_wp2_with fail
  refine bodyPost_ret (v := .slice a4 n4 c4) (by simp [results, Tryz.results33, go_sem]) rfl ?_
  exact ⟨a4, n4, c4, rfl, P4.mono B2.size, B2.trans (hb3.mono B2.size)⟩
end Go.Proofs.YtdamegaedmckbaaGreatDoor
end
section
namespace Go.Proofs.YtdamegaedmckbaaGreatDoor
open Go.RowKit

theorem skp_suf (L : List UInt8) : skp L <:+ L := List.dropWhile_suffix _
theorem rdNum_suf {L : List UInt8} {many : Bool} {d r : List UInt8} {m : Bool} (h : rdNum L many = some (d, r, m)) : r <:+ L := by
  unfold rdNum at h
  split at h
  · cases h; exact List.dropWhile_suffix _
  · cases h
theorem rdPow_suf {L : List UInt8} {many : Bool} {n : Nat} {r : List UInt8} {m : Bool} (h : rdPow L many = some (n, r, m)) : r <:+ L := by
  unfold rdPow at h
  split at h
  · split at h
    · cases h
    · next d r' m' h' =>
      have h1 := (rdNum_suf (rdPos_num h').1).trans (List.tail_suffix L)
      split at h <;> cases h <;> exact h1
  · cases h; exact List.suffix_refl _
theorem rdFrac_suf {L : List UInt8} {many : Bool} {c : PC} {r : List UInt8} {m : Bool} (h : rdFrac L many = some (c, r, m)) : r <:+ L := by
  unfold rdFrac at h
  split at h
  · cases h
  · next t r' m' h' =>
    have h1 := rdNum_suf h'
    split at h
    · split at h
      · cases h
      · next l r'' m'' h'' =>
        cases h
        exact ((rdNum_suf (rdPos_num h'').1).trans (List.tail_suffix r')).trans h1
    · cases h; exact h1
theorem rdFactor_suf {s t : TS} (h : rdFactor s = some t) : t.L <:+ s.L := by
  unfold rdFactor at h
  split at h
  · cases h
  · next b r hL =>
    rw [hL]
    split at h
    · split at h
      · cases h
      · next n r' m h' =>
        have := rdPow_suf h'
        cases h
        exact this.trans (List.suffix_cons b r)
    · split at h
      · cases h
      · next c r' m h' =>
        have := rdFrac_suf h'
        cases h
        exact this
theorem rdLoop_suf : ∀ (n : Nat) (s : TS) {t : TS}, s.L.length ≤ n → rdLoop s = some t → t.L <:+ s.L
  | 0, s, t, hn, h => by have := rdLoop_len _ h; omega
  | n + 1, s, t, hn, h => by
    obtain ⟨hs, u, hu, hh⟩ := rdLoop_cases h
    have g := rdFactor_suf hu
    have h1 := rdFactor_len hu
    have h2 := skp_le u.L
    have h3 := skp_le (skp u.L).tail
    have h4 : (skp u.L).tail.length ≤ (skp u.L).length := by simp
    rcases hh with ⟨_, h5⟩ | ⟨_, _, h5⟩ | ⟨_, _, h5⟩
    · have := rdLoop_suf n _ (by show (skp (skp u.L).tail).length ≤ n; omega) h5
      exact (((this.trans (skp_suf _)).trans (List.tail_suffix _)).trans (skp_suf _)).trans g
    · have := rdLoop_suf n _ (by show (skp u.L).length ≤ n; omega) h5
      exact (this.trans (skp_suf _)).trans g
    · subst h5
      exact (skp_suf _).trans g
theorem rdTerm_suf {L : List UInt8} {many neg : Bool} {l : List PT} {r : List UInt8} {m : Bool} (h : rdTerm L many neg = some (l, r, m)) : r <:+ skp L := by
  unfold rdTerm at h
  split at h
  · cases h
  · next t ht =>
    have := rdLoop_suf _ _ (Nat.le_refl _) ht
    cases h
    exact this
/-- The second text, where it is read: what both together are. -/
theorem sums_both {s t : List UInt8} {a b : List PT} {m m' : Bool} (hs : rdSum s = some (a, m)) (ht : rdSum t = some (b, m')) (h45 : headIs (skp t) 45 = false) :
    rdSum (s ++ ([32, 43] ++ 32 :: t)) = some (addL a b, m || m') ∧ (∃ x, rdSum (s ++ 45 :: t) = some (x, m || m')) ∧ ((∀ c ∈ skp t, c ≠ 43 ∧ c ≠ 45) → rdSum (s ++ 45 :: t) = some (addL a (b.map negT), m || m')) := by
  rw [rdSum_pos h45] at ht
  have h1 := sums_plus s t
  rw [hs, ht] at h1
  have h2 := sums_minus hs t
  rw [rdOpen_eq] at ht
  cases hx : rdTerm t false false with
  | none => rw [hx] at ht; cases ht
  | some x =>
    obtain ⟨l, r, m1⟩ := x
    rw [hx] at ht h2
    simp only [Option.bind_some] at ht h2
    cases hy : rdMore [] r false with
    | none => rw [hy] at ht; cases ht
    | some y =>
      rw [hy] at ht h2
      simp only [Option.map_some, Option.some.injEq, Prod.mk.injEq] at ht h2
      obtain ⟨rfl, rfl⟩ := ht
      refine ⟨h1, ⟨_, h2⟩, fun hn => ?_⟩
      have hr : r = [] := one_only hx hy fun c hc => hn c ((rdTerm_suf hx).subset hc)
      subst hr
      rw [rdMore] at hy
      obtain rfl := Option.some.inj hy
      rw [h2]
      simp [addL_nil]
/-- Where the second text begins with a sign. -/
theorem sums_neg {s t : List UInt8} {a : List PT × Bool} (hs : rdSum s = some a) (h45 : headIs (skp t) 45 = true) : rdSum (s ++ ([32, 43] ++ 32 :: t)) = none ∧ rdSum (s ++ 45 :: t) = none := by
  refine ⟨?_, ?_⟩
  · rw [sums_plus, rdOpen_none h45]
    cases rdSum s <;> rfl
  · rw [sums_minus hs, rdOpen_neg h45]
    rfl
/-- Where one of both is none. -/
theorem sums_none {s t : List UInt8} (h : rdSum s = none ∨ rdSum t = none) : rdSum (s ++ ([32, 43] ++ 32 :: t)) = none := by
  rw [sums_plus]
  rcases h with h | h
  · rw [h]; rfl
  · cases h45 : headIs (skp t) 45
    · rw [rdSum_pos h45] at h
      rw [h]
      cases rdSum s <;> rfl
    · rw [rdOpen_none h45]
      cases rdSum s <;> rfl
/-- Where the first one has something too much. -/
theorem sums_many {s : List UInt8} {a : List PT} (hs : rdSum s = some (a, true)) (t : List UInt8) : (∀ x, rdSum (s ++ ([32, 43] ++ 32 :: t)) ≠ some (x, false)) ∧ ∀ x, rdSum (s ++ 45 :: t) ≠ some (x, false) := by
  refine ⟨fun x hx => ?_, fun x hx => ?_⟩
  · rw [sums_plus, hs] at hx
    simp only [Option.bind_some] at hx
    cases ho : rdOpen t with
    | none => rw [ho] at hx; cases hx
    | some y => rw [ho] at hx; simp at hx
  · rw [sums_minus hs] at hx
    cases ho : rdTerm t false false with
    | none => rw [ho] at hx; cases hx
    | some z =>
      rw [ho] at hx
      simp only [Option.bind_some] at hx
      cases hy : rdMore [] z.2.1 false with
      | none => rw [hy] at hx; cases hx
      | some y => rw [hy] at hx; simp at hx
end Go.Proofs.YtdamegaedmckbaaGreatDoor
end
section
namespace Go.Proofs.YtdamegaedmckbaaGreatDoor
open Go.RowKit

/-- What a text may be read as. -/
theorem rdText_cases {L : List UInt8} (h : L.length ≤ 65536) : (rdSum L = none ∧ rdText L = ([], 4)) ∨ (∃ l, rdSum L = some (l, true) ∧ rdText L = ([], 3)) ∨ (∃ l, rdSum L = some (l, false) ∧ rdText L = (l, 0)) := by
  unfold rdText
  rw [if_neg (by omega)]
  cases hs : rdSum L with
  | none => exact .inl ⟨rfl, rfl⟩
  | some x =>
    obtain ⟨l, m⟩ := x
    cases m
    · exact .inr (.inr ⟨l, rfl, rfl⟩)
    · exact .inr (.inl ⟨l, rfl, rfl⟩)
/-- Where one of both is refused. -/
theorem sums_bad {s t : List UInt8} (hs : s.length ≤ 3000) (ht : t.length ≤ 3000) (h : (rdText s).2 ≠ 0 ∨ (rdText t).2 ≠ 0) :
    ((rdText s).2 = 4 ∧ (rdText (s ++ ([32, 43] ++ 32 :: t))).2 = 4) ∨ ((rdText s).2 = 0 ∧ (rdText t).2 = 4 ∧ (rdText (s ++ ([32, 43] ++ 32 :: t))).2 = 4) ∨ ((rdText s).2 = 0 ∧ (rdText t).2 = 3)
    ∨ ((rdText s).2 = 3 ∧ ((rdText t).2 = 4 → (rdText (s ++ ([32, 43] ++ 32 :: t))).2 = 4) ∧ ((rdText (s ++ ([32, 43] ++ 32 :: t))).2 = 3 ∨ (rdText (s ++ ([32, 43] ++ 32 :: t))).2 = 4) ∧ ((rdText (s ++ 45 :: t)).2 = 3 ∨ (rdText (s ++ 45 :: t)).2 = 4) ∧ ((rdText t).2 = 0 ∨ (rdText t).2 = 3 ∨ (rdText t).2 = 4)) := by
  have l1 : (s ++ ([32, 43] ++ 32 :: t)).length ≤ 65536 := by simp; omega
  have l2 : (s ++ 45 :: t).length ≤ 65536 := by simp; omega
  have hnone : rdSum (s ++ ([32, 43] ++ 32 :: t)) = none → (rdText (s ++ ([32, 43] ++ 32 :: t))).2 = 4 := fun h => by unfold rdText; rw [if_neg (by omega), h]
  rcases rdText_cases (show s.length ≤ 65536 by omega) with ⟨a1, a2⟩ | ⟨a, a1, a2⟩ | ⟨a, a1, a2⟩
  · left
    exact ⟨by rw [a2], hnone (sums_none (.inl a1))⟩
  · right; right; right
    obtain ⟨m1, m2⟩ := sums_many a1 t
    refine ⟨by rw [a2], fun h4 => ?_, ?_, ?_, ?_⟩
    · rcases rdText_cases (show t.length ≤ 65536 by omega) with ⟨b1, b2⟩ | ⟨b, b1, b2⟩ | ⟨b, b1, b2⟩
      · exact hnone (sums_none (.inr b1))
      · rw [b2] at h4; cases h4
      · rw [b2] at h4; cases h4
    · rcases rdText_cases l1 with ⟨b1, b2⟩ | ⟨b, b1, b2⟩ | ⟨b, b1, b2⟩
      · right; rw [b2]
      · left; rw [b2]
      · exact absurd b1 (m1 b)
    · rcases rdText_cases l2 with ⟨b1, b2⟩ | ⟨b, b1, b2⟩ | ⟨b, b1, b2⟩
      · right; rw [b2]
      · left; rw [b2]
      · exact absurd b1 (m2 b)
    · rcases rdText_cases (show t.length ≤ 65536 by omega) with ⟨b1, b2⟩ | ⟨b, b1, b2⟩ | ⟨b, b1, b2⟩
      · right; right; rw [b2]
      · right; left; rw [b2]
      · left; rw [b2]
  · have he : (rdText s).2 = 0 := by rw [a2]
    rcases rdText_cases (show t.length ≤ 65536 by omega) with ⟨b1, b2⟩ | ⟨b, b1, b2⟩ | ⟨b, b1, b2⟩
    · right; left
      exact ⟨he, by rw [b2], hnone (sums_none (.inr b1))⟩
    · right; right; left
      exact ⟨he, by rw [b2]⟩
    · rcases h with h | h
      · exact absurd he h
      · rw [b2] at h; exact absurd rfl h
/-- Where both are read. -/
theorem sums_good {s t : List UInt8} (hs : s.length ≤ 3000) (ht : t.length ≤ 3000) (h1 : (rdText s).2 = 0) (h2 : (rdText t).2 = 0) :
    skp t ≠ [] ∧ (headIs (skp t) 45 = true → (rdText (s ++ ([32, 43] ++ 32 :: t))).2 = 4 ∧ (rdText (s ++ 45 :: t)).2 = 4)
    ∧ (headIs (skp t) 45 = false → rdText (s ++ ([32, 43] ++ 32 :: t)) = (addL (rdText s).1 (rdText t).1, 0) ∧ (rdText (s ++ 45 :: t)).2 = 0 ∧ ((∀ c ∈ skp t, c ≠ 43 ∧ c ≠ 45) → rdText (s ++ 45 :: t) = (addL (rdText s).1 ((rdText t).1.map negT), 0))) := by
  have l1 : (s ++ ([32, 43] ++ 32 :: t)).length ≤ 65536 := by simp; omega
  have l2 : (s ++ 45 :: t).length ≤ 65536 := by simp; omega
  have n1 : ∀ {L : List UInt8}, L.length ≤ 65536 → rdSum L = none → (rdText L).2 = 4 := fun hL h => by unfold rdText; rw [if_neg (by omega), h]
  rcases rdText_cases (show s.length ≤ 65536 by omega) with ⟨a1, a2⟩ | ⟨a, a1, a2⟩ | ⟨a, a1, a2⟩
  · rw [a2] at h1; cases h1
  · rw [a2] at h1; cases h1
  · rcases rdText_cases (show t.length ≤ 65536 by omega) with ⟨b1, b2⟩ | ⟨b, b1, b2⟩ | ⟨b, b1, b2⟩
    · rw [b2] at h2; cases h2
    · rw [b2] at h2; cases h2
    · refine ⟨rdSum_some_ne b1, fun h45 => ?_, fun h45 => ?_⟩
      · obtain ⟨c1, c2⟩ := sums_neg a1 h45
        exact ⟨n1 l1 c1, n1 l2 c2⟩
      · obtain ⟨c1, ⟨x, c2⟩, c3⟩ := sums_both a1 b1 h45
        rw [a2, b2]
        refine ⟨rdText_of l1 c1, ?_, fun h => rdText_of l2 (c3 h)⟩
        rw [rdText_of l2 c2]
/-- How far the blanks reach. -/
theorem skp_drop {t : List UInt8} {i : Nat} (hi : i ≤ t.length) (h : Bl (t.take i)) : skp (t.drop i) = skp t := by
  conv => rhs; rw [← List.take_append_drop i t]
  rw [skp_app h]
theorem bl_take {t : List UInt8} {i : Nat} (hi : i < t.length) (h : Bl (t.take i)) (hb : isBlk t[i] = true) : Bl (t.take (i + 1)) := by
  unfold Bl at *
  rw [List.take_succ_eq_append_getElem hi, List.all_append, h]
  simp [hb]
theorem skp_at {t : List UInt8} {i : Nat} (hi : i < t.length) (h : Bl (t.take i)) (hb : isBlk t[i] = false) : skp t = t.drop i := by
  rw [← skp_drop (by omega) h]
  apply skp_of
  intro b hh
  rw [List.head?_drop, List.getElem?_eq_getElem hi] at hh
  cases hh
  exact hb
theorem skp_all {t : List UInt8} (h : Bl t) : skp t = [] := by
  have := skp_app (X := []) h
  rw [List.append_nil] at this
  exact this
end Go.Proofs.YtdamegaedmckbaaGreatDoor
end
section
namespace Go.Proofs.YtdamegaedmckbaaGreatDoor
open Go.RowKit

set_option maxRecDepth 100000 in
set_option maxHeartbeats 4000000 in
theorem SpellsSums_c (w : World) (s t : List UInt8) (hls : s.length ≤ 140737488351232) (hlt : t.length ≤ 140737488351232) (hT : Tab w) (hV : ErrV w) (h7 : 7 < w.heap.size) :
    Calls Tryz.prog 10 #[.string ⟨s.toArray⟩, .string ⟨t.toArray⟩] w (RetTrue w) := by
  have HB := Below.refl w.heap.size w
  have al := fun (W : World) (hW : Below w.heap.size w W) => alive_c W (hT.keep hW) (hV.grown (grown_below hW none) (by simp)) (by have := hW.size; omega)
  have AL := Lib.hid al
  clear al
  have parse := fun (W : World) (hW : Below w.heap.size w W) (L : List UInt8) (hL : L.length < 1000000000) => parse_c W L hL (hV.grown (grown_below hW none) (by simp)) (by have := hW.size; omega)
  have PARSE := Lib.hid parse
  clear parse
  go_enter Tryz.func10, Tryz.ntmps10
  go_wp2_with fail
  refine (AL.out w HB).mono ?_
  rintro e w1 ⟨rfl, hb1⟩
  have B1 := HB.trans (hb1.mono HB.size)
  by_cases hbig : 3000 < s.length + t.length
  · have hbI : (3000 : Int) < (s.length : Int) + (t.length : Int) := by omega
    go_wp2_with fail
    refine (AL.out w1 B1).mono ?_
    rintro e w2 ⟨rfl, hb2⟩
    go_wp2_with fail
    go_ret
    exact ⟨rfl, B1.trans (hb2.mono B1.size)⟩
  · have hbI : ¬ (3000 : Int) < (s.length : Int) + (t.length : Int) := by omega
    have hs : s.length ≤ 3000 := by omega
    have ht : t.length ≤ 3000 := by omega
    have hbad := sums_bad hs ht
    have hgood := sums_good hs ht
    have e1 : ∀ L : List UInt8, rdText L = ((rdText L).1, (rdText L).2) := fun L => rfl
    obtain ⟨a, ea, hea⟩ : ∃ a ea, rdText s = (a, ea) := ⟨_, _, rfl⟩
    obtain ⟨b, eb, heb⟩ : ∃ b eb, rdText t = (b, eb) := ⟨_, _, rfl⟩
    obtain ⟨p, eg, heg⟩ : ∃ p eg, rdText (s ++ ([32, 43] ++ 32 :: t)) = (p, eg) := ⟨_, _, rfl⟩
    obtain ⟨q, eh, heh⟩ : ∃ q eh, rdText (s ++ 45 :: t) = (q, eh) := ⟨_, _, rfl⟩
    rw [hea, heb, heg, heh] at hbad hgood
    have GA := Lib.hid (rdText_good hea)
    have GB := Lib.hid (rdText_good heb)
    have P1 := PARSE.out w1 B1 s (by omega)
    rw [hea] at P1
    have HBAD := Lib.hid hbad
    have HGOOD := Lib.hid hgood
    have HE := Lib.hid (And.intro heb (And.intro heg heh))
    have hcat1 : (⟨s.toArray⟩ : ByteArray).size + (⟨#[32, 43, 32]⟩ : ByteArray).size ≤ 9223372036854775807 := by rw [ba_size]; show _ + 3 ≤ _; omega
    have happ1 : (⟨s.toArray⟩ : ByteArray) ++ (⟨#[32, 43, 32]⟩ : ByteArray) = ⟨(s ++ [32, 43, 32]).toArray⟩ := ba_app s [32, 43, 32]
    have hcat2 : (⟨(s ++ [32, 43, 32]).toArray⟩ : ByteArray).size + (⟨t.toArray⟩ : ByteArray).size ≤ 9223372036854775807 := by rw [ba_size, ba_size, List.length_append]; show _ + 3 + _ ≤ _; omega
    have happ2 : (⟨(s ++ [32, 43, 32]).toArray⟩ : ByteArray) ++ (⟨t.toArray⟩ : ByteArray) = ⟨(s ++ ([32, 43] ++ 32 :: t)).toArray⟩ := by rw [ba_app]; simp
    have hcat3 : (⟨s.toArray⟩ : ByteArray).size + (⟨#[45]⟩ : ByteArray).size ≤ 9223372036854775807 := by rw [ba_size]; show _ + 1 ≤ _; omega
    have happ3 : (⟨s.toArray⟩ : ByteArray) ++ (⟨#[45]⟩ : ByteArray) = ⟨(s ++ [45]).toArray⟩ := ba_app s [45]
    have hcat4 : (⟨(s ++ [45]).toArray⟩ : ByteArray).size + (⟨t.toArray⟩ : ByteArray).size ≤ 9223372036854775807 := by rw [ba_size, ba_size, List.length_append]; show _ + 1 + _ ≤ _; omega
    have happ4 : (⟨(s ++ [45]).toArray⟩ : ByteArray) ++ (⟨t.toArray⟩ : ByteArray) = ⟨(s ++ 45 :: t).toArray⟩ := by rw [ba_app]; simp
    clear hbad hgood hea heb heg heh e1
    go_wp2_with fail
    refine P1.mono ?_
    rintro e w2 ⟨a1, n1, c1, rfl, PA, hb2⟩
    have B2 := B1.trans (hb2.mono B1.size)
    have P2 := PARSE.out w2 B2 t (by omega)
    rw [HE.out.1] at P2
    clear P1
    go_wp2_with fail
    refine P2.mono ?_
    rintro e w3 ⟨a2, n2, c2, rfl, PB, hb3⟩
    have B3 := B2.trans (hb3.mono B2.size)
    have P3 := PARSE.out w3 B3 (s ++ ([32, 43] ++ 32 :: t)) (by simp; omega)
    rw [HE.out.2.1] at P3
    clear P2
    go_wp2_with fail
    refine P3.mono ?_
    rintro e w4 ⟨a3, n3, c3, rfl, PP, hb4⟩
    have B4 := B3.trans (hb4.mono B3.size)
    have P4 := PARSE.out w4 B4 (s ++ 45 :: t) (by simp; omega)
    rw [HE.out.2.2] at P4
    clear P3
    go_wp2_with fail
    refine P4.mono ?_
    rintro e w5 ⟨a4, n4, c4, rfl, PQ, hb5⟩
    have B5 := B4.trans (hb5.mono B4.size)
    have QA := Lib.hid (((PA.keep hb3).keep hb4).keep hb5)
    have QB := Lib.hid ((PB.keep hb4).keep hb5)
    have QP := Lib.hid (PP.keep hb5)
    have QQ := Lib.hid PQ
    have HL := Lib.hid (And.intro hs ht)
    clear P4 PA PB PP PQ hb1 hb2 hb3 hb4 hb5 B1 B2 B3 B4 hcat1 happ1 hcat2 happ2 hcat3 happ3 hcat4 happ4 HE hbI hbig
    by_cases hok : ea = 0 ∧ eb = 0
    · obtain ⟨rfl, rfl⟩ := hok
      obtain ⟨hne, hneg, hpos⟩ := HGOOD.out rfl rfl
      have HNEG := Lib.hid hneg
      have HPOS := Lib.hid hpos
      have HNE := Lib.hid hne
      clear hne hneg hpos HGOOD HBAD
      go_wp2_with fail
      go_loopw [13] (fun v13 wr => ∃ i : Nat, i ≤ t.length ∧ v13 = .int .i64 i ∧ wr = w5 ∧ Hid (Bl (t.take i))) (fun v13 _ => t.length - (intOf v13).toNat)
      case atStart => exact ⟨0, by omega, rfl, rfl, Lib.hid rfl⟩
      case round =>
        obtain ⟨i, hi, rfl, rfl, hbl⟩ := hrel
        by_cases hlt' : i < t.length
        · have hyy := at_getElem hlt'
          have hbs := Lib.hid (fun h => bl_take hlt' hbl.out h)
          have hat := Lib.hid (fun h => skp_at hlt' hbl.out h)
          have hdr := Lib.hid (List.drop_eq_getElem_cons hlt')
          generalize t[i] = ch at *
          by_cases h32 : (ch.toNat : Int) = 32
          · have hB : isBlk ch = true := by unfold isBlk; rw [h32]; rfl
            have HB2 := Lib.hid (hbs.out hB)
            clear hbs hat hdr hB
            go_wp2_with fail
            go_roundw
            case rel => exact ⟨i + 1, by omega, by go_num, by first | rfl | trivial, HB2⟩
            case measure => (first | (simp [intOf]; omega) | (simp [intOf]; done))
          · by_cases h9 : (ch.toNat : Int) = 9
            · have hB : isBlk ch = true := by unfold isBlk; rw [h9]; rfl
              have HB2 := Lib.hid (hbs.out hB)
              clear hbs hat hdr hB
              go_wp2_with fail
              go_roundw
              case rel => exact ⟨i + 1, by omega, by go_num, by first | rfl | trivial, HB2⟩
              case measure => (first | (simp [intOf]; omega) | (simp [intOf]; done))
            · have hB : isBlk ch = false := by
                unfold isBlk
                rw [Bool.or_eq_false_iff, beq_eq_false_iff_ne, beq_eq_false_iff_ne]
                exact ⟨h32, h9⟩
              have hsk := hat.out hB
              have hsk2 := hdr.out
              rw [hsk2] at hsk
              have hh45 : headIs (skp t) 45 = decide ((ch.toNat : Int) = 45) := by rw [hsk]; rfl
              have HSK := Lib.hid (hat.out hB)
              have hq32 : ((ch.toNat : Int) == 32) = false := by rw [beq_eq_false_iff_ne]; exact h32
              have hq9 : ((ch.toNat : Int) == 9) = false := by rw [beq_eq_false_iff_ne]; exact h9
              by_cases h45 : (ch.toNat : Int) = 45
              · obtain ⟨rfl, rfl⟩ := HNEG.out (by rw [hh45, decide_eq_true h45])
                clear hbs hat hdr hB hsk hsk2 hh45 HPOS HNEG HNE
                go_wp2_with fail
                go_ret
                exact ⟨by simp, B5⟩
              · obtain ⟨hp1, hp2, hp3⟩ := HPOS.out (by rw [hh45, decide_eq_false h45])
                obtain ⟨rfl, rfl⟩ := Prod.mk.inj hp1
                obtain rfl := hp2
                have HP3 := Lib.hid hp3
                clear hbs hat hdr hB hsk hsk2 hh45 HPOS HNEG HNE hp1 hp3
                go_wp2_with fail
                obtain ⟨wq, rfl⟩ : ∃ wq, wq = wr := ⟨_, rfl⟩
                go_loopw [14] (fun v14 wk => ∃ k : Nat, i ≤ k ∧ k ≤ t.length ∧ v14 = .int .i64 k ∧ wk = wq ∧ Hid (∀ c ∈ (t.take k).drop i, c ≠ 43 ∧ c ≠ 45)) (fun v14 _ => t.length - (intOf v14).toNat)
                case atStart => exact ⟨i, by omega, by omega, rfl, rfl, Lib.hid (fun c hc => by
                  rw [List.drop_of_length_le (by rw [List.length_take]; omega)] at hc; cases hc)⟩
                case round =>
                  obtain ⟨k, hik, hk, rfl, rfl, hno⟩ := hrel
                  by_cases hlk : k < t.length
                  · have hzz := at_getElem hlk
                    have hstep := Lib.hid (show (t.take (k + 1)).drop i = (t.take k).drop i ++ [t[k]] by
                      rw [List.take_succ_eq_append_getElem hlk, List.drop_append_of_le_length (by rw [List.length_take]; omega)])
                    generalize t[k] = ck at *
                    have GPA := GA.out
                    have GPB := GB.out
                    have hna : n1 ≤ 500000 := by have := QA.out.len; have := GPA.2.2; omega
                    have hnb : n2 ≤ 500000 := by have := QB.out.len; have := GPB.2.2; omega
                    have ADD := Lib.hid (polyAdd_c _ _ a1 n1 c1 a QA.out GPA.1 _ GPA.2.1 _ a2 n2 c2 b QB.out GPB.1 _ GPB.2.1 (by omega) hna hnb)
                    clear GPA GPB
                    by_cases h43 : (ck.toNat : Int) = 43 ∨ (ck.toNat : Int) = 45
                    · rcases h43 with h43 | h43
                      · clear hstep hno HP3
                        go_wp2_with fail
                        refine ADD.out.mono ?_
                        rintro e w6 ⟨a6, n6, c6, rfl, P6, hb6⟩
                        have B6 := B5.trans (hb6.mono B5.size)
                        have QP6 := QP.out.keep hb6
                        go_wp2_with fail
                        refine (same_c w6 _ a3 n3 c3 _ QP6 _ a6 n6 c6 P6).mono ?_
                        rintro e w7 ⟨rfl, hb7⟩
                        have B7 := B6.trans (hb7.mono B6.size)
                        go_wp2_with fail
                        go_ret
                        exact ⟨by simp, B7⟩
                      · clear hstep hno HP3
                        go_wp2_with fail
                        refine ADD.out.mono ?_
                        rintro e w6 ⟨a6, n6, c6, rfl, P6, hb6⟩
                        have B6 := B5.trans (hb6.mono B5.size)
                        have QP6 := QP.out.keep hb6
                        go_wp2_with fail
                        refine (same_c w6 _ a3 n3 c3 _ QP6 _ a6 n6 c6 P6).mono ?_
                        rintro e w7 ⟨rfl, hb7⟩
                        have B7 := B6.trans (hb7.mono B6.size)
                        go_wp2_with fail
                        go_ret
                        exact ⟨by simp, B7⟩
                    · have hq43 : ((ck.toNat : Int) == 43) = false := by rw [beq_eq_false_iff_ne]; exact fun h => h43 (.inl h)
                      have hq45 : ((ck.toNat : Int) == 45) = false := by rw [beq_eq_false_iff_ne]; exact fun h => h43 (.inr h)
                      have hno2 : Hid (∀ c ∈ (t.take (k + 1)).drop i, c ≠ 43 ∧ c ≠ 45) := Lib.hid fun c hc => by
                        rw [hstep.out] at hc
                        rcases List.mem_append.1 hc with hc | hc
                        · exact hno.out c hc
                        · simp only [List.mem_singleton] at hc
                          subst hc
                          refine ⟨?_, ?_⟩
                          · rintro rfl; exact h43 (.inl rfl)
                          · rintro rfl; exact h43 (.inr rfl)
                      have h431 : ¬ (ck.toNat : Int) = 43 := fun h => h43 (.inl h)
                      have h451 : ¬ (ck.toNat : Int) = 45 := fun h => h43 (.inr h)
                      clear h43 hstep hno
                      go_wp2_with fail
                      go_roundw
                      case rel => exact ⟨k + 1, by omega, by omega, by go_num, by first | rfl | trivial, hno2⟩
                      case measure => (first | (simp [intOf]; omega) | (simp [intOf]; done))
                  · obtain rfl : k = t.length := by omega
                    have hall : ∀ c ∈ skp t, c ≠ 43 ∧ c ≠ 45 := by
                      rw [HSK.out]
                      have h := hno.out
                      rwa [List.take_length] at h
                    have hq := HP3.out hall
                    have hq1 : q = addL a (b.map negT) := congrArg Prod.fst hq
                    have QQ2 := Lib.hid (show PolyAt _ _ a4 n4 c4 (addL a (b.map negT)) by rw [← hq1]; exact QQ.out)
                    have GPA := GA.out
                    have GPB := GB.out
                    have hna : n1 ≤ 500000 := by have := QA.out.len; have := GPA.2.2; omega
                    have hnb : n2 ≤ 500000 := by have := QB.out.len; have := GPB.2.2; omega
                    have ADD := Lib.hid (polyAdd_c _ _ a1 n1 c1 a QA.out GPA.1 _ GPA.2.1 _ a2 n2 c2 b QB.out GPB.1 _ GPB.2.1 (by omega) hna hnb)
                    have SUB := fun (W : World) (hW : Below _ _ W) => polySub_c W _ a1 n1 c1 a (QA.out.keep hW) GPA.1 _ GPA.2.1 _ a2 n2 c2 b (QB.out.keep hW) GPB.1 _ GPB.2.1 (by omega) (by omega) hna hnb
                    clear GPA GPB hno hall hq hq1 HP3
                    go_wp2_with fail
                    refine ADD.out.mono ?_
                    rintro e w6 ⟨a6, n6, c6, rfl, P6, hb6⟩
                    have B6 := B5.trans (hb6.mono B5.size)
                    have QP6 := QP.out.keep hb6
                    go_wp2_with fail
                    refine (same_c w6 _ a3 n3 c3 _ QP6 _ a6 n6 c6 P6).mono ?_
                    rintro e w7 ⟨rfl, hb7⟩
                    have B7 := B6.trans (hb7.mono B6.size)
                    go_wp2_with fail
                    refine (SUB w7 (hb6.trans (hb7.mono hb6.size))).mono ?_
                    rintro e w8 ⟨a8, n8, c8, rfl, P8, hb8⟩
                    have B8 := B7.trans (hb8.mono B7.size)
                    go_wp2_with fail
                    refine (same_c w8 _ a4 n4 c4 _ (QQ2.out.keep ((hb6.trans (hb7.mono hb6.size)).trans (hb8.mono (by have := hb6.size; have := hb7.size; omega)))) _ a8 n8 c8 P8).mono ?_
                    rintro e w9 ⟨rfl, hb9⟩
                    go_wp2_with fail
                    go_ret
                    exact ⟨by simp, B8.trans (hb9.mono B8.size)⟩
        · exact absurd (skp_all (by have : i = t.length := by omega
                                    have h := hbl.out
                                    rw [this, List.take_length] at h
                                    exact h)) HNE.out
    · have hor : ea ≠ 0 ∨ eb ≠ 0 := by
        by_cases h : ea = 0
        · exact .inr fun h' => hok ⟨h, h'⟩
        · exact .inl h
      rcases HBAD.out hor with ⟨rfl, rfl⟩ | ⟨rfl, rfl, rfl⟩ | ⟨rfl, rfl⟩ | ⟨rfl, h4, hg, hh, hb⟩
      · clear hok hor HGOOD HBAD
        go_wp2_with fail
        go_ret
        exact ⟨by simp, B5⟩
      · clear hok hor HGOOD HBAD
        go_wp2_with fail
        go_ret
        exact ⟨by simp, B5⟩
      · clear hok hor HGOOD HBAD
        go_wp2_with fail
        go_ret
        exact ⟨by simp, B5⟩
      · clear hok hor HGOOD HBAD
        rcases hb with rfl | rfl | rfl
        · clear h4
          rcases hg with rfl | rfl <;> rcases hh with rfl | rfl
          all_goals
            go_wp2_with fail
            go_ret
            exact ⟨by simp, B5⟩
        · clear h4
          rcases hg with rfl | rfl <;> rcases hh with rfl | rfl
          all_goals
            go_wp2_with fail
            go_ret
            exact ⟨by simp, B5⟩
        · obtain rfl := h4 rfl
          clear h4 hg
          rcases hh with rfl | rfl
          all_goals
            go_wp2_with fail
            go_ret
            exact ⟨by simp, B5⟩
end Go.Proofs.YtdamegaedmckbaaGreatDoor
end
