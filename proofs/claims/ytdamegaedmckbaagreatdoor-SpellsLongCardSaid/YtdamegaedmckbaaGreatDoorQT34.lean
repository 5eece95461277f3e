/- The document's reader: a sum, plainly. No condition. The document's answer, layer 1: Parse (function 248), at digits, not too many. No further condition. -/
import Derived.Test.YtdamegaedmckbaaGreatDoorQT33
import Derived.Test.YtdamegaedmckbaaGreatDoorQT30
import Derived.Test.YtdamegaedmckbaaGreatDoorQT5
import Derived.Test.YtdamegaedmckbaaGreatDoorQTZ
set_option linter.unusedSimpArgs false
set_option linter.unusedVariables false
set_option maxRecDepth 100000
set_option maxHeartbeats 4000000
section
namespace Go.Proofs.YtdamegaedmckbaaGreatDoor
open Go.RowKit
theorem rdPow_many {L : List UInt8} {n : Nat} {r : List UInt8} {m : Bool} (h : rdPow L true = some (n, r, m)) : m = true := by
 have := rdPow_or L false true
 rw [show (false || true) = true from rfl, h] at this
 cases hy : rdPow L false with
 | none => rw [hy] at this; cases this
 | some y => rw [hy] at this; simp at this; exact this.2.2
theorem rdPos_many {L : List UInt8} {d : List UInt8} {r : List UInt8} {m : Bool} (h : rdPos L true = some (d, r, m)) : m = true := by
 have := rdPos_or L false true
 rw [show (false || true) = true from rfl, h] at this
 cases hy : rdPos L false with
 | none => rw [hy] at this; cases this
 | some y => rw [hy] at this; simp at this; exact this.2.2
theorem rdNum_many {L : List UInt8} {d : List UInt8} {r : List UInt8} {m : Bool} (h : rdNum L true = some (d, r, m)) : m = true := by
 have := rdNum_or L false true
 rw [show (false || true) = true from rfl, h] at this
 cases hy : rdNum L false with
 | none => rw [hy] at this; cases this
 | some y => rw [hy] at this; simp at this; exact this.2.2
theorem rdFrac_many {L : List UInt8} {c : PC} {r : List UInt8} {m : Bool} (h : rdFrac L true = some (c, r, m)) : m = true := by
 unfold rdFrac at h
 split at h
 ·cases h
 ·next t r' m' h' =>
  have := rdNum_many h'
  subst this
  split at h
  ·split at h
   ·cases h
   ·next l r'' m'' h'' =>
    have := rdPos_many h''
    subst this
    cases h
    rfl
  ·cases h
   rfl
theorem rdFactor_many {s t : TS} (h : rdFactor s = some t) (hm : s.many = true) : t.many = true := by
 unfold rdFactor at h
 rw [hm] at h
 split at h
 ·cases h
 ·split at h
  ·split at h
   ·cases h
   ·next n r' m h' => cases h; exact rdPow_many h'
  ·split at h
   ·cases h
   ·next c r' m h' => cases h; exact rdFrac_many h'
theorem rdLoop_many : ∀ (n : Nat) (s : TS) {t : TS}, s.L.length ≤ n → rdLoop s = some t → s.many = true → t.many = true
 | 0, s, t, hn, h, _ => by have := rdLoop_len _ h; omega
 | n + 1, s, t, hn, h, hm => by
  obtain ⟨hs, u, hu, hh⟩ := rdLoop_cases h
  have hum := rdFactor_many hu hm
  have h1 := rdFactor_len hu
  have h2 := skp_le u.L
  have h3 := skp_le (skp u.L).tail
  have h4 : (skp u.L).tail.length ≤ (skp u.L).length := by simp
  rcases hh with ⟨_, h5⟩ | ⟨_, _, h5⟩ | ⟨_, _, h5⟩
  ·exact rdLoop_many n _ (by show (skp (skp u.L).tail).length ≤ n; omega) h5 hum
  ·exact rdLoop_many n _ (by show (skp u.L).length ≤ n; omega) h5 hum
  ·subst h5; exact hum
theorem rdTerm_many {L : List UInt8} {m neg : Bool} {l : List PT} {r : List UInt8} {m' : Bool} (h : rdTerm L m neg = some (l, r, m')) (hm : m' = false) : m = false := by
 cases hmm : m
 ·rfl
 ·rw [hmm] at h
  unfold rdTerm at h
  split at h
  ·cases h
  ·next t ht =>
   have := rdLoop_many _ _ (Nat.le_refl _) ht rfl
   cases h
   rw [this] at hm
   cases hm
structure SRel (L : List UInt8) (X : Option (List PT × Bool)) (k : Nat) (m : Bool) (pd : List PT) : Prop where
 ex : ∃ p, X = rdMore p (L.drop k) m ∧ (m = false → pd = p)
 pw : PW pd
 few : ∃ K, FewL K pd ∧ K + 3 * (L.length - k) ≤ 300000
 len : pd.length + (L.length - k) ≤ 100000
def SRelE (L : List UInt8) (X : Option (List PT × Bool)) (k : Nat) (e : Int) (m : Bool) (pd : List PT) : Prop :=
 (e = 4 ∧ X = none) ∨ (e = 0 ∧ SRel L X k m pd)
theorem PW.nil : PW [] := ⟨by simp, by simp, by simp⟩
theorem SRelE.start {L : List UInt8} {k k' : Nat} {neg : Bool} {e' : Int} {m' : Bool} {l : List PT} (hL : L.length ≤ 65536) (hk : k ≤ L.length) (hr : DTermRel L (rdTerm (L.drop k) false neg) k' e' m' l) (hk' : k' ≤ L.length) :
  SRelE L (match rdTerm (L.drop k) false neg with | none => none | some (l, r, m) => rdMore l r m) k' e' m' l := by
 cases hx : rdTerm (L.drop k) false neg with
 | none =>
  rw [hx] at hr
  exact .inl ⟨hr.1, rfl⟩
 | some x =>
  obtain ⟨l0, r, m⟩ := x
  rw [hx] at hr
  obtain ⟨h1, h2, h3, h4⟩ := hr
  obtain ⟨g1, g2, g3⟩ := rdTerm_good hx
  have g4 := rdTerm_len hx
  rw [h2] at g2 g4
  simp only [List.length_drop] at g2 g4
  subst h3
  refine .inr ⟨h1, ⟨l0, by rw [h2], fun h => by rw [h4, h]; rfl⟩, ?_, ?_, ?_⟩
  ·rw [h4]; split
   ·exact PW.nil
   ·exact g1
  ·rw [h4]; split
   ·exact ⟨0, fun t ht => (by cases ht), by omega⟩
   ·exact ⟨_, g2, by omega⟩
  ·rw [h4]; split
   ·simp; omega
   ·omega
def SgnAt (L : List UInt8) (k : Nat) (neg : Bool) : Prop := (neg = true ∧ headIs (L.drop k) 45 = true) ∨ (neg = false ∧ headIs (L.drop k) 45 = false ∧ headIs (L.drop k) 43 = true)
theorem SRel.next {L : List UInt8} {X : Option (List PT × Bool)} {k k' : Nat} {m : Bool} {pd : List PT} (h : SRel L X k m pd) (hk : k < L.length) {neg : Bool} (hc : SgnAt L k neg) {e' : Int} {m' : Bool} {l : List PT} (hr : DTermRel L (rdTerm (L.drop (k + 1)) m neg) k' e' m' l) (hk' : k' ≤ L.length) :
  SRelE L X k' e' m' (addL pd l) := by
 obtain ⟨p, hX, hp⟩ := h.ex
 obtain ⟨K, hK, hKK⟩ := h.few
 have hlen := h.len
 have hb : (L[k] = 45 ∨ L[k] = 43) ∧ decide (L[k] = 45) = neg := by
  rcases hc with ⟨h1, h2⟩ | ⟨h1, h2, h3⟩
  ·rw [headIs_drop hk, decide_eq_true_eq] at h2
   have : L[k] = 45 := UInt8.toNat_inj.1 (by show _ = 45; omega)
   exact ⟨.inl this, by rw [this, h1]; rfl⟩
  ·rw [headIs_drop hk, decide_eq_true_eq] at h3
   have : L[k] = 43 := UInt8.toNat_inj.1 (by show _ = 43; omega)
   exact ⟨.inr this, by rw [this, h1]; rfl⟩
 have hX2 : X = match rdTerm (L.drop (k + 1)) m neg with | none => none | some (l', r', m') => rdMore (addL p l') r' m' := by
  rw [hX, drop_head hk, rdMore, if_pos hb.1, hb.2]
  split <;> simp_all
 cases hx : rdTerm (L.drop (k + 1)) m neg with
 | none =>
  rw [hx] at hr hX2
  exact .inl ⟨hr.1, hX2⟩
 | some x =>
  obtain ⟨l0, r, m1⟩ := x
  rw [hx] at hr hX2
  obtain ⟨h1, h2, h3, h4⟩ := hr
  obtain ⟨g1, g2, g3⟩ := rdTerm_good hx
  have g4 := rdTerm_len hx
  rw [h2] at g2 g4
  simp only [List.length_drop] at g2 g4
  subst h3
  have hgood : PW l ∧ FewL (1 + (L.length - (k + 1) - (L.length - k'))) l ∧ l.length ≤ 1 := by
   rw [h4]; split
   ·exact ⟨PW.nil, fun t ht => (by cases ht), by simp⟩
   ·exact ⟨g1, g2, g3⟩
  have q5 := addL_length pd l
  refine .inr ⟨h1, ⟨addL p l0, by rw [hX2, h2], fun hm => ?_⟩, h.pw.add hgood.1, ⟨_, FewL.add pd l h.pw.good hgood.1.good hK hgood.2.1, by omega⟩, by omega⟩
  rw [hp (rdTerm_many hx hm), h4, hm]
  rfl
theorem SRel.bad {L : List UInt8} {X : Option (List PT × Bool)} {k : Nat} {m : Bool} {pd : List PT} (h : SRel L X k m pd) (hk : k < L.length) (h1 : headIs (L.drop k) 45 = false) (h2 : headIs (L.drop k) 43 = false) : X = none := by
 obtain ⟨p, hX, _⟩ := h.ex
 rw [headIs_drop hk, decide_eq_false_iff_not] at h1 h2
 rw [hX, drop_head hk, rdMore, if_neg (by rintro (e | e) <;> simp [e] at h1 h2)]
theorem SRel.done {L : List UInt8} {X : Option (List PT × Bool)} {k : Nat} {m : Bool} {pd : List PT} (h : SRel L X k m pd) (hk : L.length ≤ k) : ∃ p, X = some (p, m) ∧ (m = false → pd = p) := by
 obtain ⟨p, hX, hp⟩ := h.ex
 rw [List.drop_eq_nil_of_le hk, rdMore] at hX
 exact ⟨p, hX, hp⟩
theorem rdSum_at (L : List UInt8) (k1 k2 : Nat) (h1 : L.drop k1 = skp L) (h2 : k2 = if headIs (L.drop k1) 45 then k1 + 1 else k1) : rdSum L = match rdTerm (L.drop k2) false (headIs (L.drop k1) 45) with | none => none | some (l, r, m) => rdMore l r m := by
 unfold rdSum
 rw [← h1]
 have e : (if headIs (L.drop k1) 45 = true then (L.drop k1).tail else L.drop k1) = L.drop k2 := by
  rw [h2]; split
  ·rw [tail_drop]
  ·rfl
 rw [e]
 cases rdTerm (L.drop k2) false (headIs (L.drop k1) 45) <;> rfl
def docMeas2 (w : World) (R n : Nat) : Nat :=
 match w.cell? ⟨R, 2, none⟩ with
 | some v => if intOf v = 0 then (n - (match w.cell? ⟨R, 1, none⟩ with | some v => (intOf v).toNat | none => 0)) + 1 else 0
 | none => 0
theorem docMeas2_at {w : World} {R k : Nat} {L : List UInt8} {e : Int} {m : Bool} (h : DocAt w R L k e m) : docMeas2 w R L.length = if e = 0 then (L.length - k) + 1 else 0 := by
 unfold docMeas2
 rw [h.c1, h.c2]
 by_cases he : e = 0 <;> simp [intOf, he]
theorem term_gt {L : List UInt8} {k k' : Nat} {m neg : Bool} {e' : Int} {m' : Bool} {l : List PT} (hr : DTermRel L (rdTerm (L.drop (k + 1)) m neg) k' e' m' l) (he : e' = 0) : k < k' := by
 cases hx : rdTerm (L.drop (k + 1)) m neg with
 | none => rw [hx] at hr; have := hr.1; omega
 | some x =>
  obtain ⟨l0, r, m1⟩ := x
  rw [hx] at hr
  have g4 := rdTerm_len hx
  rw [hr.2.1] at g4
  simp only [List.length_drop] at g4
  omega
theorem meas2_lt {n k k' : Nat} {e' : Int} (h : e' = 0 → k < k') (hk : k < n) : (if e' = 0 then n - k' + 1 else 0) < (if (0 : Int) = 0 then n - k + 1 else 0) := by
 rw [if_pos rfl]
 split
 ·next he => have := h he; omega
 ·omega
theorem term_few {L L' : List UInt8} {k' : Nat} {m neg : Bool} {e' : Int} {m' : Bool} {l : List PT} (hr : DTermRel L (rdTerm L' m neg) k' e' m' l) (hl : L'.length ≤ L.length) : PW l ∧ FewL (L.length + 1) l ∧ l.length ≤ 1 := by
 cases hx : rdTerm L' m neg with
 | none =>
  rw [hx] at hr
  rw [hr.2]
  exact ⟨PW.nil, fun t ht => (by cases ht), by simp⟩
 | some x =>
  obtain ⟨l0, r, m1⟩ := x
  rw [hx] at hr
  obtain ⟨g1, g2, g3⟩ := rdTerm_good hx
  rw [hr.2.2.2]
  split
  ·exact ⟨PW.nil, fun t ht => (by cases ht), by simp⟩
  ·exact ⟨g1, g2.mono qB, g3⟩
end Go.Proofs.YtdamegaedmckbaaGreatDoor
end
section
namespace Go.Proofs.YtdamegaedmckbaaGreatDoor
open Go.RowKit
theorem digitsB_head {b : UInt8} {t : List UInt8} (h : digitsB (b :: t) = true) : ¬ (b.toNat : Int) = 45 := by
 have h1 := (digitsB_all h).1
 simp only [List.all_cons, Bool.and_eq_true] at h1
 have := h1.1
 unfold isDig at this
 rw [decide_eq_true_eq] at this
 omega
theorem piece_step {s : List UInt8} {j i : Nat} (hj : j - 9 ≤ i) (hi : i < j) (hl : j ≤ s.length) : numN ((s.take (i + 1)).drop (j - 9)) = 10 * numN ((s.take i).drop (j - 9)) + ((s[i]'qB).toNat - 48) := by
 rw [List.take_succ_eq_append_getElem qB, List.drop_append_of_le_length (by rw [List.length_take]; omega), numN_snoc]
theorem piece_small {s : List UInt8} (ha : s.all isDig = true) {j i : Nat} (hi : i ≤ j) : numN ((s.take i).drop (j - 9)) < 1000000000 := by
 apply numN_nine
 ·rw [List.all_eq_true] at ha ⊢
  exact fun x hx => ha x (List.mem_of_mem_take (List.mem_of_mem_drop hx))
 ·rw [List.length_drop, List.length_take]; omega
theorem piece_less {s : List UInt8} (ha : s.all isDig = true) {j i : Nat} (hi : i < j) : numN ((s.take i).drop (j - 9)) < 100000000 := by
 have h0 : ((s.take i).drop (j - 9)).all isDig = true := by
  rw [List.all_eq_true] at ha ⊢
  exact fun x hx => ha x (List.mem_of_mem_take (List.mem_of_mem_drop hx))
 have h1 := numN_lt h0
 have h2 : 10 ^ ((s.take i).drop (j - 9)).length ≤ 10 ^ 8 := Nat.pow_le_pow_right qB (by rw [List.length_drop, List.length_take]; omega)
 omega
def RetParse (w : World) (z : Int) (e : Ending) (w' : World) : Prop := ∃ g a n c, e = .returned (.tuple #[.agg #[.bool g, .slice a n c], .int .i64 0]) ∧ NumAt w' g a n c z ∧ Fresh w.heap.size w' a c ∧ Below w.heap.size w w'
theorem rParse_c (w : World) (d : List UInt8) (hd : digitsB d = true) (hlen : d.length ≤ 200) :
  Calls Tryz.prog 248 #[.string ⟨d.toArray⟩] w (RetParse w (numN d)) := by
 have HB := Below.refl w.heap.size w
 obtain ⟨i0, hi, hi0, hi1, hi2⟩ := info_parts info112
 obtain ⟨hall, h0⟩ := digitsB_all hd
 have HA := Lib.hid hall
 have HD := Lib.hid hd
 cases d with
 | nil => simp at h0
 | cons b t =>
  have h45 := digitsB_head hd
  have hy : (⟨(b :: t).toArray⟩ : ByteArray)[0]'(by simp [ByteArray.size]) = b := by simp [ByteArray.getElem_eq_getElem_data]
  clear hall h0 hd
  go_enter Tryz.func248, Tryz.ntmps248
  have hl : ¬ (200 : Int) < (t.length : Int) + 1 := by simp at hlen; omega
  go_wp2_with (first | (go_at_call 247; refine (rDigits_247 _ (b :: t) qB).mono ?_; rw [HD.out]; rintro e w1 ⟨rfl, hb1⟩; have s0_0 : w1.cell? ⟨w.heap.size, 0, none⟩ = some (.bool false) := cell_keep hb1 qJ; have s0_1 : w1.cell? ⟨w.heap.size, 1, none⟩ = some (.slice none 0 0) := cell_keep hb1 qJ; have f0_0 : w1.frozen? ⟨w.heap.size, 0, none⟩ = false := (Below.frozen hb1 qH).trans qJ; have f0_1 : w1.frozen? ⟨w.heap.size, 1, none⟩ = false := (Below.frozen hb1 qH).trans qJ))
  have hz1 := hb1.size
  simp only [World.size_alloc] at hz1
  have HB1 := zB w hb1
  clear hb1 hy h45 hl HD
  have hst := SoFar.start (b :: t)
  have hsl : ((b :: t).length : Int) = (t.length : Int) + 1 := by simp
  generalize b :: t = s at *
  go_loopw [5, 6] (fun v5 v6 wr => ∃ (z : Int) (dl : List Nat), -9 ≤ z ∧ z ≤ 200 ∧ Hid (SoFar s z.toNat dl) ∧ v6 = .int .i64 z ∧ wr.ownsRow (w.heap.size + 1) 112 1 v5 dl.length (vals dl) ∧ Below (w.heap.size + 1) w1 wr) (fun _ v6 _ => (intOf v6).toNat)
  case atStart => exact ⟨s.length, [], by omega, by omega, Lib.hid hst, by rw [hsl], ⟨rfl, .inl ⟨rfl, rfl⟩⟩, Below.refl _ _⟩
  case round =>
   obtain ⟨z, dl, hz9, hz200, hSF, rfl, hown, HBr⟩ := hrel
   have hle := hSF.out.le
   have hzr := HBr.size
   by_cases hz0 : 0 < z
   ·obtain ⟨j, rfl⟩ : ∃ j : Nat, z = j := ⟨z.toNat, by omega⟩
    rw [Int.toNat_natCast] at hSF hle
    have hnx := Lib.hid (hSF.out.next HA.out qB)
    have hmx : max (0 : Int) ((j : Int) - 9) = ((j - 9 : Nat) : Int) := by omega
    have hsm := hSF.out.small
    have hfw := hSF.out.few
    have HS := Lib.hid hsm
    clear hsm hst
    obtain ⟨wp, rfl⟩ : ∃ wp, wp = wr := ⟨_, rfl⟩
    go_wp2_with fail
    go_loopw [7, 8] (fun v7 v8 wq => ∃ i : Nat, j - 9 ≤ i ∧ i ≤ j ∧ v7 = .int .u32 (numN ((s.take i).drop (j - 9)) : Nat) ∧ v8 = .int .i64 i ∧ Below wp.heap.size wp wq) (fun _ v8 _ => j - (intOf v8).toNat)
    case atStart => exact ⟨j - 9, Nat.le_refl _, by omega, by rw [List.drop_eq_nil_of_le (by rw [List.length_take]; omega)]; rfl, by first | rfl | rw [hmx], Below.refl _ _⟩
    case round =>
     obtain ⟨i, hji, hij, rfl, rfl, HBq⟩ := hrel
     have hzq := HBq.size
     by_cases hlt : i < j
     ·have hil : i < s.length := by omega
      have hy : (⟨s.toArray⟩ : ByteArray)[i]'(by simpa [ByteArray.size] using hil) = s[i] := by simp [ByteArray.getElem_eq_getElem_data]
      have hb : isDig s[i] = true := List.all_eq_true.1 HA.out _ (List.getElem_mem hil)
      have HN := Lib.hid (piece_step hji hlt hle)
      have hx8 := piece_less HA.out hlt
      generalize s[i] = b at *
      unfold isDig at hb
      rw [decide_eq_true_eq] at hb
      obtain ⟨b1, b2⟩ := hb
      generalize hx : numN ((s.take i).drop (j - 9)) = x at *
      go_wp2_with fail
      go_roundw
      case rel => exact ⟨i + 1, by omega, by omega, by rw [HN.out]; go_num, by go_num, by first | assumption | go_grown⟩
      case measure => (first | (simp [intOf]; omega) | (simp [intOf]; done))
     ·obtain rfl : i = j := by omega
      have hx9 := piece_small HA.out (Nat.le_refl i)
      generalize numN ((s.take i).drop (i - 9)) = x at *
      go_wp2_with (at_builtin; refine wpList_append_own _ rfl _ _ 57 rfl (w.heap.size + 1) 112 i0 (.int .u32 0) 1 4 Tryz.underlying57 hi hi0 hi1 hi2 rfl qC _ dl.length (vals dl) rfl ((ownsRow_keep hown HBq).alloc _) ⟨wr.heap.size, 0, none⟩ 1 1 [.int .u32 (x : Nat)] rfl rfl (cell_one_new _ _ _) (by simp [Value.oneCell']) qO qB qA ?_; intro v4 w4 hown4 hgrow4 _)
      go_roundw
      case rel => exact ⟨(i : Int) - 9, dl ++ [x], by omega, by omega, by rw [show ((i : Int) - 9).toNat = i - 9 by omega]; exact hnx, by go_num, by rw [vals_append, List.length_append]; exact hown4, ((HBr.trans (HBq.mono qB)).alloc qB _).grown hgrow4 qM (own_ge hown)⟩
      case measure => (simp [intOf]; omega)
   ·have hj0 : z.toNat = 0 := by omega
    rw [hj0] at hSF
    obtain ⟨ao, co, rfl, hrd, hfr⟩ := owns_list hown (by have := hSF.out.few; omega) (fun i => lim_small_of_lt (fun x hx => by have := hSF.out.small x hx; omega) i)
    have d0 := (HBr.cell (p := ⟨w.heap.size, 0, none⟩) (Nat.lt_succ_self _)).trans s0_0
    have d1 := (HBr.cell (p := ⟨w.heap.size, 1, none⟩) (Nat.lt_succ_self _)).trans s0_1
    have g0 := (HBr.frozen (p := ⟨w.heap.size, 0, none⟩) (Nat.lt_succ_self _)).trans f0_0
    have g1 := (HBr.frozen (p := ⟨w.heap.size, 1, none⟩) (Nat.lt_succ_self _)).trans f0_1
    have HBw : Below w.heap.size w wr := HB1.trans (HBr.mono qB)
    have hvd := hSF.out.done
    have hge : NewA (w.heap.size + 1) ao := fun x hx => own_ge hown _ (by rw [hx]; rfl)
    have hsm := hSF.out.small
    clear hown HBr hSF s0_0 s0_1 f0_0 f0_1
    go_wp2_with (first | (go_at_call 188; refine (rnum_c _ false ao dl.length co dl hrd hsm).mono ?_; rintro e w5 ⟨g5, n5, rfl, hn5, hz5, hb5⟩; replace d0 := cell_keep hb5 d0; replace d1 := cell_keep hb5 d1; replace g0 := (Below.frozen hb5 (by show w.heap.size < _; omega)).trans g0; replace g1 := (Below.frozen hb5 (by show w.heap.size < _; omega)).trans g1))
    refine bodyPost_ret (v := .tuple #[.agg #[.bool g5, .slice ao n5 co], .int .i64 0]) (by simp [*, results, Tryz.results248, go_sem]) rfl ?_
    have hlt0 : w.heap.size < wr.heap.size := by omega
    have hnz : NumAt w5 g5 ao n5 co (numN s) := by rw [hvd] at hz5; simpa [sgn] using hz5
    have HB5 := HBw.trans (hb5.mono HBw.size)
    refine ⟨g5, ao, n5, co, rfl, ?_, ?_, ?_⟩
    ·exact hnz.butR (.inr hge) (grown_set _ (grown_set _ (grown_refl _ _))) (fun k hk => by cases hk; exact Nat.lt_succ_self _)
    ·have hfr3 : Fresh (w.heap.size + 1) w5 ao co := hfr.keep hb5
     exact ((hfr3.setNew _ _ (by show w.heap.size < _; omega)).setNew _ _ (by show w.heap.size < _; omega)).mono qB
    ·go_grown
end Go.Proofs.YtdamegaedmckbaaGreatDoor
end
