/- Package limbs: Parse, at digits. No further condition. -/
import Derived.Test.YtdamegaedmckbaaGreatDoorX26
import Derived.Test.YtdamegaedmckbaaGreatDoorX5
import Derived.Test.YtdamegaedmckbaaGreatDoorX27
import Derived.Test.YtdamegaedmckbaaGreatDoorX31
set_option linter.unusedSimpArgs false
set_option linter.unusedVariables false
section
namespace Go.Proofs.YtdamegaedmckbaaGreatDoor
open Go.RowKit

/-- What a text of digits is read as. -/
def RetNumE (w : World) (z : Int) (e : Ending) (w' : World) : Prop := ∃ g a n c, ∃ k : Int, e = .returned (.tuple #[.agg #[.bool g, .slice a n c], .int .i64 k]) ∧ NumAt w' g a n c z ∧ Below w.heap.size w w'
theorem bytes_or {w w' : World} {s : ByteArray} (h : w' = w ∨ w' = Lib.bytesWorld w 5 s) : Below w.heap.size w w' := by
  rcases h with rfl | rfl
  · exact Below.refl _ _
  · exact Lib.bytesWorld_below _ _ _
theorem lim_nine {d : List Nat} (h : ∀ x ∈ d, x < 1000000000) (i : Nat) : 0 ≤ lim d i ∧ lim d i < 4294967296 := by
  unfold lim
  rw [List.getD_eq_getElem?_getD]
  cases hi : d[i]? with
  | none => simp
  | some x =>
    have := h x (List.mem_of_getElem? hi)
    simp
    omega
theorem rdl_own {w : World} {base : Nat} {ao : Option Addr} {n co : Nat} {d : List Nat} (h : w.ownsRow base 112 1 (.slice ao n co) n (vals d)) (hn : n = d.length) (hs : ∀ i, 0 ≤ lim d i ∧ lim d i < 4294967296) (hf : n ≤ 35184372088832) : RdL w ao n co d := by
  rcases h.2 with ⟨h1, h2⟩ | ⟨g, cap, cur, h1, h2⟩
  · simp only [Value.slice.injEq] at h1
    obtain ⟨rfl, rfl, rfl⟩ := h1
    have : d = [] := List.length_eq_zero_iff.1 hn.symm
    subst this
    exact rdl_nil _
  · simp only [Value.slice.injEq, true_and] at h1
    obtain ⟨rfl, rfl⟩ := h1
    exact rdl_of_owns h hf hs
/-- A text's length. -/
def strLen : Value → Nat
  | .string x => x.size
  | _ => 0
theorem strLen_list (l : List UInt8) : strLen (.string ⟨l.toArray⟩) = l.length := by simp [strLen, ByteArray.size]
theorem drop_all (p : UInt8 → Bool) (l : List UInt8) (h : l.all p = true) : l.dropWhile p = [] := by
  induction l with
  | nil => rfl
  | cons b r ih =>
    simp only [List.all_cons, Bool.and_eq_true] at h
    rw [List.dropWhile_cons, h.1]
    exact ih h.2
theorem trim_none {d : List UInt8} (h : d.all isDig = true) : Lib.trimS d [48, 49, 50, 51, 52, 53, 54, 55, 56, 57] = [] := by
  have e : (fun b => ([48, 49, 50, 51, 52, 53, 54, 55, 56, 57] : List UInt8).contains b) = isDig := funext dig_contains
  unfold Lib.trimS Lib.trimLeftS Lib.trimRightS
  rw [e, drop_all isDig d.reverse (by rw [List.all_reverse]; exact h)]
  rfl
theorem cutPrefix_dig {b : UInt8} {t : List UInt8} (h : (b :: t).all isDig = true) : Lib.hasPrefix (b :: t) [45] = false ∧ Lib.trimPrefix (b :: t) [45] = b :: t := by
  obtain ⟨h1, h2⟩ := isDig_nat (b := b) (by simp only [List.all_cons, Bool.and_eq_true] at h; exact h.1)
  have hb : ¬ 45 = b := fun e => by subst e; revert h1; decide
  have hb' : ((45 : UInt8) == b) = false := by simpa using hb
  have h3 : Lib.hasPrefix (b :: t) [45] = false := by
    simp [Lib.hasPrefix, List.isPrefixOf, hb']
  refine ⟨h3, ?_⟩
  simp [Lib.trimPrefix, h3]
set_option maxRecDepth 100000 in
set_option maxHeartbeats 4000000 in
theorem limbsParse_c (w : World) (d : List UInt8) (hd : digitsB d = true) (hlen : d.length < 1000000000) :
    Calls Tryz.prog 245 #[.string ⟨d.toArray⟩] w (RetNumE w (numZ d)) := by
  have HB := Below.refl w.heap.size w
  obtain ⟨i0, hi, hi0, hi1, hi2⟩ := info_parts info112
  have HD := Lib.hid hd
  obtain ⟨hall, h0⟩ := digitsB_all hd
  have HA := Lib.hid hall
  cases d with
  | nil => simp at h0
  | cons b t =>
    obtain ⟨hp1, hp2⟩ := cutPrefix_dig hall
    have htr := trim_none hall
    have hC := fun W => Tryz.strings_CutPrefix ⟨(b :: t).toArray⟩ ⟨#[45]⟩ W
    simp only [hp1, hp2] at hC
    have hT := fun W => Tryz.Trim_set ⟨(b :: t).toArray⟩ ⟨#[48, 49, 50, 51, 52, 53, 54, 55, 56, 57]⟩ W (by simp [ByteArray.size]; simp at hlen; omega) (by simp [ByteArray.size]) (Go.Proofs.ascii_of_all (by decide))
    simp only [htr] at hT
    clear hd hall hp1 hp2 htr h0
    go_enter Tryz.func245, Tryz.ntmps245
    have hy : (⟨(b :: t).toArray⟩ : ByteArray)[0]'(by simp [ByteArray.size]) = b := by simp [ByteArray.getElem_eq_getElem_data]
    have hcase : ((b.toNat : Int) = 48 ∧ (!b == 48 || !t.isEmpty) = false) ∨ ¬ (b.toNat : Int) = 48 := by
      have := HD.out
      simp only [digitsB, HA.out, Bool.true_and, Bool.or_eq_true, decide_eq_true_eq] at this
      rcases this with h | h
      · by_cases hb : b = 48
        · subst hb; exact .inl ⟨rfl, by simp [h]⟩
        · exact .inr fun e => hb (UInt8.toNat_inj.1 (by show b.toNat = 48; omega))
      · exact .inr h
    by_cases hl : (200 : Int) < (t.length : Int) + 1
    · have hz : numZ (b :: t) = 0 := by unfold numZ; rw [if_pos (by simp; omega)]
      rw [hz]
      clear hz
      rcases hcase with ⟨hb48, hb2⟩ | hb48 <;>
      go_wp2_with (first | (go_at_call 291; refine (hC _).mono ?_; rintro e w1 ⟨rfl, rfl⟩) | (go_at_call 292; (with_reducible refine (hT _).mono ?_); rintro e w1 ⟨rfl, hb⟩; obtain ⟨hc, hf⟩ := bcell hb; have hz := hb.size; (try simp only [World.size_alloc, World.size_drew, World.size_setCell] at hz); replace HB : Below w.heap.size w w1 := Below.trans (by go_grown) (hb.mono (by go_size)); have s0_0 : w1.cell? ⟨w.heap.size, 0, none⟩ = some (.bool false) := (hc _ _ (by go_size)).trans (by first | assumption | (simp [go_sem]; done) | (simp [*, go_sem]; done)); have s0_1 : w1.cell? ⟨w.heap.size, 1, none⟩ = some (.slice none 0 0) := (hc _ _ (by go_size)).trans (by first | assumption | (simp [go_sem]; done) | (simp [*, go_sem]; done)); have f0_0 : w1.frozen? ⟨w.heap.size, 0, none⟩ = false := (hf _ _ (by go_size)).trans (by first | assumption | (simp [go_sem]; done) | (simp [*, go_sem]; done)); have f0_1 : w1.frozen? ⟨w.heap.size, 1, none⟩ = false := (hf _ _ (by go_size)).trans (by first | assumption | (simp [go_sem]; done) | (simp [*, go_sem]; done))))
      all_goals
        refine bodyPost_ret (v := .tuple #[.agg #[.bool false, .slice none 0 0], .int .i64 3]) (by simp [*, results, Tryz.results245, go_sem]) rfl ?_
        exact ⟨false, none, 0, 0, 3, rfl, numAt_nil _, by go_grown⟩
    · have hz : numZ (b :: t) = numN (b :: t) := by unfold numZ; rw [if_neg (by simp; omega)]
      rw [hz]
      clear hz
      rcases hcase with ⟨hb48, hb2⟩ | hb48
      · go_wp2_with (first | (go_at_call 291; refine (hC _).mono ?_; rintro e w1 ⟨rfl, rfl⟩) | (go_at_call 292; (with_reducible refine (hT _).mono ?_); rintro e w1 ⟨rfl, hb⟩; obtain ⟨hc, hf⟩ := bcell hb; have hz := hb.size; (try simp only [World.size_alloc, World.size_drew, World.size_setCell] at hz); replace HB : Below w.heap.size w w1 := Below.trans (by go_grown) (hb.mono (by go_size)); have s0_0 : w1.cell? ⟨w.heap.size, 0, none⟩ = some (.bool false) := (hc _ _ (by go_size)).trans (by first | assumption | (simp [go_sem]; done) | (simp [*, go_sem]; done)); have s0_1 : w1.cell? ⟨w.heap.size, 1, none⟩ = some (.slice none 0 0) := (hc _ _ (by go_size)).trans (by first | assumption | (simp [go_sem]; done) | (simp [*, go_sem]; done)); have f0_0 : w1.frozen? ⟨w.heap.size, 0, none⟩ = false := (hf _ _ (by go_size)).trans (by first | assumption | (simp [go_sem]; done) | (simp [*, go_sem]; done)); have f0_1 : w1.frozen? ⟨w.heap.size, 1, none⟩ = false := (hf _ _ (by go_size)).trans (by first | assumption | (simp [go_sem]; done) | (simp [*, go_sem]; done))))
        clear hC hT hy hb48 hlen hl
        have hz1 := hb.size
        simp only [World.size_alloc] at hz1
        have HB1 : Below w.heap.size w w1 := HB
        clear hc hf hb hz HB
        have hst := SoFar.start (b :: t)
        have h200 : (b :: t).length ≤ 200 := by simp; omega
        clear HD
        generalize b :: t = s at *
        go_loopw [4, 6] (fun v4 v6 wr => ∃ (j : Nat) (dl : List Nat), Hid (SoFar s j dl) ∧ v4 = .string ⟨(s.take j).toArray⟩ ∧ wr.ownsRow (w.heap.size + 1) 112 1 v6 dl.length (vals dl) ∧ Below (w.heap.size + 1) w1 wr) (fun v4 _ _ => strLen v4)
        case atStart => exact ⟨_, [], Lib.hid hst, by rw [List.take_length], ⟨rfl, .inl ⟨rfl, rfl⟩⟩, Below.refl _ _⟩
        case round =>
          obtain ⟨j, dl, hSF, rfl, hown, HBr⟩ := hrel
          have hle := hSF.out.le
          obtain ⟨ao, co, rfl, hao⟩ := own_slice hown
          have hzr := HBr.size
          by_cases hj : j = 0
          · subst hj
            rw [List.take_zero]
            have hrd := rdl_own hown rfl (fun i => lim_nine hSF.out.small i) (by have := hSF.out.few; omega)
            have d0 := (HBr.cell (p := ⟨w.heap.size, 0, none⟩) (Nat.lt_succ_self _)).trans s0_0
            have d1 := (HBr.cell (p := ⟨w.heap.size, 1, none⟩) (Nat.lt_succ_self _)).trans s0_1
            have g0 := (HBr.frozen (p := ⟨w.heap.size, 0, none⟩) (Nat.lt_succ_self _)).trans f0_0
            have g1 := (HBr.frozen (p := ⟨w.heap.size, 1, none⟩) (Nat.lt_succ_self _)).trans f0_1
            have HBw : Below w.heap.size w wr := HB1.trans (HBr.mono (by omega))
            have hvd := hSF.out.done
            have hge : NewA (w.heap.size + 1) ao := fun x hx => own_ge hown _ (by rw [hx]; rfl)
            have hsm := hSF.out.small
            clear hown HBr hSF s0_0 s0_1 f0_0 f0_1
            go_wp2_with (first | (go_at_call 102; refine (cut_c _ false ao dl.length co dl hrd hsm).mono ?_; rintro e w5 ⟨g5, n5, rfl, hn5, hz5, hb5⟩; replace d0 := cell_keep hb5 d0; replace d1 := cell_keep hb5 d1; replace g0 := (Below.frozen hb5 (by show w.heap.size < _; omega)).trans g0; replace g1 := (Below.frozen hb5 (by show w.heap.size < _; omega)).trans g1))
            refine bodyPost_ret (v := .tuple #[.agg #[.bool g5, .slice ao n5 n5], .int .i64 0]) (by simp [*, results, Tryz.results245, go_sem]) rfl ?_
            have hlt0 : w.heap.size < wr.heap.size := by omega
            have hnz : NumAt w5 g5 ao n5 n5 (numN s) := by rw [hvd] at hz5; exact hz5
            refine ⟨g5, ao, n5, n5, 0, rfl, ?_, ?_⟩
            · exact hnz.butR (.inr hge) (grown_set _ (grown_set _ (grown_refl _ _))) (fun k hk => by cases hk; exact Nat.lt_succ_self _)
            · have HB5 := HBw.trans (hb5.mono HBw.size)
              go_grown
          · have hml : (s.take j).length = j := by rw [List.length_take]; omega
            have hmne : s.take j ≠ [] := fun e => by rw [e] at hml; simp at hml; omega
            have hne : (s.take j == []) = false := by simpa using hmne
            have hne2 : (s.take j).isEmpty = false := by simpa using hmne
            have hnx := Lib.hid (hSF.out.next HA.out (by omega))
            have hmx : max (0 : Int) ((j : Int) - 9) = ((j - 9 : Nat) : Int) := by omega
            have q1 : ∀ W : World, (Instr.sliceAt 9 (.string ⟨(s.take j).toArray⟩) (some (.int .i64 ((j - 9 : Nat) : Int))) none none).run Tryz.prog W = .ok (.string ⟨((s.take j).drop (j - 9)).toArray⟩) W := fun W => by
              rw [run_sback W _ _ (by show j - 9 ≤ (s.take j).toArray.size; simp; omega)]
              have : (⟨(s.take j).toArray⟩ : ByteArray).size = (s.take j).length := by simp [ByteArray.size]
              rw [this, extract_back]
            have q2 : ∀ W : World, (Instr.sliceAt 9 (.string ⟨(s.take j).toArray⟩) none (some (.int .i64 ((j - 9 : Nat) : Int))) none).run Tryz.prog W = .ok (.string ⟨(s.take (j - 9)).toArray⟩) W := fun W => by
              rw [run_sfront W _ _ (by show j - 9 ≤ (s.take j).toArray.size; simp; omega), extract_front, List.take_take, Nat.min_eq_left (by omega)]
            have hall2 : ((s.take j).drop (j - 9)).all isDig = true := by
              have := HA.out
              rw [List.all_eq_true] at this ⊢
              exact fun x hx => this x (List.mem_of_mem_take (List.mem_of_mem_drop hx))
            have hl9 : ((s.take j).drop (j - 9)).length = j - (j - 9) := by rw [List.length_drop, hml]
            have hP := fun W => Tryz.strconv_ParseUint_10_at32_ok ⟨((s.take j).drop (j - 9)).toArray⟩ (by simp [ByteArray.size]; omega) (numN ((s.take j).drop (j - 9))) (parseUint_nine hall2 (fun e => by have h0 := congrArg List.length e; rw [hl9] at h0; simp at h0; omega) (by show ((s.take j).drop (j - 9)).length ≤ 9; omega)) W
            have hlt9 := numN_nine hall2 (by omega)
            have hmod : (numN ((s.take j).drop (j - 9)) : Int) % 4294967296 = (numN ((s.take j).drop (j - 9)) : Nat) := by omega
            have hfw := hSF.out.few
            generalize (s.take j).drop (j - 9) = ch at *
            generalize s.take j = m at *
            go_wp2_with (first | (go_at_call 293; refine (hP _).mono ?_; rintro e w3 ⟨rfl, hw3⟩; have HB3 : Below wr.heap.size wr w3 := bytes_or hw3; have hz3 := HB3.size; clear hw3) | (at_builtin; refine wpList_append_own _ rfl _ _ 57 rfl (w.heap.size + 1) 112 i0 (.int .u32 0) 1 4 Tryz.underlying57 hi hi0 hi1 hi2 rfl (by decide) _ dl.length (vals dl) rfl ((ownsRow_keep hown HB3).alloc _) ⟨w3.heap.size, 0, none⟩ 1 1 [.int .u32 (numN ch : Nat)] rfl rfl (cell_one_new _ _ _) (by simp [Value.oneCell']) (by unfold maxLen; omega) (by omega) (by go_size) ?_; intro v4 w4 hown4 hgrow4 _))
            go_roundw
            case rel => exact ⟨j - 9, dl ++ [numN ch], hnx, rfl, by rw [vals_append, List.length_append]; exact hown4, ((HBr.trans (HB3.mono (by omega))).alloc (by omega) _).grown hgrow4 (by simp; omega) (own_ge hown)⟩
            case measure => rw [strLen_list, strLen_list, List.length_take]; omega
      · go_wp2_with (first | (go_at_call 291; refine (hC _).mono ?_; rintro e w1 ⟨rfl, rfl⟩) | (go_at_call 292; (with_reducible refine (hT _).mono ?_); rintro e w1 ⟨rfl, hb⟩; obtain ⟨hc, hf⟩ := bcell hb; have hz := hb.size; (try simp only [World.size_alloc, World.size_drew, World.size_setCell] at hz); replace HB : Below w.heap.size w w1 := Below.trans (by go_grown) (hb.mono (by go_size)); have s0_0 : w1.cell? ⟨w.heap.size, 0, none⟩ = some (.bool false) := (hc _ _ (by go_size)).trans (by first | assumption | (simp [go_sem]; done) | (simp [*, go_sem]; done)); have s0_1 : w1.cell? ⟨w.heap.size, 1, none⟩ = some (.slice none 0 0) := (hc _ _ (by go_size)).trans (by first | assumption | (simp [go_sem]; done) | (simp [*, go_sem]; done)); have f0_0 : w1.frozen? ⟨w.heap.size, 0, none⟩ = false := (hf _ _ (by go_size)).trans (by first | assumption | (simp [go_sem]; done) | (simp [*, go_sem]; done)); have f0_1 : w1.frozen? ⟨w.heap.size, 1, none⟩ = false := (hf _ _ (by go_size)).trans (by first | assumption | (simp [go_sem]; done) | (simp [*, go_sem]; done))))
        clear hC hT hy hb48 hlen hl
        have hz1 := hb.size
        simp only [World.size_alloc] at hz1
        have HB1 : Below w.heap.size w w1 := HB
        clear hc hf hb hz HB
        have hst := SoFar.start (b :: t)
        have h200 : (b :: t).length ≤ 200 := by simp; omega
        clear HD
        generalize b :: t = s at *
        go_loopw [4, 6] (fun v4 v6 wr => ∃ (j : Nat) (dl : List Nat), Hid (SoFar s j dl) ∧ v4 = .string ⟨(s.take j).toArray⟩ ∧ wr.ownsRow (w.heap.size + 1) 112 1 v6 dl.length (vals dl) ∧ Below (w.heap.size + 1) w1 wr) (fun v4 _ _ => strLen v4)
        case atStart => exact ⟨_, [], Lib.hid hst, by rw [List.take_length], ⟨rfl, .inl ⟨rfl, rfl⟩⟩, Below.refl _ _⟩
        case round =>
          obtain ⟨j, dl, hSF, rfl, hown, HBr⟩ := hrel
          have hle := hSF.out.le
          obtain ⟨ao, co, rfl, hao⟩ := own_slice hown
          have hzr := HBr.size
          by_cases hj : j = 0
          · subst hj
            rw [List.take_zero]
            have hrd := rdl_own hown rfl (fun i => lim_nine hSF.out.small i) (by have := hSF.out.few; omega)
            have d0 := (HBr.cell (p := ⟨w.heap.size, 0, none⟩) (Nat.lt_succ_self _)).trans s0_0
            have d1 := (HBr.cell (p := ⟨w.heap.size, 1, none⟩) (Nat.lt_succ_self _)).trans s0_1
            have g0 := (HBr.frozen (p := ⟨w.heap.size, 0, none⟩) (Nat.lt_succ_self _)).trans f0_0
            have g1 := (HBr.frozen (p := ⟨w.heap.size, 1, none⟩) (Nat.lt_succ_self _)).trans f0_1
            have HBw : Below w.heap.size w wr := HB1.trans (HBr.mono (by omega))
            have hvd := hSF.out.done
            have hge : NewA (w.heap.size + 1) ao := fun x hx => own_ge hown _ (by rw [hx]; rfl)
            have hsm := hSF.out.small
            clear hown HBr hSF s0_0 s0_1 f0_0 f0_1
            go_wp2_with (first | (go_at_call 102; refine (cut_c _ false ao dl.length co dl hrd hsm).mono ?_; rintro e w5 ⟨g5, n5, rfl, hn5, hz5, hb5⟩; replace d0 := cell_keep hb5 d0; replace d1 := cell_keep hb5 d1; replace g0 := (Below.frozen hb5 (by show w.heap.size < _; omega)).trans g0; replace g1 := (Below.frozen hb5 (by show w.heap.size < _; omega)).trans g1))
            refine bodyPost_ret (v := .tuple #[.agg #[.bool g5, .slice ao n5 n5], .int .i64 0]) (by simp [*, results, Tryz.results245, go_sem]) rfl ?_
            have hlt0 : w.heap.size < wr.heap.size := by omega
            have hnz : NumAt w5 g5 ao n5 n5 (numN s) := by rw [hvd] at hz5; exact hz5
            refine ⟨g5, ao, n5, n5, 0, rfl, ?_, ?_⟩
            · exact hnz.butR (.inr hge) (grown_set _ (grown_set _ (grown_refl _ _))) (fun k hk => by cases hk; exact Nat.lt_succ_self _)
            · have HB5 := HBw.trans (hb5.mono HBw.size)
              go_grown
          · have hml : (s.take j).length = j := by rw [List.length_take]; omega
            have hmne : s.take j ≠ [] := fun e => by rw [e] at hml; simp at hml; omega
            have hne : (s.take j == []) = false := by simpa using hmne
            have hne2 : (s.take j).isEmpty = false := by simpa using hmne
            have hnx := Lib.hid (hSF.out.next HA.out (by omega))
            have hmx : max (0 : Int) ((j : Int) - 9) = ((j - 9 : Nat) : Int) := by omega
            have q1 : ∀ W : World, (Instr.sliceAt 9 (.string ⟨(s.take j).toArray⟩) (some (.int .i64 ((j - 9 : Nat) : Int))) none none).run Tryz.prog W = .ok (.string ⟨((s.take j).drop (j - 9)).toArray⟩) W := fun W => by
              rw [run_sback W _ _ (by show j - 9 ≤ (s.take j).toArray.size; simp; omega)]
              have : (⟨(s.take j).toArray⟩ : ByteArray).size = (s.take j).length := by simp [ByteArray.size]
              rw [this, extract_back]
            have q2 : ∀ W : World, (Instr.sliceAt 9 (.string ⟨(s.take j).toArray⟩) none (some (.int .i64 ((j - 9 : Nat) : Int))) none).run Tryz.prog W = .ok (.string ⟨(s.take (j - 9)).toArray⟩) W := fun W => by
              rw [run_sfront W _ _ (by show j - 9 ≤ (s.take j).toArray.size; simp; omega), extract_front, List.take_take, Nat.min_eq_left (by omega)]
            have hall2 : ((s.take j).drop (j - 9)).all isDig = true := by
              have := HA.out
              rw [List.all_eq_true] at this ⊢
              exact fun x hx => this x (List.mem_of_mem_take (List.mem_of_mem_drop hx))
            have hl9 : ((s.take j).drop (j - 9)).length = j - (j - 9) := by rw [List.length_drop, hml]
            have hP := fun W => Tryz.strconv_ParseUint_10_at32_ok ⟨((s.take j).drop (j - 9)).toArray⟩ (by simp [ByteArray.size]; omega) (numN ((s.take j).drop (j - 9))) (parseUint_nine hall2 (fun e => by have h0 := congrArg List.length e; rw [hl9] at h0; simp at h0; omega) (by show ((s.take j).drop (j - 9)).length ≤ 9; omega)) W
            have hlt9 := numN_nine hall2 (by omega)
            have hmod : (numN ((s.take j).drop (j - 9)) : Int) % 4294967296 = (numN ((s.take j).drop (j - 9)) : Nat) := by omega
            have hfw := hSF.out.few
            generalize (s.take j).drop (j - 9) = ch at *
            generalize s.take j = m at *
            go_wp2_with (first | (go_at_call 293; refine (hP _).mono ?_; rintro e w3 ⟨rfl, hw3⟩; have HB3 : Below wr.heap.size wr w3 := bytes_or hw3; have hz3 := HB3.size; clear hw3) | (at_builtin; refine wpList_append_own _ rfl _ _ 57 rfl (w.heap.size + 1) 112 i0 (.int .u32 0) 1 4 Tryz.underlying57 hi hi0 hi1 hi2 rfl (by decide) _ dl.length (vals dl) rfl ((ownsRow_keep hown HB3).alloc _) ⟨w3.heap.size, 0, none⟩ 1 1 [.int .u32 (numN ch : Nat)] rfl rfl (cell_one_new _ _ _) (by simp [Value.oneCell']) (by unfold maxLen; omega) (by omega) (by go_size) ?_; intro v4 w4 hown4 hgrow4 _))
            go_roundw
            case rel => exact ⟨j - 9, dl ++ [numN ch], hnx, rfl, by rw [vals_append, List.length_append]; exact hown4, ((HBr.trans (HB3.mono (by omega))).alloc (by omega) _).grown hgrow4 (by simp; omega) (own_ge hown)⟩
            case measure => rw [strLen_list, strLen_list, List.length_take]; omega
end Go.Proofs.YtdamegaedmckbaaGreatDoor
end
