/- The library's part of the texts: strings.Builder, strconv.FormatUint at base 10. Premise: the table of the powers of ten. Decimal digits of a number given by its parts. No program. -/
import Derived.Test.YtdamegaedmckbaaGreatDoorS17
import Derived.Test.YtdamegaedmckbaaGreatDoorS0
import Derived.Test.YtdamegaedmckbaaGreatDoorS6
import Derived.Lib.ItoaMem
import Derived.Lib.LaidTab
import Derived.Lib.ItoaNum
import Derived.Lib.Repeat
set_option linter.unusedSimpArgs false
set_option linter.unusedVariables false
section
set_option linter.unusedSimpArgs false
namespace Go.Proofs.YtdamegaedmckbaaGreatDoor
open Go.RowKit Go.Shelf Go.Lib Go.Sort

/-- The numbers of the builder's functions and types. -/
def bldRen : Ren :=
  { f := fun x => match x with
      | 156 => 39 | 165 => 117 | 166 => 99 | 167 => 96 | 169 => 101 | 170 => 100 | 240 => 167 | 241 => 185 | 276 => 215 | 277 => 233
      | n => n
    t := fun x => match x with
      | 31 => 53 | 9 => 9 | 3 => 3 | 4 => 4 | 0 => 0 | 20 => 20 | 72 => 106 | 76 => 114 | 70 => 104 | 37 => 49 | 75 => 108 | 127 => 212 | 164 => 241 | 5 => 5 | 80 => 117
      | n => n
    g := fun n => n }

theorem lays166 : Lays.n166 Tryz.prog bldRen :=
  { mixed := Eq.refl true
    f166 := Eq.trans Tryz.func99 (congrArg some (Eq.refl (Body.n166 bldRen)))
    f240 := Eq.trans Tryz.func167 (congrArg some (Eq.refl (Body.n240 bldRen)))
    f276 := Eq.trans Tryz.func215 (congrArg some (Eq.refl (Body.n276 bldRen)))
    t0 := Tryz.underlying0, a0 := Tryz.isAgg0, z0 := Tryz.sizeOf0, v0 := Tryz.zeroValue0, t3 := Tryz.underlying3, a3 := Tryz.isAgg3, z3 := Tryz.sizeOf3, v3 := Tryz.zeroValue3
    t4 := Tryz.underlying4, a4 := Tryz.isAgg4, z4 := Tryz.sizeOf4, v4 := Tryz.zeroValue4, t9 := Tryz.underlying9, a9 := Tryz.isAgg9, z9 := Tryz.sizeOf9, v9 := Tryz.zeroValue9
    t20 := Tryz.underlying20, a20 := Tryz.isAgg20, z20 := Tryz.sizeOf20, v20 := Tryz.zeroValue20
    t37 := Tryz.underlying49, a37 := Tryz.isAgg49, z37 := Tryz.sizeOf49, v37 := Tryz.zeroValue49
    t70 := Tryz.underlying104, a70 := Tryz.isAgg104, z70 := Tryz.sizeOf104, v70 := Tryz.zeroValue104
    t72 := Tryz.underlying106, a72 := Tryz.isAgg106, z72 := Tryz.sizeOf106, v72 := Tryz.zeroValue106
    t75 := Tryz.underlying108, a75 := Tryz.isAgg108, z75 := Tryz.sizeOf108, v75 := Tryz.zeroValue108
    t164 := Tryz.underlying241, a164 := Tryz.isAgg241, z164 := Tryz.sizeOf241, v164 := Tryz.zeroValue241 }

theorem lays167 : Lays.n167 Tryz.prog bldRen :=
  { mixed := Eq.refl true
    f167 := Eq.trans Tryz.func96 (congrArg some (Eq.refl (Body.n167 bldRen)))
    f240 := Eq.trans Tryz.func167 (congrArg some (Eq.refl (Body.n240 bldRen)))
    f276 := Eq.trans Tryz.func215 (congrArg some (Eq.refl (Body.n276 bldRen)))
    t0 := Tryz.underlying0, a0 := Tryz.isAgg0, z0 := Tryz.sizeOf0, v0 := Tryz.zeroValue0
    t4 := Tryz.underlying4, a4 := Tryz.isAgg4, z4 := Tryz.sizeOf4, v4 := Tryz.zeroValue4
    t5 := Tryz.underlying5, a5 := Tryz.isAgg5, z5 := Tryz.sizeOf5, v5 := Tryz.zeroValue5, t9 := Tryz.underlying9, a9 := Tryz.isAgg9, z9 := Tryz.sizeOf9, v9 := Tryz.zeroValue9
    t20 := Tryz.underlying20, a20 := Tryz.isAgg20, z20 := Tryz.sizeOf20, v20 := Tryz.zeroValue20
    t37 := Tryz.underlying49, a37 := Tryz.isAgg49, z37 := Tryz.sizeOf49, v37 := Tryz.zeroValue49
    t70 := Tryz.underlying104, a70 := Tryz.isAgg104, z70 := Tryz.sizeOf104, v70 := Tryz.zeroValue104
    t72 := Tryz.underlying106, a72 := Tryz.isAgg106, z72 := Tryz.sizeOf106, v72 := Tryz.zeroValue106
    t75 := Tryz.underlying108, a75 := Tryz.isAgg108, z75 := Tryz.sizeOf108, v75 := Tryz.zeroValue108
    t164 := Tryz.underlying241, a164 := Tryz.isAgg241, z164 := Tryz.sizeOf241, v164 := Tryz.zeroValue241 }

theorem bldExtra : Builder.Extra Tryz.prog bldRen where
  sizeBuilder := by kernel_rfl
  liesBuilder := by kernel_rfl
  t5 := Tryz.underlying5
  a5 := Tryz.isAgg5
  z5 := Tryz.sizeOf5
  v5 := Tryz.zeroValue5
  infoByte := by kernel_rfl
  cellsByte := by kernel_rfl
  sizeByte := by kernel_rfl
  neB5 := by decide

/-- (*strings.Builder).WriteString. -/
theorem WriteString_c (B b : Nat) (bs : List Value) (s : ByteArray) (w : World) (h : Lib.IsBuilder 106 5 B b bs w) (hlen : bs.length + s.size ≤ 140737488355328) (hBw : B ≤ w.heap.size) :
    Calls Tryz.prog 99 #[.pointer (some ⟨b, 0, none⟩), .string s] w fun e w' => e = .returned (.tuple #[.int .i64 s.size, .nilIface]) ∧ (Lib.BuilderAt 106 5 B b (.pointer (some ⟨b, 0, none⟩)) (bs ++ Lib.strCells s) w' ∧ Below B w w') :=
  Any.Builder_WriteString lays166 bldExtra B b bs s w h hlen hBw

/-- (*strings.Builder).WriteByte. -/
theorem WriteByte_c (B b : Nat) (bs : List Value) (c : Int) (w : World) (h : Lib.IsBuilder 106 5 B b bs w) (hlen : bs.length + 1 ≤ 140737488355328) (hBw : B ≤ w.heap.size) :
    Calls Tryz.prog 96 #[.pointer (some ⟨b, 0, none⟩), .int .u8 c] w fun e w' => e = .returned .nilIface ∧ (Lib.BuilderAt 106 5 B b (.pointer (some ⟨b, 0, none⟩)) (bs ++ [.int .u8 c]) w' ∧ Below B w w') :=
  Any.Builder_WriteByte lays167 bldExtra B b bs c w h hlen hBw

/-- The table of the powers of ten. -/
def Tab (w : World) : Prop := Lib.TabIs Tryz.prog w "internal/strconv.uint64pow10" .u64 Lib.pow10Tab

theorem Tab.keep {w w' : World} (h : Tab w) (hb : Below w.heap.size w w') : Tab w' := by
  unfold Tab TabIs World.var? at *
  cases hg : Tryz.prog.globalNamed "internal/strconv.uint64pow10" with
  | none => simp [hg] at h
  | some g =>
    simp only [hg, Option.bind_some] at h ⊢
    have hlt : g < w.heap.size := by
      rcases Nat.lt_or_ge g w.heap.size with h' | h'
      · exact h'
      · rw [Array.getElem?_eq_none h'] at h; simp at h
    rw [hb.block g hlt]
    exact h

theorem holds_zero20 (w : World) (T : TypeId) (nd : Nat) (hs : nd ≤ 24) : Holds (fun (b : UInt8) => Value.int .u8 (b.toNat : Int)) (w.alloc (.cells Lib.zeros24 T)) w.heap.size 0 (Array.replicate nd (0 : UInt8)) := fun j hj => by
  have hj' : j < nd := by simpa using hj
  refine ⟨?_, World.frozen?_alloc_new _ _ _ _⟩
  rw [World.cell?_alloc_new, Lib.zeros24_at _ (by omega), getElem!_pos _ j hj]
  simp

theorem fin_pos0 (w : World) (o : Obj) (dk : Array UInt8) (k : Nat) : ∃ os, (putRow (fun (b : UInt8) => Value.int .u8 (b.toNat : Int)) (w.alloc o) w.heap.size 0 dk).drewN k = grow (w.drewN k) os := by
  rw [alloc_eq_grow]
  obtain ⟨os', _, e⟩ := putRow_grow_new (fun (b : UInt8) => Value.int .u8 (b.toNat : Int)) w #[o] w.heap.size 0 dk (Nat.le_refl _)
  exact ⟨os', by rw [e]; rfl⟩

set_option maxHeartbeats 1000000 in
set_option maxRecDepth 100000 in
/-- internal/strconv.FormatUint at base 10. -/
theorem iFormatUint_c (u : Nat) (hu64 : u < 18446744073709551616) (w : World) (htab : Tab w) :
    Calls Tryz.prog 168 #[.int .u64 u, .int .i64 10] w fun e w' => e = .returned (.string ⟨(Lib.decDigits u).toArray⟩) ∧ ∃ k os, w' = grow (w.drewN k) os := by
  by_cases hs : u < 100
  · go_enter Tryz.func168, Tryz.ntmps168
    go_wp2_with (go_at_call 216; refine (Tryz.internal_strconv_small u hs _).mono ?_; rintro e w' ⟨rfl, rfl⟩)
    go_ret
    exact ⟨rfl, 0, #[], by simp [World.drewN_zero]⟩
  · have hu1 : 1 ≤ u := by omega
    have hnd20 : Lib.nDigits u ≤ 20 := by have := Lib.numDigits_eq u hu1 hu64; split at this <;> omega
    have hal : Tryz.prog.arrayLen 243 = 24 := by simp [Program.arrayLen, Tryz.underlying243]
    have hsl1 : ∀ W, (Instr.sliceAt 243 (.pointer (some ⟨w.heap.size, 0, none⟩)) none (some (.int .i64 (Lib.nDigits u : Int))) none).run Tryz.prog W = .ok (.slice (some ⟨w.heap.size, 0, none⟩) (Lib.nDigits u) 24) W := by
      intro W
      rw [run_sliceAt_array_h W 243 ⟨w.heap.size, 0, none⟩ (by simp [Program.arrayLen, Program.elem, Tryz.underlying243]) .i64 (Lib.nDigits u : Int) (by omega) (by rw [hal]; omega)]
      go_simp
    have hH0 := holds_zero20 w 243 (Lib.nDigits u) (by omega)
    have hfmt := Tryz.internal_strconv_formatBase10 w.heap.size 0 24 u (Array.replicate (Lib.nDigits u) 0) (w.alloc (.cells Lib.zeros24 243)) hH0 (by rw [Array.size_replicate]; exact Lib.lt_pow_nDigits u) hu64 (by rw [Array.size_replicate]; omega)
    rw [Array.size_replicate] at hfmt
    have HH0 := Lib.hid hH0
    clear hH0 hal
    go_enter Tryz.func168, Tryz.ntmps168
    go_wp2_with (first
      | (go_at_call 217; refine (Tryz.internal_strconv_numDigits u hu1 hu64 _ (Lib.tabIs_alloc htab _)).mono ?_; rintro e w' ⟨rfl, rfl⟩))
    refine hfmt.mono ?_
    rintro e w' ⟨rfl, k, v', dk, rfl, hF⟩
    have hcv : (convert 49 9 (.slice (some ⟨w.heap.size, 0, none⟩) (Lib.nDigits u) 24)).run Tryz.prog ((putRow (fun (b : UInt8) => Value.int .u8 (b.toNat : Int)) (w.alloc (.cells Lib.zeros24 243)) w.heap.size 0 dk).drewN k) = .ok (.string ⟨(Lib.decDigits u).toArray⟩) ((putRow (fun (b : UInt8) => Value.int .u8 (b.toNat : Int)) (w.alloc (.cells Lib.zeros24 243)) w.heap.size 0 dk).drewN k) := by
      have h := run_convert_bytes_back (P := Tryz.prog) ((putRow (fun (b : UInt8) => Value.int .u8 (b.toNat : Int)) (w.alloc (.cells Lib.zeros24 243)) w.heap.size 0 dk).drewN k) 49 9 5 ⟨w.heap.size, 0, none⟩ 24 (Lib.decDigits u) Tryz.underlying49 Tryz.underlying5 Tryz.underlying9 (fun j hj => by
        rw [Lib.row_is_numeral hF j hj, Lib.add_plain, World.cell?_drewN]
        exact cell?_putRow (fun (b : UInt8) => Value.int .u8 (b.toNat : Int)) _ w.heap.size 0 _ dk HH0.out (by rw [hF.size, Array.size_replicate]) j (by rw [hF.size]; rw [Lib.decDigits_length] at hj; exact hj))
      rw [Lib.decDigits_length] at h
      exact h
    go_wp2
    go_ret
    obtain ⟨os, eo⟩ := fin_pos0 w (.cells Lib.zeros24 243) dk k
    exact ⟨rfl, k, os, eo⟩

theorem below_grow {B : Nat} (w : World) (k : Nat) (os : Array Obj) (h : B ≤ w.heap.size) : Below B w (grow (w.drewN k) os) :=
  ⟨rfl, rfl, rfl, by simp [grow], fun i hi => by
    show (w.heap ++ os)[i]? = w.heap[i]?
    rw [Array.getElem?_append_left (by omega)]⟩

set_option maxRecDepth 100000 in
/-- strconv.FormatUint at base 10. -/
theorem FormatUint_c (u : Nat) (hu64 : u < 18446744073709551616) (w : World) (htab : Tab w) :
    Calls Tryz.prog 97 #[.int .u64 u, .int .i64 10] w fun e w' => e = .returned (.string ⟨(Lib.decDigits u).toArray⟩) ∧ Below w.heap.size w w' := by
  go_enter Tryz.func97, Tryz.ntmps97
  go_wp2_with (go_at_call 168; refine (iFormatUint_c u hu64 _ htab).mono ?_; rintro e w' ⟨rfl, k, os, rfl⟩)
  go_ret
  exact ⟨rfl, below_grow _ _ _ (Nat.le_refl _)⟩
end Go.Proofs.YtdamegaedmckbaaGreatDoor
end
section
namespace Go.Proofs.YtdamegaedmckbaaGreatDoor

/-- The last k digits. -/
def padD : Nat → Nat → List UInt8
  | 0, _ => []
  | k + 1, x => padD k (x / 10) ++ [UInt8.ofNat (48 + x % 10)]

theorem decDigits_pad (k : Nat) : ∀ hi x : Nat, 0 < hi → x < 10 ^ k → Lib.decDigits (hi * 10 ^ k + x) = Lib.decDigits hi ++ padD k x := by
  induction k with
  | zero =>
    intro hi x _ hx
    have : x = 0 := by simpa using hx
    simp [this, padD]
  | succ k ih =>
    intro hi x hh hx
    have h1 : 10 ^ (k + 1) = 10 ^ k * 10 := Nat.pow_succ ..
    have h2 : hi * 10 ^ (k + 1) = hi * 10 ^ k * 10 := by rw [h1, Nat.mul_assoc]
    have h3 : 0 < hi * 10 ^ k := Nat.mul_pos hh (Nat.pow_pos (by omega))
    have h4 : ¬ hi * 10 ^ (k + 1) + x < 10 := by omega
    rw [Lib.decDigits, dif_neg h4]
    have h5 : (hi * 10 ^ (k + 1) + x) / 10 = hi * 10 ^ k + x / 10 := by omega
    have h6 : (hi * 10 ^ (k + 1) + x) % 10 = x % 10 := by omega
    rw [h5, h6, ih hi (x / 10) hh (by omega), padD, List.append_assoc]

theorem padD_eq (k : Nat) : ∀ x : Nat, x < 10 ^ (k + 1) → padD (k + 1) x = List.replicate (k + 1 - (Lib.decDigits x).length) 48 ++ Lib.decDigits x ∧ (Lib.decDigits x).length ≤ k + 1 := by
  induction k with
  | zero =>
    intro x hx
    have hx : x < 10 := by simpa using hx
    rw [Lib.decDigits, dif_pos hx]
    simp [padD, Nat.mod_eq_of_lt hx]
  | succ k ih =>
    intro x hx
    have h1 : 10 ^ (k + 1 + 1) = 10 ^ (k + 1) * 10 := Nat.pow_succ ..
    obtain ⟨h2, h3⟩ := ih (x / 10) (by omega)
    rw [padD, h2]
    by_cases h : x < 10
    · rw [Lib.decDigits, dif_pos (by omega : x / 10 < 10), Lib.decDigits, dif_pos h]
      have h0 : x / 10 = 0 := by omega
      rw [h0, Nat.mod_eq_of_lt h]
      refine ⟨?_, by simp⟩
      simp only [List.length_cons, List.length_nil, Nat.zero_add, Nat.add_sub_cancel]
      rw [List.replicate_succ']
      rfl
    · have e : Lib.decDigits x = Lib.decDigits (x / 10) ++ [UInt8.ofNat (48 + x % 10)] := by rw [Lib.decDigits, dif_neg h]
      rw [e]
      simp only [List.length_append, List.length_cons, List.length_nil, Nat.zero_add]
      refine ⟨?_, by omega⟩
      rw [List.append_assoc, show k + 1 + 1 - ((Lib.decDigits (x / 10)).length + 1) = k + 1 - (Lib.decDigits (x / 10)).length by omega]

theorem repeatL_zero (c : Nat) : Lib.repeatL [48] c = List.replicate c 48 := by
  induction c with
  | zero => rfl
  | succ c ih => rw [Lib.repeatL, ih]; rfl

/-- The text of some parts: none at no part. -/
def tx (l : List Nat) : List UInt8 := if l = [] then [] else Lib.decDigits (val l)

theorem tx_nil : tx [] = [] := rfl

theorem tx_one (x : Nat) : tx [x] = Lib.decDigits x := by
  rw [tx, if_neg (by simp), val, val, Nat.mul_zero, Nat.add_zero]

theorem dec_len {x : Nat} (hx : x < 1000000000) : (Lib.decDigits x).length ≤ 9 := (padD_eq 8 x hx).2

theorem tx_cons (x : Nat) (l : List Nat) (hx : x < 1000000000) (hl : l ≠ []) (hv : 0 < val l) : tx (x :: l) = tx l ++ (Lib.repeatL [48] (9 - (Lib.decDigits x).length) ++ Lib.decDigits x) := by
  rw [tx, if_neg (by simp), tx, if_neg hl, val, repeatL_zero, ← (padD_eq 8 x hx).1, ← decDigits_pad 9 (val l) x hv hx]
  congr 1
  rw [Nat.add_comm, Nat.mul_comm]

theorem tx_dg (n : Nat) (h : 0 < n) : tx (dg n) = Lib.decDigits n := by
  have h1 := val_dg n
  rw [tx, if_neg, h1]
  intro e
  rw [e, val] at h1
  omega

theorem canon_drop {d : List Nat} (h : Canon d) : ∀ j, Canon (d.drop j) := by
  intro j
  induction j generalizing d with
  | zero => simpa using h
  | succ j ih =>
    cases d with
    | nil => simpa using h
    | cons x d => exact ih h.tail

theorem drop_lim {d : List Nat} {j : Nat} (h : j < d.length) : d.drop j = (lim d j).toNat :: d.drop (j + 1) := by
  rw [List.drop_eq_getElem_cons h]
  congr 1
  simp [lim, List.getD, h]

end Go.Proofs.YtdamegaedmckbaaGreatDoor
end
