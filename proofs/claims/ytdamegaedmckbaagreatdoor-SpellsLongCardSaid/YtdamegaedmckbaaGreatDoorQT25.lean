/- Plain: what Atoi and ParseUint make of digits. No condition. Contracts of the library at this dump, in plain words: Trim, TrimLeft, IndexByte, CutPrefix. No condition. The reader of the shipped package, in memory: must, skip. No further condition. The reader of the shipped package: skip, number, positive, begins. No further condition. -/
import Derived.Test.YtdamegaedmckbaaGreatDoorQT24
import Derived.Test.YtdamegaedmckbaaGreatDoorQT6
import Derived.Shelf.Strings.SlTrimAscii
import Derived.Shelf.Small.Wraps
import Derived.Shelf.Strings.Search1
import Derived.Shelf.LaysM
import Derived.Test.YtdamegaedmckbaaGreatDoorProg
import Derived.Test.YtdamegaedmckbaaGreatDoorQTZ
set_option linter.unusedSimpArgs false
set_option linter.unusedVariables false
set_option maxRecDepth 100000
set_option maxHeartbeats 4000000
section
namespace Go.Proofs.YtdamegaedmckbaaGreatDoor
open Go.RowKit
abbrev stepD (n : Nat) (b : UInt8) : Nat := 10 * n + (b.toNat - 48)
theorem foldl_ge (l : List UInt8) (a : Nat) : a ≤ l.foldl stepD a := by
 induction l generalizing a with
 | nil => exact Nat.le_refl _
 | cons b r ih =>
  have := ih (stepD a b)
  rw [List.foldl_cons]
  have : a ≤ stepD a b := by show a ≤ 10 * a + (b.toNat - 48); omega
  omega
theorem isDig_nat {b : UInt8} (h : isDig b = true) : 48 ≤ b.toNat ∧ b.toNat ≤ 57 := by
 unfold isDig at h; simp at h; omega
theorem parseUintM_ok (M : Nat) (hM : M < 1000000000000000000) (l : List UInt8) (h : l.all isDig = true) (a : Nat) (hl : l.foldl stepD a ≤ M) : Lib.parseUintM M a l = .ok (l.foldl stepD a) := by
 induction l generalizing a with
 | nil => rfl
 | cons b r ih =>
  simp only [List.all_cons, Bool.and_eq_true] at h
  obtain ⟨h1, h2⟩ := isDig_nat h.1
  rw [List.foldl_cons] at hl ⊢
  have h3 := foldl_ge r (stepD a b)
  have h4 : stepD a b = a * 10 + (b.toNat - 48) := by show 10 * a + (b.toNat - 48) = _; omega
  rw [Lib.parseUintM, if_pos ⟨h1, h2⟩, if_neg qB, if_neg qB, ← h4]
  exact ih h.2 _ hl
theorem parseUint_nine {d : List UInt8} (h : d.all isDig = true) (h0 : d ≠ []) (hl : d.length ≤ 9) : Lib.parseUintB 32 d = .ok (numN d) := by
 have h1 := numN_nine h hl
 unfold Lib.parseUintB
 rw [if_neg h0]
 exact parseUintM_ok _ qC d h 0 (by show numN d ≤ 2 ^ 32 - 1; omega)
theorem parseUint10_eq (l : List UInt8) (h : l.all isDig = true) (a : Nat) (ha : a < 18446744073709551616) : Lib.parseUint10 a l = if l.foldl stepD a < 18446744073709551616 then .ok (l.foldl stepD a) else .range := by
 induction l generalizing a with
 | nil => simp [Lib.parseUint10, ha]
 | cons b r ih =>
  simp only [List.all_cons, Bool.and_eq_true] at h
  obtain ⟨h1, h2⟩ := isDig_nat h.1
  rw [List.foldl_cons]
  have h3 := foldl_ge r (stepD a b)
  have h4 : stepD a b = a * 10 + (b.toNat - 48) := by show 10 * a + (b.toNat - 48) = _; omega
  rw [Lib.parseUint10, if_pos ⟨h1, h2⟩]
  by_cases h5 : 1844674407370955162 ≤ a
  ·rw [if_pos h5, if_neg qB]
  ·rw [if_neg h5]
   by_cases h6 : 18446744073709551616 ≤ a * 10 + (b.toNat - 48)
   ·rw [if_pos h6, if_neg qB]
   ·rw [if_neg h6, ← h4]
    exact ih h.2 _ qB
theorem atoi_digits {d : List UInt8} (h : digitsB d = true) : Lib.atoiAll d = if numN d < 9223372036854775808 then .ok (numN d : Int) else .range := by
 obtain ⟨ha, hl⟩ := digitsB_all h
 cases d with
 | nil => simp at hl
 | cons c r =>
  obtain ⟨h1, h2⟩ := isDig_nat (b := c) (by simp only [List.all_cons, Bool.and_eq_true] at ha; exact ha.1)
  have hp : Lib.parseMag (c :: r) = if numN (c :: r) < 18446744073709551616 then .ok (numN (c :: r)) else .range := by
   unfold Lib.parseMag
   rw [if_neg qH, parseUint10_eq _ ha 0 qB]
   rfl
  unfold Lib.atoiAll
  simp only
  rw [if_neg qB, hp]
  have hc : ¬ c.toNat = 45 := by omega
  by_cases h5 : numN (c :: r) < 18446744073709551616
  ·rw [if_pos h5]
   simp only [hc]
   by_cases h6 : numN (c :: r) < 9223372036854775808
   ·simp [h6]
   ·simp [h6]
  ·rw [if_neg h5, if_neg qB]
end Go.Proofs.YtdamegaedmckbaaGreatDoor
end
section
namespace Go.Proofs
open Go.Shelf
def Tryz.lays161_ren : Go.Shelf.Ren := ⟨fun | 161 => 191 | 231 => 237 | 227 => 238 | 233 => 239 | 235 => 240 | 228 => 285 | 197 => 286 | 151 => 287 | 260 => 313 | 152 => 314 | 137 => 193 | 119 => 331 | 224 => 332 | 225 => 333 | 217 => 241 | 266 => 288 | n => n, fun | 9 => 9 | 4 => 4 | 3 => 3 | 5 => 5 | 117 => 263 | 116 => 262 | 0 => 0 | 124 => 266 | 105 => 302 | 21 => 21 | 119 => 336 | 46 => 209 | 139 => 339 | 138 => 338 | n => n, fun | 3 => 4 | 4 => 5 | n => n⟩
theorem Tryz.lays161 : Go.Proofs.Lays.n161 Tryz.prog Tryz.lays161_ren := {
 mixed := by kernel_rfl
 f119 := Tryz.func331.trans (congrArg some (by kernel_rfl))
 f137 := Tryz.func193.trans (congrArg some (by kernel_rfl))
 f151 := Tryz.func287.trans (congrArg some (by kernel_rfl))
 f152 := Tryz.func314.trans (congrArg some (by kernel_rfl))
 f161 := Tryz.func191.trans (congrArg some (by kernel_rfl))
 f197 := Tryz.func286.trans (congrArg some (by kernel_rfl))
 f217 := Tryz.func241.trans (congrArg some (by kernel_rfl))
 f224 := Tryz.func332.trans (congrArg some (by kernel_rfl))
 f225 := Tryz.func333.trans (congrArg some (by kernel_rfl))
 f227 := Tryz.func238.trans (congrArg some (by kernel_rfl))
 f228 := Tryz.func285.trans (congrArg some (by kernel_rfl))
 f231 := Tryz.func237.trans (congrArg some (by kernel_rfl))
 f233 := Tryz.func239.trans (congrArg some (by kernel_rfl))
 f235 := Tryz.func240.trans (congrArg some (by kernel_rfl))
 f260 := Tryz.func313.trans (congrArg some (by kernel_rfl))
 f266 := Tryz.func288.trans (congrArg some (by kernel_rfl))
 t0 := Tryz.underlying0
 a0 := Tryz.isAgg0
 z0 := Tryz.sizeOf0
 v0 := Tryz.zeroValue0
 t3 := Tryz.underlying3
 a3 := Tryz.isAgg3
 z3 := Tryz.sizeOf3
 v3 := Tryz.zeroValue3
 t4 := Tryz.underlying4
 a4 := Tryz.isAgg4
 z4 := Tryz.sizeOf4
 v4 := Tryz.zeroValue4
 t5 := Tryz.underlying5
 a5 := Tryz.isAgg5
 z5 := Tryz.sizeOf5
 v5 := Tryz.zeroValue5
 t9 := Tryz.underlying9
 a9 := Tryz.isAgg9
 z9 := Tryz.sizeOf9
 v9 := Tryz.zeroValue9
 t21 := Tryz.underlying21
 a21 := Tryz.isAgg21
 z21 := Tryz.sizeOf21
 v21 := Tryz.zeroValue21
 t46 := Tryz.underlying209
 a46 := Tryz.isAgg209
 z46 := Tryz.sizeOf209
 v46 := Tryz.zeroValue209
 t105 := Tryz.underlying302
 a105 := Tryz.isAgg302
 z105 := Tryz.sizeOf302
 v105 := Tryz.zeroValue302
 t116 := Tryz.underlying262
 a116 := Tryz.isAgg262
 z116 := Tryz.sizeOf262
 t117 := Tryz.underlying263
 a117 := Tryz.isAgg263
 z117 := Tryz.sizeOf263
 v117 := Tryz.zeroValue263
 t119 := Tryz.underlying336
 a119 := Tryz.isAgg336
 z119 := Tryz.sizeOf336
 t124 := Tryz.underlying266
 a124 := Tryz.isAgg266
 z124 := Tryz.sizeOf266
 v124 := Tryz.zeroValue266
 t138 := Tryz.underlying338
 a138 := Tryz.isAgg338
 z138 := Tryz.sizeOf338
 v138 := Tryz.zeroValue338
 t139 := Tryz.underlying339
 a139 := Tryz.isAgg339
 z139 := Tryz.sizeOf339
 v139 := Tryz.zeroValue339
 g3 := by kernel_rfl
 g4 := by kernel_rfl }
def Tryz.lays160_ren : Go.Shelf.Ren := ⟨fun | 160 => 292 | 232 => 321 | 231 => 237 | 227 => 238 | 234 => 322 | 233 => 239 | 236 => 323 | 235 => 240 | 228 => 285 | 271 => 336 | 151 => 287 | 197 => 286 | 120 => 339 | 152 => 314 | 260 => 313 | 137 => 193 | 119 => 331 | 224 => 332 | 225 => 333 | 217 => 241 | 266 => 288 | n => n, fun | 9 => 9 | 4 => 4 | 3 => 3 | 5 => 5 | 117 => 263 | 116 => 262 | 0 => 0 | 124 => 266 | 21 => 21 | 105 => 302 | 46 => 209 | 119 => 336 | 139 => 339 | 138 => 338 | n => n, fun | 3 => 4 | 4 => 5 | n => n⟩
theorem Tryz.lays160 : Go.Proofs.Lays.n160 Tryz.prog Tryz.lays160_ren := {
 mixed := by kernel_rfl
 f119 := Tryz.func331.trans (congrArg some (by kernel_rfl))
 f120 := Tryz.func339.trans (congrArg some (by kernel_rfl))
 f137 := Tryz.func193.trans (congrArg some (by kernel_rfl))
 f151 := Tryz.func287.trans (congrArg some (by kernel_rfl))
 f152 := Tryz.func314.trans (congrArg some (by kernel_rfl))
 f160 := Tryz.func292.trans (congrArg some (by kernel_rfl))
 f197 := Tryz.func286.trans (congrArg some (by kernel_rfl))
 f217 := Tryz.func241.trans (congrArg some (by kernel_rfl))
 f224 := Tryz.func332.trans (congrArg some (by kernel_rfl))
 f225 := Tryz.func333.trans (congrArg some (by kernel_rfl))
 f227 := Tryz.func238.trans (congrArg some (by kernel_rfl))
 f228 := Tryz.func285.trans (congrArg some (by kernel_rfl))
 f231 := Tryz.func237.trans (congrArg some (by kernel_rfl))
 f232 := Tryz.func321.trans (congrArg some (by kernel_rfl))
 f233 := Tryz.func239.trans (congrArg some (by kernel_rfl))
 f234 := Tryz.func322.trans (congrArg some (by kernel_rfl))
 f235 := Tryz.func240.trans (congrArg some (by kernel_rfl))
 f236 := Tryz.func323.trans (congrArg some (by kernel_rfl))
 f260 := Tryz.func313.trans (congrArg some (by kernel_rfl))
 f266 := Tryz.func288.trans (congrArg some (by kernel_rfl))
 f271 := Tryz.func336.trans (congrArg some (by kernel_rfl))
 t0 := Tryz.underlying0
 a0 := Tryz.isAgg0
 z0 := Tryz.sizeOf0
 v0 := Tryz.zeroValue0
 t3 := Tryz.underlying3
 a3 := Tryz.isAgg3
 z3 := Tryz.sizeOf3
 v3 := Tryz.zeroValue3
 t4 := Tryz.underlying4
 a4 := Tryz.isAgg4
 z4 := Tryz.sizeOf4
 v4 := Tryz.zeroValue4
 t5 := Tryz.underlying5
 a5 := Tryz.isAgg5
 z5 := Tryz.sizeOf5
 v5 := Tryz.zeroValue5
 t9 := Tryz.underlying9
 a9 := Tryz.isAgg9
 z9 := Tryz.sizeOf9
 v9 := Tryz.zeroValue9
 t21 := Tryz.underlying21
 a21 := Tryz.isAgg21
 z21 := Tryz.sizeOf21
 v21 := Tryz.zeroValue21
 t46 := Tryz.underlying209
 a46 := Tryz.isAgg209
 z46 := Tryz.sizeOf209
 v46 := Tryz.zeroValue209
 t105 := Tryz.underlying302
 a105 := Tryz.isAgg302
 z105 := Tryz.sizeOf302
 v105 := Tryz.zeroValue302
 t116 := Tryz.underlying262
 a116 := Tryz.isAgg262
 z116 := Tryz.sizeOf262
 t117 := Tryz.underlying263
 a117 := Tryz.isAgg263
 z117 := Tryz.sizeOf263
 v117 := Tryz.zeroValue263
 t119 := Tryz.underlying336
 a119 := Tryz.isAgg336
 z119 := Tryz.sizeOf336
 t124 := Tryz.underlying266
 a124 := Tryz.isAgg266
 z124 := Tryz.sizeOf266
 v124 := Tryz.zeroValue266
 t138 := Tryz.underlying338
 a138 := Tryz.isAgg338
 z138 := Tryz.sizeOf338
 v138 := Tryz.zeroValue338
 t139 := Tryz.underlying339
 a139 := Tryz.isAgg339
 z139 := Tryz.sizeOf339
 v139 := Tryz.zeroValue339
 g3 := by kernel_rfl
 g4 := by kernel_rfl }
def Tryz.lays137_ren : Go.Shelf.Ren := ⟨fun | 137 => 193 | 217 => 241 | 266 => 288 | n => n, fun | 9 => 9 | 5 => 5 | 3 => 3 | n => n, fun | n => n⟩
theorem Tryz.lays137 : Go.Proofs.Lays.n137 Tryz.prog Tryz.lays137_ren := {
 mixed := by kernel_rfl
 f137 := Tryz.func193.trans (congrArg some (by kernel_rfl))
 f217 := Tryz.func241.trans (congrArg some (by kernel_rfl))
 f266 := Tryz.func288.trans (congrArg some (by kernel_rfl))
 t3 := Tryz.underlying3
 a3 := Tryz.isAgg3
 z3 := Tryz.sizeOf3
 v3 := Tryz.zeroValue3
 t5 := Tryz.underlying5
 a5 := Tryz.isAgg5
 z5 := Tryz.sizeOf5
 v5 := Tryz.zeroValue5
 t9 := Tryz.underlying9
 a9 := Tryz.isAgg9
 z9 := Tryz.sizeOf9
 v9 := Tryz.zeroValue9 }
open Go.RowKit in
theorem Tryz.strings_IndexByte (s : ByteArray) (c : Int) (w : World) :
  Calls Tryz.prog 193 #[.string s, .int .u8 c] w fun e w' => e = .returned (.int .i64 (Lib.indexByte s.data.toList c.toNat.toUInt8)) ∧ w' = w := Any.strings_IndexByte Tryz.lays137 s c w
def Tryz.lays103_ren : Go.Shelf.Ren := ⟨fun | 103 => 291 | 210 => 320 | 206 => 222 | n => n, fun | 9 => 9 | 4 => 4 | 24 => 306 | 3 => 3 | n => n, fun | n => n⟩
theorem Tryz.lays103 : Go.Proofs.Lays.n103 Tryz.prog Tryz.lays103_ren := {
 mixed := by kernel_rfl
 f103 := Tryz.func291.trans (congrArg some (by kernel_rfl))
 f206 := Tryz.func222.trans (congrArg some (by kernel_rfl))
 f210 := Tryz.func320.trans (congrArg some (by kernel_rfl))
 t3 := Tryz.underlying3
 a3 := Tryz.isAgg3
 z3 := Tryz.sizeOf3
 v3 := Tryz.zeroValue3
 t4 := Tryz.underlying4
 a4 := Tryz.isAgg4
 z4 := Tryz.sizeOf4
 v4 := Tryz.zeroValue4
 t9 := Tryz.underlying9
 a9 := Tryz.isAgg9
 z9 := Tryz.sizeOf9
 v9 := Tryz.zeroValue9
 t24 := Tryz.underlying306
 a24 := Tryz.isAgg306
 z24 := Tryz.sizeOf306
 v24 := Tryz.zeroValue306 }
open Go.RowKit in
theorem Tryz.strings_CutPrefix (s p : ByteArray) (w : World) :
  Calls Tryz.prog 291 #[.string s, .string p] w fun e w' => e = .returned (.tuple #[.string ⟨(Lib.trimPrefix s.data.toList p.data.toList).toArray⟩, .bool (Lib.hasPrefix s.data.toList p.data.toList)]) ∧ w' = w := Any.strings_CutPrefix Tryz.lays103 s p w
open Go.RowKit in
theorem Tryz.TrimLeft_set (s cutset : ByteArray) (w : World) (hcs : cutset.size < 4294967281) (hascii : ∀ (j : Nat) b, cutset.data.toList[j]? = some b → b.toNat < 128) :
  Calls Tryz.prog 191 #[.string s, .string cutset] w fun e w' => e = .returned (.string ⟨(Lib.trimLeftS s.data.toList cutset.data.toList).toArray⟩) ∧ Below w.heap.size w w' :=
 Any.strings_TrimLeft_laid Tryz.lays161 (by kernel_rfl) s cutset w hcs hascii
open Go.RowKit in
theorem Tryz.Trim_set (s cutset : ByteArray) (w : World) (hs : s.size ≤ 9223372036854775807) (hcs : cutset.size < 4294967281) (hascii : ∀ (j : Nat) b, cutset.data.toList[j]? = some b → b.toNat < 128) :
  Calls Tryz.prog 292 #[.string s, .string cutset] w fun e w' => e = .returned (.string ⟨(Lib.trimS s.data.toList cutset.data.toList).toArray⟩) ∧ Below w.heap.size w w' :=
 Any.strings_Trim_laid Tryz.lays160 (by kernel_rfl) s cutset w hs hcs hascii
end Go.Proofs
end
section
namespace Go.Proofs.YtdamegaedmckbaaGreatDoor
open Go.RowKit
abbrev noSum : List PanicEntry := [{ v := .iface 88 (.agg #[]), recovered := false }]
theorem must_yes (w : World) : Calls Tryz.prog 130 #[.bool true] w fun e w' => e = .returned (.tuple #[]) ∧ w' = w := by
 go_enter Tryz.func130, Tryz.ntmps130
 go_wp2
 exact bodyPost_end (v := .tuple #[]) (by simp [results, Tryz.results130, go_sem]) rfl ⟨rfl, rfl⟩
theorem must_no (w : World) : Calls Tryz.prog 130 #[.bool false] w fun e w' => e = .panicked noSum ∧ w' = w := by
 go_enter Tryz.func130, Tryz.ntmps130
 go_wp2
 exact ⟨rfl, rfl, rfl⟩
structure RdrAt (w : World) (R : Nat) (L : List UInt8) (many : Bool) : Prop where
 c0 : w.cell? ⟨R, 0, none⟩ = some (.string ⟨L.toArray⟩)
 c1 : w.cell? ⟨R, 1, none⟩ = some (.bool many)
 f0 : w.frozen? ⟨R, 0, none⟩ = false
 f1 : w.frozen? ⟨R, 1, none⟩ = false
theorem RdrAt.lt {w : World} {R : Nat} {L : List UInt8} {many : Bool} (h : RdrAt w R L many) : R < w.heap.size := World.block_lt_of_cell? _ _ h.c0
theorem RdrAt.keep {w w' : World} {R : Nat} {L : List UInt8} {many : Bool} (h : RdrAt w R L many) (hb : Below w.heap.size w w') : RdrAt w' R L many :=
 ⟨cell_keep hb h.c0, cell_keep hb h.c1, (Below.frozen hb h.lt).trans h.f0, (Below.frozen hb h.lt).trans h.f1⟩
theorem grown_below {w w' : World} (h : Below w.heap.size w w') (row : Option Nat) : w.grownBy w' row := ⟨h.os, h.tape, h.output, h.size, fun k hk _ => h.block k hk⟩
theorem grown_set {w w' : World} {R o : Nat} (v : Value) (h : w.grownBy w' (some R)) : w.grownBy (w'.setCell ⟨R, o, none⟩ v) (some R) := by
 have hb : Below R w' (w'.setCell ⟨R, o, none⟩ v) := (Below.refl R w').setCell (p := ⟨R, o, none⟩) (Nat.le_refl _) v
 exact ⟨hb.os.trans h.os, hb.tape.trans h.tape, hb.output.trans h.output, Nat.le_trans h.size hb.size, fun k hk hne => by
  rw [Below.heap_setCell w' ⟨R, o, none⟩ v k (by intro e; exact hne (by rw [e]))]
  exact h.block k hk hne⟩
theorem RdrAt.set0 {w : World} {R : Nat} {L : List UInt8} {many : Bool} (h : RdrAt w R L many) (L' : List UInt8) : RdrAt (w.setCell ⟨R, 0, none⟩ (.string ⟨L'.toArray⟩)) R L' many := by
 obtain ⟨c0, c1, f0, f1⟩ := h
 exact ⟨by simp [*, go_sem], by simp [*, go_sem], by simp [*, go_sem], by simp [*, go_sem]⟩
theorem RdrAt.set1 {w : World} {R : Nat} {L : List UInt8} {many : Bool} (h : RdrAt w R L many) (m : Bool) : RdrAt (w.setCell ⟨R, 1, none⟩ (.bool m)) R L m := by
 obtain ⟨c0, c1, f0, f1⟩ := h
 exact ⟨by simp [*, go_sem], by simp [*, go_sem], by simp [*, go_sem], by simp [*, go_sem]⟩
theorem grown_refl (w : World) (row : Option Nat) : w.grownBy w row := grown_below (Below.refl _ _) row
end Go.Proofs.YtdamegaedmckbaaGreatDoor
end
section
namespace Go.Proofs.YtdamegaedmckbaaGreatDoor
open Go.RowKit
theorem blk_contains (b : UInt8) : ([32, 9] : List UInt8).contains b = isBlk b := by
 unfold isBlk
 by_cases h1 : b = 32
 ·subst h1; rfl
 ·by_cases h2 : b = 9
  ·subst h2; rfl
  ·have e1 : ¬ (b.toNat : Int) = 32 := fun e => h1 (UInt8.toNat_inj.1 (by show b.toNat = 32; omega))
   have e2 : ¬ (b.toNat : Int) = 9 := fun e => h2 (UInt8.toNat_inj.1 (by show b.toNat = 9; omega))
   simp [h1, h2, e1, e2]
theorem trim_blk (L : List UInt8) : Lib.trimLeftS L [32, 9] = skp L := by
 unfold Lib.trimLeftS skp
 congr 1
 funext b
 exact blk_contains b
theorem dig_contains (b : UInt8) : ([48, 49, 50, 51, 52, 53, 54, 55, 56, 57] : List UInt8).contains b = isDig b := by
 have h : ∀ n : Fin 256, ([48, 49, 50, 51, 52, 53, 54, 55, 56, 57] : List UInt8).contains (UInt8.ofNat n) = decide (48 ≤ n.val ∧ n.val ≤ 57) := by decide
 have := h ⟨b.toNat, b.toNat_lt⟩
 simp only [UInt8.ofNat_toNat] at this
 rw [this]
 unfold isDig
 rw [decide_eq_decide]
 omega
theorem trim_dig (L : List UInt8) : Lib.trimLeftS L [48, 49, 50, 51, 52, 53, 54, 55, 56, 57] = L.dropWhile isDig := by
 unfold Lib.trimLeftS
 congr 1
 funext b
 exact dig_contains b
theorem skip_c (w : World) (R : Nat) (L : List UInt8) (many : Bool) (h : RdrAt w R L many) (hL : L.length < 1000000000) :
  Calls Tryz.prog 127 #[.pointer (some ⟨R, 0, none⟩)] w fun e w' => e = .returned (.tuple #[]) ∧ RdrAt w' R (skp L) many ∧ w.grownBy w' (some R) := by
 have h0 := h.c0
 have f0 := h.f0
 go_enter Tryz.func127, Tryz.ntmps127
 go_wp2_with fail
 refine (Tryz.TrimLeft_set ⟨L.toArray⟩ ⟨#[32, 9]⟩ _ (by simp [ByteArray.size]) (Go.Proofs.ascii_of_all qC)).mono ?_
 rintro e w1 ⟨rfl, hb⟩
 have hr := h.keep hb
 have g1 := hr.c0
 have g2 := hr.f0
 go_wp2_with fail
 refine bodyPost_end (v := .tuple #[]) (by simp [results, Tryz.results127, go_sem]) rfl ⟨rfl, ?_, ?_⟩
 ·have := hr.set0 (skp L)
  simpa [trim_blk] using this
 ·exact grown_set _ (grown_below hb _)
theorem run_sfront (W : World) (s : ByteArray) (k : Nat) (hk : k ≤ s.size) : (Instr.sliceAt 9 (.string s) none (some (.int .i64 (k : Int))) none).run Tryz.prog W = .ok (.string (s.extract 0 k)) W := by
 have h0 : (0 : Int) ≤ (k : Int) := by omega
 simp [Instr.sliceAt, Instr.slice, Instr.sliceBounds, Instr.sliceBound, go_sem, h0, hk]
theorem run_sback (W : World) (s : ByteArray) (k : Nat) (hk : k ≤ s.size) : (Instr.sliceAt 9 (.string s) (some (.int .i64 (k : Int))) none none).run Tryz.prog W = .ok (.string (s.extract k s.size)) W := by
 have h0 : (0 : Int) ≤ (k : Int) := by omega
 simp [Instr.sliceAt, Instr.slice, Instr.sliceBounds, Instr.sliceBound, go_sem, h0, hk]
end Go.Proofs.YtdamegaedmckbaaGreatDoor
end
