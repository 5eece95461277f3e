/- Plain: what Atoi and ParseUint make of digits. -/
import Derived.Test.YtdamegaedmckbaaGreatDoorQP21
set_option linter.unusedSimpArgs false
set_option linter.unusedVariables false
set_option maxRecDepth 100000
set_option maxHeartbeats 4000000
section
namespace Go.Proofs.YtdamegaedmckbaaGreatDoor
open Go.RowKit
abbrev Jj (n : Nat) (b : UInt8) : Nat := 10 * n + (b.toNat - 48)
theorem Sd (l : List UInt8) (a : Nat) : a ≤ l.foldl Jj a := by
 induction l generalizing a with
 | nil => exact Ad _
 | cons b r ih =>
  have := ih (Jj a b)
  rw [List.foldl_cons]
  have : a ≤ Jj a b := by show a ≤ 10 * a + (b.toNat - 48); omega
  omega
theorem Jz {b : UInt8} (h : Bl b = true) : 48 ≤ b.toNat ∧ b.toNat ≤ 57 := by
 unfold Bl at h; simp at h; omega
theorem Ot (M : Nat) (hM : M < 1000000000000000000) (l : List UInt8) (h : l.all Bl = true) (a : Nat) (hl : l.foldl Jj a ≤ M) : Lib.parseUintM M a l = .ok (l.foldl Jj a) := by
 induction l generalizing a with
 | nil => rfl
 | cons b r ih =>
  simp only [List.all_cons, Bool.and_eq_true] at h
  obtain ⟨h1, h2⟩ := Jz h.1
  rw [List.foldl_cons] at hl ⊢
  have h3 := Sd r (Jj a b)
  have h4 : Jj a b = a * 10 + (b.toNat - 48) := by show 10 * a + (b.toNat - 48) = _; omega
  rw [Lib.parseUintM, if_pos ⟨h1, h2⟩, if_neg qB, if_neg qB, ← h4]
  exact ih h.2 _ hl
theorem Oe {d : List UInt8} (h : d.all Bl = true) (h0 : d ≠ []) (hl : d.length ≤ 9) : Lib.parseUintB 32 d = .ok (Bd d) := by
 have h1 := J7 h hl
 unfold Lib.parseUintB
 rw [if_neg h0]
 exact Ot _ qC d h 0 (by show Bd d ≤ 2 ^ 32 - 1; omega)
theorem Nt (l : List UInt8) (h : l.all Bl = true) (a : Nat) (ha : a < 18446744073709551616) : Lib.parseUint10 a l = if l.foldl Jj a < 18446744073709551616 then .ok (l.foldl Jj a) else .range := by
 induction l generalizing a with
 | nil => simp [Lib.parseUint10, ha]
 | cons b r ih =>
  simp only [List.all_cons, Bool.and_eq_true] at h
  obtain ⟨h1, h2⟩ := Jz h.1
  rw [List.foldl_cons]
  have h3 := Sd r (Jj a b)
  have h4 : Jj a b = a * 10 + (b.toNat - 48) := by show 10 * a + (b.toNat - 48) = _; omega
  rw [Lib.parseUint10, if_pos ⟨h1, h2⟩]
  by_cases h5 : 1844674407370955162 ≤ a
  ·rw [if_pos h5, if_neg qB]
  ·rw [if_neg h5]
   by_cases h6 : 18446744073709551616 ≤ a * 10 + (b.toNat - 48)
   ·rw [if_pos h6, if_neg qB]
   ·rw [if_neg h6, ← h4]
    exact ih h.2 _ qB
theorem Q3 {d : List UInt8} (h : Bb d = true) : Lib.atoiAll d = if Bd d < 9223372036854775808 then .ok (Bd d : Int) else .range := by
 obtain ⟨ha, hl⟩ := Eb h
 cases d with
 | nil => simp at hl
 | cons c r =>
  obtain ⟨h1, h2⟩ := Jz (b := c) (by simp only [List.all_cons, Bool.and_eq_true] at ha; exact ha.1)
  have hp : Lib.parseMag (c :: r) = if Bd (c :: r) < 18446744073709551616 then .ok (Bd (c :: r)) else .range := by
   unfold Lib.parseMag
   rw [if_neg qH, Nt _ ha 0 qB]
   rfl
  unfold Lib.atoiAll
  simp only
  rw [if_neg qB, hp]
  have hc : ¬ c.toNat = 45 := by omega
  by_cases h5 : Bd (c :: r) < 18446744073709551616
  ·rw [if_pos h5]
   simp only [hc]
   by_cases h6 : Bd (c :: r) < 9223372036854775808
   ·simp [h6]
   ·simp [h6]
  ·rw [if_neg h5, if_neg qB]
end Go.Proofs.YtdamegaedmckbaaGreatDoor
end
section
namespace Go.Proofs
open Go.Shelf
def Tryz.lays161_ren : Go.Shelf.Ren := ⟨fun | 161 => 191 | 231 => 237 | 227 => 238 | 233 => 239 | 235 => 240 | 228 => 285 | 197 => 286 | 151 => 287 | 260 => 313 | 152 => 314 | 137 => 193 | 119 => 331 | 224 => 332 | 225 => 333 | 217 => 241 | 266 => 288 | n => n, fun | 9 => 9 | 4 => 4 | 3 => 3 | 5 => 5 | 117 => 263 | 116 => 262 | 0 => 0 | 124 => 266 | 105 => 302 | 21 => 21 | 119 => 336 | 46 => 209 | 139 => 339 | 138 => 338 | n => n, fun | 3 => 4 | 4 => 5 | n => n⟩
theorem Tryz.lays161 : Go.Proofs.Lays.n161 Tryz.prog Tryz.lays161_ren := {
 mixed := by kernel_rfl
 f119 := Tryz.func331.trans (congrArg some (by kernel_rfl))
 f137 := Tryz.func193.trans (congrArg some (by kernel_rfl))
 f151 := Tryz.func287.trans (congrArg some (by kernel_rfl))
 f152 := Tryz.func314.trans (congrArg some (by kernel_rfl))
 f161 := Tryz.func191.trans (congrArg some (by kernel_rfl))
 f197 := Tryz.func286.trans (congrArg some (by kernel_rfl))
 f217 := Tryz.func241.trans (congrArg some (by kernel_rfl))
 f224 := Tryz.func332.trans (congrArg some (by kernel_rfl))
 f225 := Tryz.func333.trans (congrArg some (by kernel_rfl))
 f227 := Tryz.func238.trans (congrArg some (by kernel_rfl))
 f228 := Tryz.func285.trans (congrArg some (by kernel_rfl))
 f231 := Tryz.func237.trans (congrArg some (by kernel_rfl))
 f233 := Tryz.func239.trans (congrArg some (by kernel_rfl))
 f235 := Tryz.func240.trans (congrArg some (by kernel_rfl))
 f260 := Tryz.func313.trans (congrArg some (by kernel_rfl))
 f266 := Tryz.func288.trans (congrArg some (by kernel_rfl))
 t0 := Tryz.underlying0
 a0 := Tryz.isAgg0
 z0 := Tryz.sizeOf0
 v0 := Tryz.zeroValue0
 t3 := Tryz.underlying3
 a3 := Tryz.isAgg3
 z3 := Tryz.sizeOf3
 v3 := Tryz.zeroValue3
 t4 := Tryz.underlying4
 a4 := Tryz.isAgg4
 z4 := Tryz.sizeOf4
 v4 := Tryz.zeroValue4
 t5 := Tryz.underlying5
 a5 := Tryz.isAgg5
 z5 := Tryz.sizeOf5
 v5 := Tryz.zeroValue5
 t9 := Tryz.underlying9
 a9 := Tryz.isAgg9
 z9 := Tryz.sizeOf9
 v9 := Tryz.zeroValue9
 t21 := Tryz.underlying21
 a21 := Tryz.isAgg21
 z21 := Tryz.sizeOf21
 v21 := Tryz.zeroValue21
 t46 := Tryz.underlying209
 a46 := Tryz.isAgg209
 z46 := Tryz.sizeOf209
 v46 := Tryz.zeroValue209
 t105 := Tryz.underlying302
 a105 := Tryz.isAgg302
 z105 := Tryz.sizeOf302
 v105 := Tryz.zeroValue302
 t116 := Tryz.underlying262
 a116 := Tryz.isAgg262
 z116 := Tryz.sizeOf262
 t117 := Tryz.underlying263
 a117 := Tryz.isAgg263
 z117 := Tryz.sizeOf263
 v117 := Tryz.zeroValue263
 t119 := Tryz.underlying336
 a119 := Tryz.isAgg336
 z119 := Tryz.sizeOf336
 t124 := Tryz.underlying266
 a124 := Tryz.isAgg266
 z124 := Tryz.sizeOf266
 v124 := Tryz.zeroValue266
 t138 := Tryz.underlying338
 a138 := Tryz.isAgg338
 z138 := Tryz.sizeOf338
 v138 := Tryz.zeroValue338
 t139 := Tryz.underlying339
 a139 := Tryz.isAgg339
 z139 := Tryz.sizeOf339
 v139 := Tryz.zeroValue339
 g3 := by kernel_rfl
 g4 := by kernel_rfl }
def Tryz.lays160_ren : Go.Shelf.Ren := ⟨fun | 160 => 292 | 232 => 321 | 231 => 237 | 227 => 238 | 234 => 322 | 233 => 239 | 236 => 323 | 235 => 240 | 228 => 285 | 271 => 336 | 151 => 287 | 197 => 286 | 120 => 339 | 152 => 314 | 260 => 313 | 137 => 193 | 119 => 331 | 224 => 332 | 225 => 333 | 217 => 241 | 266 => 288 | n => n, fun | 9 => 9 | 4 => 4 | 3 => 3 | 5 => 5 | 117 => 263 | 116 => 262 | 0 => 0 | 124 => 266 | 21 => 21 | 105 => 302 | 46 => 209 | 119 => 336 | 139 => 339 | 138 => 338 | n => n, fun | 3 => 4 | 4 => 5 | n => n⟩
theorem Tryz.lays160 : Go.Proofs.Lays.n160 Tryz.prog Tryz.lays160_ren := {
 mixed := by kernel_rfl
 f119 := Tryz.func331.trans (congrArg some (by kernel_rfl))
 f120 := Tryz.func339.trans (congrArg some (by kernel_rfl))
 f137 := Tryz.func193.trans (congrArg some (by kernel_rfl))
 f151 := Tryz.func287.trans (congrArg some (by kernel_rfl))
 f152 := Tryz.func314.trans (congrArg some (by kernel_rfl))
 f160 := Tryz.func292.trans (congrArg some (by kernel_rfl))
 f197 := Tryz.func286.trans (congrArg some (by kernel_rfl))
 f217 := Tryz.func241.trans (congrArg some (by kernel_rfl))
 f224 := Tryz.func332.trans (congrArg some (by kernel_rfl))
 f225 := Tryz.func333.trans (congrArg some (by kernel_rfl))
 f227 := Tryz.func238.trans (congrArg some (by kernel_rfl))
 f228 := Tryz.func285.trans (congrArg some (by kernel_rfl))
 f231 := Tryz.func237.trans (congrArg some (by kernel_rfl))
 f232 := Tryz.func321.trans (congrArg some (by kernel_rfl))
 f233 := Tryz.func239.trans (congrArg some (by kernel_rfl))
 f234 := Tryz.func322.trans (congrArg some (by kernel_rfl))
 f235 := Tryz.func240.trans (congrArg some (by kernel_rfl))
 f236 := Tryz.func323.trans (congrArg some (by kernel_rfl))
 f260 := Tryz.func313.trans (congrArg some (by kernel_rfl))
 f266 := Tryz.func288.trans (congrArg some (by kernel_rfl))
 f271 := Tryz.func336.trans (congrArg some (by kernel_rfl))
 t0 := Tryz.underlying0
 a0 := Tryz.isAgg0
 z0 := Tryz.sizeOf0
 v0 := Tryz.zeroValue0
 t3 := Tryz.underlying3
 a3 := Tryz.isAgg3
 z3 := Tryz.sizeOf3
 v3 := Tryz.zeroValue3
 t4 := Tryz.underlying4
 a4 := Tryz.isAgg4
 z4 := Tryz.sizeOf4
 v4 := Tryz.zeroValue4
 t5 := Tryz.underlying5
 a5 := Tryz.isAgg5
 z5 := Tryz.sizeOf5
 v5 := Tryz.zeroValue5
 t9 := Tryz.underlying9
 a9 := Tryz.isAgg9
 z9 := Tryz.sizeOf9
 v9 := Tryz.zeroValue9
 t21 := Tryz.underlying21
 a21 := Tryz.isAgg21
 z21 := Tryz.sizeOf21
 v21 := Tryz.zeroValue21
 t46 := Tryz.underlying209
 a46 := Tryz.isAgg209
 z46 := Tryz.sizeOf209
 v46 := Tryz.zeroValue209
 t105 := Tryz.underlying302
 a105 := Tryz.isAgg302
 z105 := Tryz.sizeOf302
 v105 := Tryz.zeroValue302
 t116 := Tryz.underlying262
 a116 := Tryz.isAgg262
 z116 := Tryz.sizeOf262
 t117 := Tryz.underlying263
 a117 := Tryz.isAgg263
 z117 := Tryz.sizeOf263
 v117 := Tryz.zeroValue263
 t119 := Tryz.underlying336
 a119 := Tryz.isAgg336
 z119 := Tryz.sizeOf336
 t124 := Tryz.underlying266
 a124 := Tryz.isAgg266
 z124 := Tryz.sizeOf266
 v124 := Tryz.zeroValue266
 t138 := Tryz.underlying338
 a138 := Tryz.isAgg338
 z138 := Tryz.sizeOf338
 v138 := Tryz.zeroValue338
 t139 := Tryz.underlying339
 a139 := Tryz.isAgg339
 z139 := Tryz.sizeOf339
 v139 := Tryz.zeroValue339
 g3 := by kernel_rfl
 g4 := by kernel_rfl }
def Tryz.lays137_ren : Go.Shelf.Ren := ⟨fun | 137 => 193 | 217 => 241 | 266 => 288 | n => n, fun | 9 => 9 | 5 => 5 | 3 => 3 | n => n, fun | n => n⟩
theorem Tryz.lays137 : Go.Proofs.Lays.n137 Tryz.prog Tryz.lays137_ren := {
 mixed := by kernel_rfl
 f137 := Tryz.func193.trans (congrArg some (by kernel_rfl))
 f217 := Tryz.func241.trans (congrArg some (by kernel_rfl))
 f266 := Tryz.func288.trans (congrArg some (by kernel_rfl))
 t3 := Tryz.underlying3
 a3 := Tryz.isAgg3
 z3 := Tryz.sizeOf3
 v3 := Tryz.zeroValue3
 t5 := Tryz.underlying5
 a5 := Tryz.isAgg5
 z5 := Tryz.sizeOf5
 v5 := Tryz.zeroValue5
 t9 := Tryz.underlying9
 a9 := Tryz.isAgg9
 z9 := Tryz.sizeOf9
 v9 := Tryz.zeroValue9 }
open Go.RowKit in
theorem Tryz.strings_IndexByte (s : ByteArray) (c : Int) (w : World) :
  Calls Tryz.prog 193 #[.string s, .int .u8 c] w fun e w' => e = .returned (.int .i64 (Lib.indexByte s.data.toList c.toNat.toUInt8)) ∧ w' = w := Any.strings_IndexByte Tryz.lays137 s c w
def Tryz.lays103_ren : Go.Shelf.Ren := ⟨fun | 103 => 291 | 210 => 320 | 206 => 222 | n => n, fun | 9 => 9 | 4 => 4 | 24 => 306 | 3 => 3 | n => n, fun | n => n⟩
theorem Tryz.lays103 : Go.Proofs.Lays.n103 Tryz.prog Tryz.lays103_ren := {
 mixed := by kernel_rfl
 f103 := Tryz.func291.trans (congrArg some (by kernel_rfl))
 f206 := Tryz.func222.trans (congrArg some (by kernel_rfl))
 f210 := Tryz.func320.trans (congrArg some (by kernel_rfl))
 t3 := Tryz.underlying3
 a3 := Tryz.isAgg3
 z3 := Tryz.sizeOf3
 v3 := Tryz.zeroValue3
 t4 := Tryz.underlying4
 a4 := Tryz.isAgg4
 z4 := Tryz.sizeOf4
 v4 := Tryz.zeroValue4
 t9 := Tryz.underlying9
 a9 := Tryz.isAgg9
 z9 := Tryz.sizeOf9
 v9 := Tryz.zeroValue9
 t24 := Tryz.underlying306
 a24 := Tryz.isAgg306
 z24 := Tryz.sizeOf306
 v24 := Tryz.zeroValue306 }
open Go.RowKit in
theorem Tryz.strings_CutPrefix (s p : ByteArray) (w : World) :
  Calls Tryz.prog 291 #[.string s, .string p] w fun e w' => e = .returned (.tuple #[.string ⟨(Lib.trimPrefix s.data.toList p.data.toList).toArray⟩, .bool (Lib.hasPrefix s.data.toList p.data.toList)]) ∧ w' = w := Any.strings_CutPrefix Tryz.lays103 s p w
open Go.RowKit in
theorem Tryz.TrimLeft_set (s cutset : ByteArray) (w : World) (hcs : cutset.size < 4294967281) (hascii : ∀ (j : Nat) b, cutset.data.toList[j]? = some b → b.toNat < 128) :
  Calls Tryz.prog 191 #[.string s, .string cutset] w fun e w' => e = .returned (.string ⟨(Lib.trimLeftS s.data.toList cutset.data.toList).toArray⟩) ∧ Below w.heap.size w w' :=
 Any.strings_TrimLeft_laid Tryz.lays161 (by kernel_rfl) s cutset w hcs hascii
open Go.RowKit in
theorem Tryz.Trim_set (s cutset : ByteArray) (w : World) (hs : s.size ≤ 9223372036854775807) (hcs : cutset.size < 4294967281) (hascii : ∀ (j : Nat) b, cutset.data.toList[j]? = some b → b.toNat < 128) :
  Calls Tryz.prog 292 #[.string s, .string cutset] w fun e w' => e = .returned (.string ⟨(Lib.trimS s.data.toList cutset.data.toList).toArray⟩) ∧ Below w.heap.size w w' :=
 Any.strings_Trim_laid Tryz.lays160 (by kernel_rfl) s cutset w hs hcs hascii
end Go.Proofs
end
section
namespace Go.Proofs.YtdamegaedmckbaaGreatDoor
open Go.RowKit
abbrev Iu : List PanicEntry := [{ v := .iface 88 (.agg #[]), recovered := false }]
theorem Di (w : World) : Calls Tryz.prog 130 #[.bool true] w fun e w' => e = .returned (.tuple #[]) ∧ w' = w := by
 go_enter Tryz.func130, Tryz.ntmps130
 go_wp2
 exact bodyPost_end (v := .tuple #[]) (by simp [results, Tryz.results130, go_sem]) rfl ⟨rfl, rfl⟩
theorem K5 (w : World) : Calls Tryz.prog 130 #[.bool false] w fun e w' => e = .panicked Iu ∧ w' = w := by
 go_enter Tryz.func130, Tryz.ntmps130
 go_wp2
 exact ⟨rfl, rfl, rfl⟩
structure By (w : World) (R : Nat) (L : List UInt8) (many : Bool) : Prop where
 c0 : w.cell? ⟨R, 0, none⟩ = some (.string ⟨L.toArray⟩)
 c1 : w.cell? ⟨R, 1, none⟩ = some (.bool many)
 f0 : w.frozen? ⟨R, 0, none⟩ = false
 f1 : w.frozen? ⟨R, 1, none⟩ = false
theorem By.lt {w : World} {R : Nat} {L : List UInt8} {many : Bool} (h : By w R L many) : R < w.heap.size := Aa _ _ h.c0
theorem By.keep {w w' : World} {R : Nat} {L : List UInt8} {many : Bool} (h : By w R L many) (hb : Below w.heap.size w w') : By w' R L many :=
 ⟨Au hb h.c0, Au hb h.c1, (Ab hb h.lt).trans h.f0, (Ab hb h.lt).trans h.f1⟩
theorem Az {w w' : World} (h : Below w.heap.size w w') (row : Option Nat) : w.grownBy w' row := ⟨h.os, h.tape, h.output, h.size, fun k hk _ => h.block k hk⟩
theorem Aw {w w' : World} {R o : Nat} (v : Value) (h : w.grownBy w' (some R)) : w.grownBy (w'.setCell ⟨R, o, none⟩ v) (some R) := by
 have hb : Below R w' (w'.setCell ⟨R, o, none⟩ v) := (Ac R w').setCell (p := ⟨R, o, none⟩) (Ad _) v
 exact ⟨hb.os.trans h.os, hb.tape.trans h.tape, hb.output.trans h.output, Ah h.size hb.size, fun k hk hne => by
  rw [Below.heap_setCell w' ⟨R, o, none⟩ v k (by intro e; exact hne (by rw [e]))]
  exact h.block k hk hne⟩
theorem By.set0 {w : World} {R : Nat} {L : List UInt8} {many : Bool} (h : By w R L many) (L' : List UInt8) : By (w.setCell ⟨R, 0, none⟩ (.string ⟨L'.toArray⟩)) R L' many := by
 exact qEf
theorem By.set1 {w : World} {R : Nat} {L : List UInt8} {many : Bool} (h : By w R L many) (m : Bool) : By (w.setCell ⟨R, 1, none⟩ (.bool m)) R L m := by
 exact qEf
theorem Bc (w : World) (row : Option Nat) : w.grownBy w row := Az (Ac _ _) row
theorem Qj (b : UInt8) : ([32, 9] : List UInt8).contains b = Gw b := by
 unfold Gw
 by_cases h1 : b = 32
 ·subst h1; rfl
 ·by_cases h2 : b = 9
  ·subst h2; rfl
  ·have e1 : ¬ (b.toNat : Int) = 32 := fun e => h1 (UInt8.toNat_inj.1 (by show b.toNat = 32; omega))
   have e2 : ¬ (b.toNat : Int) = 9 := fun e => h2 (UInt8.toNat_inj.1 (by show b.toNat = 9; omega))
   simp [h1, h2, e1, e2]
theorem Z0 (L : List UInt8) : Lib.trimLeftS L [32, 9] = skp L := by
 unfold Lib.trimLeftS skp
 congr 1
 funext b
 exact Qj b
theorem K6 (b : UInt8) : ([48, 49, 50, 51, 52, 53, 54, 55, 56, 57] : List UInt8).contains b = Bl b := by
 have h : ∀ n : Fin 256, ([48, 49, 50, 51, 52, 53, 54, 55, 56, 57] : List UInt8).contains (UInt8.ofNat n) = decide (48 ≤ n.val ∧ n.val ≤ 57) := by decide
 have := h ⟨b.toNat, b.toNat_lt⟩
 simp only [UInt8.ofNat_toNat] at this
 rw [this]
 unfold Bl
 rw [decide_eq_decide]
 omega
theorem aE (L : List UInt8) : Lib.trimLeftS L [48, 49, 50, 51, 52, 53, 54, 55, 56, 57] = L.dropWhile Bl := by
 unfold Lib.trimLeftS
 congr 1
 funext b
 exact K6 b
theorem Lv (w : World) (R : Nat) (L : List UInt8) (many : Bool) (h : By w R L many) (hL : L.length < 1000000000) :
  Calls Tryz.prog 127 #[.pointer (some ⟨R, 0, none⟩)] w fun e w' => e = .returned (.tuple #[]) ∧ By w' R (skp L) many ∧ w.grownBy w' (some R) := by
 have h0 := h.c0
 have f0 := h.f0
 go_enter Tryz.func127, Tryz.ntmps127
 go_wp2_with fail
 refine (Tryz.TrimLeft_set ⟨L.toArray⟩ ⟨#[32, 9]⟩ _ (by simp [ByteArray.size]) (Go.Proofs.ascii_of_all qC)).mono ?_
 rintro e w1 ⟨rfl, hb⟩
 have hr := h.keep hb
 have g1 := hr.c0
 have g2 := hr.f0
 go_wp2_with fail
 refine bodyPost_end (v := .tuple #[]) (by simp [results, Tryz.results127, go_sem]) rfl ⟨rfl, ?_, ?_⟩
 ·have := hr.set0 (skp L)
  simpa [Z0] using this
 ·exact Aw _ (Az hb _)
theorem Ir (W : World) (s : ByteArray) (k : Nat) (hk : k ≤ s.size) : (Instr.sliceAt 9 (.string s) none (some (.int .i64 (k : Int))) none).run Tryz.prog W = .ok (.string (s.extract 0 k)) W := by
 exact qCr
theorem L6 (W : World) (s : ByteArray) (k : Nat) (hk : k ≤ s.size) : (Instr.sliceAt 9 (.string s) (some (.int .i64 (k : Int))) none none).run Tryz.prog W = .ok (.string (s.extract k s.size)) W := by
 exact qCr
theorem Oj (p : UInt8 → Bool) (L : List UInt8) : L.take (L.length - (L.dropWhile p).length) = L.takeWhile p ∧ L.drop (L.length - (L.dropWhile p).length) = L.dropWhile p ∧ L.length - (L.dropWhile p).length = (L.takeWhile p).length := by
 have h := List.takeWhile_append_dropWhile (p := p) (l := L)
 have hl : (L.takeWhile p).length + (L.dropWhile p).length = L.length := by rw [← List.length_append, h]
 have e : L.length - (L.dropWhile p).length = (L.takeWhile p).length := by omega
 refine ⟨?_, ?_, e⟩
 ·rw [e]
  have := List.take_left (l₁ := L.takeWhile p) (l₂ := L.dropWhile p)
  rwa [h] at this
 ·rw [e]
  have := List.drop_left (l₁ := L.takeWhile p) (l₂ := L.dropWhile p)
  rwa [h] at this
theorem Gm (L : List UInt8) (k : Nat) : (⟨L.toArray⟩ : ByteArray).extract 0 k = ⟨(L.take k).toArray⟩ := by
 apply ByteArray.ext
 simp
theorem Im (L : List UInt8) (k : Nat) : (⟨L.toArray⟩ : ByteArray).extract k L.length = ⟨(L.drop k).toArray⟩ := by
 apply ByteArray.ext
 simp
 rw [As qH]
def Jq (w : World) (R : Nat) (x : Option (List UInt8 × List UInt8 × Bool)) (e : Ending) (w' : World) : Prop :=
 w.grownBy w' (some R) ∧ match x with | none => e = .panicked Iu | some (d, r, m) => e = .returned (.string ⟨d.toArray⟩) ∧ By w' R r m
theorem Jq.no {w w' : World} {R : Nat} (h : w.grownBy w' (some R)) : Jq w R none (.panicked Iu) w' := ⟨h, rfl⟩
theorem Jq.yes {w w' : World} {R : Nat} {d r : List UInt8} {m : Bool} (h : w.grownBy w' (some R)) (hr : By w' R r m) : Jq w R (some (d, r, m)) (.returned (.string ⟨d.toArray⟩)) w' := ⟨h, rfl, hr⟩
theorem Ij {w w' : World} {row : Option Nat} (h : w.grownBy w' row) : w.grownBy w'.drew row := ⟨h.os, h.tape, h.output, h.size, h.block⟩
theorem By.drew {w : World} {R : Nat} {L : List UInt8} {many : Bool} (h : By w R L many) : By w.drew R L many := ⟨h.c0, h.c1, h.f0, h.f1⟩
theorem Yj (w : World) (L r : List UInt8) (hr : L.dropWhile Bl = r) : Calls Tryz.prog 191 #[.string ⟨L.toArray⟩, .string ⟨#[48, 49, 50, 51, 52, 53, 54, 55, 56, 57]⟩] w fun e w' => e = .returned (.string ⟨r.toArray⟩) ∧ Below w.heap.size w w' := by
 have := Tryz.TrimLeft_set ⟨L.toArray⟩ ⟨#[48, 49, 50, 51, 52, 53, 54, 55, 56, 57]⟩ w (by simp [ByteArray.size]) (Go.Proofs.ascii_of_all qC)
 rw [aE, hr] at this
 exact this
theorem Q9 (w : World) (R : Nat) (L : List UInt8) (many : Bool) (h : By w R L many) (hL : L.length < 1000000000) :
  Calls Tryz.prog 244 #[.pointer (some ⟨R, 0, none⟩)] w (Jq w R (Fe L many)) := by
 have h0 := h.c0
 have f0 := h.f0
 have h1 := h.c1
 have f1 := h.f1
 obtain ⟨t1, t2, t3⟩ := Oj Bl L
 have hle : (L.dropWhile Bl).length ≤ L.length := (List.dropWhile_sublist _).length_le
 generalize hr : L.dropWhile Bl = r at *
 generalize hd : L.takeWhile Bl = d at *
 have hw : wrap64 ((L.length : Int) - (r.length : Int)) = (d.length : Int) := by rw [← t3]; unfold wrap64; omega
 go_enter Tryz.func244, Tryz.ntmps244
 go_wp2_with fail
 replace h0 := A8 h0
 (refine A9 qG qG ?_; (repeat (go_big_quiet_step (first | (go_at_call 191; exact Cz (Yj _ L r hr))))); refine wpQuiet_nil ?_; intro _ hw0; obtain ⟨nq, hw0⟩ := hw0; subst hw0)
 obtain ⟨w1, hb⟩ := nq
 have hn : (L.length : Int) - (r.length : Int) = (d.length : Int) := by omega
 have hR := h.keep hb
 have c0 := hR.c0
 have c1 := hR.c1
 have z0 := hR.f0
 have z1 := hR.f1
 rw [hn]
 have q1 : ∀ W : World, (Instr.sliceAt 9 (.string ⟨L.toArray⟩) none (some (.int .i64 (d.length : Int))) none).run Tryz.prog W = .ok (.string ⟨d.toArray⟩) W := fun W => by
  rw [Ir W _ _ (by show d.length ≤ L.toArray.size; simp; omega), Gm, ← t3, t1]
 have q2 : ∀ W : World, (Instr.sliceAt 9 (.string ⟨L.toArray⟩) (some (.int .i64 (d.length : Int))) none none).run Tryz.prog W = .ok (.string ⟨r.toArray⟩) W := fun W => by
  rw [L6 W _ _ (by show d.length ≤ L.toArray.size; simp; omega)]
  have : (⟨L.toArray⟩ : ByteArray).size = L.length := by simp [ByteArray.size]
  rw [this, Im, ← t3, t2]
 clear h0 h1 f0 f1 hn
 go_wp2_with fail
 refine Cg (fun W => W.cell? ⟨R, 0, none⟩ = some (.string ⟨L.toArray⟩)) 16 qG qK (fun hHeld => ?_)
 (refine Bf.take 16 (i := 0) (v := ?_) rfl qG (fun _ _ _ h => h) (Or.inl ⟨by rfl, ?_⟩) qI ?_; rotate_left; (focus (intro w' hSw; (try dsimp only at hSw); go_simp; (try with_reducible rfl))); (try simp only [Act.put, List.setIfInBounds_toArray, List.set_cons_zero, List.set_cons_succ]))
 (refine Bf.take 16 (i := 1) (v := ?_) rfl qG (fun _ _ _ h => h) (Or.inl ⟨by rfl, ?_⟩) qI ?_; rotate_left; (focus (intro w' hSw; (try dsimp only at hSw); go_simp; (try with_reducible rfl))); (try simp only [Act.put, List.setIfInBounds_toArray, List.set_cons_zero, List.set_cons_succ]))
 (refine Bf.take 16 (i := 2) (v := ?_) rfl qG (fun _ _ _ h => h) (Or.inl ⟨by rfl, ?_⟩) qI ?_; rotate_left; (focus (intro w' hSw; (try dsimp only at hSw); go_simp; (try with_reducible rfl))); (try simp only [Act.put, List.setIfInBounds_toArray, List.set_cons_zero, List.set_cons_succ]))
 (refine Bf.take 16 (i := 3) (v := ?_) rfl qG (fun _ _ _ h => h) (Or.inl ⟨by rfl, ?_⟩) qI ?_; rotate_left; (focus (intro w' hSw; (try dsimp only at hSw); go_simp; (try with_reducible rfl))); (try simp only [Act.put, List.setIfInBounds_toArray, List.set_cons_zero, List.set_cons_succ]))
 (refine Bf.take 16 (i := 4) (v := ?_) rfl qG (fun _ _ _ h => h) (Or.inl ⟨by rfl, ?_⟩) qI ?_; rotate_left; (focus (intro w' hSw; (try dsimp only at hSw); go_simp; (try with_reducible rfl))); (try simp only [Act.put, List.setIfInBounds_toArray, List.set_cons_zero, List.set_cons_succ]))
 (refine Bf.take 16 (i := 5) (v := ?_) rfl qG (fun _ _ _ h => h) (Or.inl ⟨by rfl, ?_⟩) qI ?_; rotate_left; (focus (intro w' hSw; (try dsimp only at hSw); go_simp; (try with_reducible rfl))); (try simp only [Act.put, List.setIfInBounds_toArray, List.set_cons_zero, List.set_cons_succ]))
 (refine Bf.take 16 (i := 6) (v := ?_) rfl qG (fun _ _ _ h => h) (Or.inl ⟨by rfl, ?_⟩) qI ?_; rotate_left; (focus (intro w' hSw; (try dsimp only at hSw); go_simp; (try with_reducible rfl))); (try simp only [Act.put, List.setIfInBounds_toArray, List.set_cons_zero, List.set_cons_succ]))
 (refine Bf.take 16 (i := 7) (v := ?_) rfl qG (fun _ _ _ h => h) (Or.inl ⟨by rfl, ?_⟩) qI ?_; rotate_left; (focus (intro w' hSw; (try dsimp only at hSw); go_simp; (try with_reducible rfl))); (try simp only [Act.put, List.setIfInBounds_toArray, List.set_cons_zero, List.set_cons_succ]))
 (refine Bf.take 16 (i := 8) (v := ?_) rfl qG (fun _ _ _ h => h) (Or.inl ⟨by rfl, ?_⟩) qI ?_; rotate_left; (focus (intro w' hSw; (try dsimp only at hSw); go_simp; (try with_reducible rfl))); (try simp only [Act.put, List.setIfInBounds_toArray, List.set_cons_zero, List.set_cons_succ]))
 (refine Bf.take 16 (i := 9) (v := ?_) rfl qG (fun _ _ _ h => h) (Or.inl ⟨by rfl, ?_⟩) qI ?_; rotate_left; (focus (intro w' hSw; (try dsimp only at hSw); go_simp; (try with_reducible rfl))); (try simp only [Act.put, List.setIfInBounds_toArray, List.set_cons_zero, List.set_cons_succ]))
 (refine Bf.take 16 (i := 10) (v := ?_) rfl qG (fun _ _ _ h => h) (Or.inl ⟨by rfl, ?_⟩) qI ?_; rotate_left; (focus (intro w' hSw; (try dsimp only at hSw); go_simp; (try with_reducible rfl))); (try simp only [Act.put, List.setIfInBounds_toArray, List.set_cons_zero, List.set_cons_succ]))
 (refine Bf.take 16 (i := 11) (v := ?_) rfl qG (fun _ _ _ h => h) (Or.inl ⟨by rfl, ?_⟩) qI ?_; rotate_left; (focus (intro w' hSw; (try dsimp only at hSw); go_simp; (try with_reducible rfl))); (try simp only [Act.put, List.setIfInBounds_toArray, List.set_cons_zero, List.set_cons_succ]))
 (refine Bf.take 16 (i := 12) (v := ?_) rfl qG (fun _ _ _ h => h) (Or.inl ⟨by rfl, ?_⟩) qI ?_; rotate_left; (focus (intro w' hSw; (try dsimp only at hSw); go_simp; (try with_reducible rfl))); (try simp only [Act.put, List.setIfInBounds_toArray, List.set_cons_zero, List.set_cons_succ]))
 (refine Bf.one (i := 13) rfl qG (fun K hK => ?_); go_simp; skip; (try go_wp2_with fail); refine hK.out _ _ (fun _ => qK) ?_; clear hK K; (try simp only [Act.put, List.setIfInBounds_toArray, List.set_cons_zero, List.set_cons_succ]))
 (refine Bf.one (i := 14) rfl qG (fun K hK => ?_); go_simp; skip; (try go_wp2_with fail); refine hK.out _ _ (fun _ => qK) ?_; clear hK K; (try simp only [Act.put, List.setIfInBounds_toArray, List.set_cons_zero, List.set_cons_succ]))
 (refine Bf.one (i := 15) rfl qG (fun K hK => ?_); go_simp; skip; (try go_wp2_with fail); refine hK.out _ _ (fun _ => qK) ?_; clear hK K; (try simp only [Act.put, List.setIfInBounds_toArray, List.set_cons_zero, List.set_cons_succ]))
 (refine Bf.one (i := 16) rfl qG (fun K hK => ?_); go_simp; refine hK.out _ _ (fun h => absurd h qC) ?_; clear hK K; (try simp only [Act.put, List.setIfInBounds_toArray, List.set_cons_zero, List.set_cons_succ]))
 refine Bf.done qG ?_ _
 have hR1 := (hR.set0 r)
 have hall : d.all Bl = true := by rw [← hd]; exact List.all_takeWhile
 have hg1 : w.grownBy (w1.setCell ⟨R, 0, none⟩ (.string ⟨r.toArray⟩)) (some R) := Aw _ (Az hb _)
 have HN := Ae (show Fe L many = if Bb d then some (d, r, many || decide (200 < d.length)) else none by unfold Fe; rw [hd, hr])
 have HA := Ae hall
 clear c0 c1 z0 z1 t1 t2 t3 hw hle hr hd q1 q2 hR hb h hall
 generalize (w1.setCell ⟨R, 0, none⟩ (.string ⟨r.toArray⟩)) = w2 at *
 have c0 := hR1.c0
 have c1 := hR1.c1
 have z0 := hR1.f0
 have z1 := hR1.f1
 cases d with
 | nil =>
  go_wp2_with (first | (go_at_call 130; refine (K5 _).mono ?_; rintro e w3 ⟨rfl, rfl⟩))
  refine ⟨rfl, ?_⟩
  rw [HN.out]
  exact .no (Ij hg1)
 | cons b t =>
  have hy : (⟨(b :: t).toArray⟩ : ByteArray)[0]'(by simp [ByteArray.size]) = b := by simp [ByteArray.getElem_eq_getElem_data]
  by_cases hb : b = 48
  ·subst hb
   cases t with
   | nil =>
    go_wp2_with (first | (go_at_call 130; refine (Di _).mono ?_; rintro e w3 ⟨rfl, rfl⟩))
    all_goals
     refine bodyPost_ret (v := .string ⟨([48] : List UInt8).toArray⟩) (by simp [results, Tryz.results244, go_sem]) rfl ?_
     rw [HN.out, if_pos qP]
     refine .yes (Ij (Aw _ hg1)) ?_
     first
      | (rw [show (many || decide (200 < ([48] : List UInt8).length)) = true by simp [*]]; exact (hR1.set1 true).drew)
      | (rw [show (many || decide (200 < ([48] : List UInt8).length)) = false by simp [*]]; exact (hR1.set1 false).drew)
   | cons c t' =>
    go_wp2_with (first | (go_at_call 130; refine (K5 _).mono ?_; rintro e w3 ⟨rfl, rfl⟩))
    refine ⟨rfl, ?_⟩
    rw [HN.out, show Bb (48 :: c :: t') = false by simp [Bb]]
    exact .no (Ij hg1)
  ·have hb' : ¬ (b.toNat : Int) = 48 := fun e => hb (UInt8.toNat_inj.1 (by show b.toNat = 48; omega))
   have hdig : Hid (Bb (b :: t) = true) := Ae (by simp only [Bb, HA.out, Bool.true_and]; simp [hb'])
   have hcond : (b == 48 && t.isEmpty || ((b.toNat : Int) != 48)) = true := by simp [hb']
   go_wp2_with (first | (go_at_call 130; refine (Di _).mono ?_; rintro e w3 ⟨rfl, rfl⟩))
   all_goals
    refine bodyPost_ret (v := .string ⟨(b :: t).toArray⟩) (by simp [results, Tryz.results244, go_sem]) rfl ?_
    rw [HN.out, if_pos hdig.out]
    refine .yes (Ij (Aw _ hg1)) ?_
    first
     | (rw [show (many || decide (200 < (b :: t).length)) = true by (simp [*]; done)]; exact (hR1.set1 true).drew)
     | (rw [show (many || decide (200 < (b :: t).length)) = false by (simp [*]; omega)]; exact (hR1.set1 false).drew)
     | (rw [show (many || decide (200 < (b :: t).length)) = decide (200 < (t.length : Int) + 1) by (have hmf : many = false := by simpa using ‹¬ many = true›); rw [hmf, Bool.false_or, List.length_cons, decide_eq_decide]; omega]; exact (hR1.set1 _).drew)
theorem Oh (w : World) (R : Nat) (L : List UInt8) (many : Bool) (h : By w R L many) (hL : L.length < 1000000000) :
  Calls Tryz.prog 243 #[.pointer (some ⟨R, 0, none⟩)] w (Jq w R (Eq L many)) := by
 go_enter Tryz.func243, Tryz.ntmps243
 go_wp2_with fail
 refine (Q9 _ R L many h hL).mono ?_
 rintro e w1 ⟨hg, hp⟩
 cases hx : Fe L many with
 | none =>
  rw [hx] at hp
  subst hp
  refine ⟨rfl, ?_⟩
  rw [show Eq L many = none by unfold Eq; rw [hx]]
  exact .no hg
 | some x =>
  obtain ⟨d, r, m⟩ := x
  rw [hx] at hp
  obtain ⟨rfl, hr⟩ := hp
  by_cases hd : d = [48]
  ·subst hd
   have HX := Ae (show Eq L many = none by unfold Eq; rw [hx]; simp)
   clear hx
   go_wp2_with (first | (go_at_call 130; refine (K5 _).mono ?_; rintro e w3 ⟨rfl, rfl⟩))
   refine ⟨rfl, ?_⟩
   rw [HX.out]
   exact .no hg
  ·have HX := Ae (show Eq L many = some (d, r, m) by unfold Eq; rw [hx]; simp [hd])
   have hq1 : (d == [48]) = false := by simp [hd]
   have hq2 : (d != [48]) = true := by simp [hd]
   clear hx
   go_wp2_with (first | (go_at_call 130; refine (Di _).mono ?_; rintro e w3 ⟨rfl, rfl⟩))
   refine bodyPost_ret (v := .string ⟨d.toArray⟩) (by simp [results, Tryz.results243, go_sem]) rfl ?_
   rw [HX.out]
   exact .yes hg hr
def eG (w0 w : World) (p q : Int) (m : Nat) (e : Ending) (w' : World) : Prop :=
 ∃ g1 a1 n1 c1 g2 a2 n2 c2, e = .returned (.agg #[.bool g1, .slice a1 n1 c1, .bool g2, .slice a2 n2 c2]) ∧ Bj w' g1 a1 n1 c1 p g2 a2 n2 c2 q ∧ n1 ≤ m ∧ n2 ≤ m ∧ (Bj w0 g1 a1 n1 c1 p g2 a2 n2 c2 q ∨ (Av w.heap.size w' a1 c1 ∧ Av w.heap.size w' a2 c2)) ∧ Below w.heap.size w w'
theorem aR (w : World) (g1 : Bool) (a1 : Option Addr) (n1 c1 : Nat) (p : Int) (g2 : Bool) (a2 : Option Addr) (n2 c2 : Nat) (q : Int) (h : Bj w g1 a1 n1 c1 p g2 a2 n2 c2 q)
  (g3 : Bool) (a3 : Option Addr) (n3 c3 : Nat) (p' : Int) (g4 : Bool) (a4 : Option Addr) (n4 c4 : Nat) (q' : Int) (m : Nat) (hof : ∀ W, Below w.heap.size w W → Calls Tryz.prog 108 #[.agg #[.bool g3, .slice a3 n3 c3, .bool g4, .slice a4 n4 c4]] W (eG w W p' q' m)) (hb1 : n1 ≤ 1000000000) (hb2 : n2 ≤ 1000000000) (hm : m ≤ 1000000000) :
  Calls Tryz.prog 106 #[.agg #[.bool g1, .slice a1 n1 c1, .bool g2, .slice a2 n2 c2], .agg #[.bool g3, .slice a3 n3 c3, .bool g4, .slice a4 n4 c4]] w (Gr w (Fz (p * p') (q * q')) (Fj (p * p') (q * q'))) := by
 have HB := Ac w.heap.size w
 have HOF := Ae hof
 clear hof
 go_enter Tryz.func106, Tryz.ntmps106
 go_wp2_with fail
 refine Cg (fun W => W.cell? ⟨w.heap.size, 0, none⟩ = some (.bool g1) ∧ W.cell? ⟨w.heap.size, 1, none⟩ = some (.slice a1 n1 c1) ∧ W.cell? ⟨w.heap.size, 2, none⟩ = some (.bool g2) ∧ W.cell? ⟨w.heap.size, 3, none⟩ = some (.slice a2 n2 c2) ∧ W.cell? ⟨w.heap.size + 1, 0, none⟩ = some (.bool g3) ∧ W.cell? ⟨w.heap.size + 1, 1, none⟩ = some (.slice a3 n3 c3) ∧ W.cell? ⟨w.heap.size + 1, 2, none⟩ = some (.bool g4) ∧ W.cell? ⟨w.heap.size + 1, 3, none⟩ = some (.slice a4 n4 c4)) 4 qG qK (fun hHeld => ?_)
 (refine Bf.take 1 (i := 0) (v := ?_) rfl qG (fun _ _ _ h => h) (Or.inl ⟨by rfl, ?_⟩) qI ?_; rotate_left; (focus (intro w' hSw; (try dsimp only at hSw); go_simp; (try with_reducible rfl))); (try simp only [Act.put, List.setIfInBounds_toArray, List.set_cons_zero, List.set_cons_succ]))
 (refine Bf.take 3 (i := 2) (v := ?_) rfl qG (fun _ _ _ h => h) (Or.inl ⟨by rfl, ?_⟩) qI ?_; rotate_left; (focus (intro w' hSw; (try dsimp only at hSw); go_simp; (try with_reducible rfl))); (try simp only [Act.put, List.setIfInBounds_toArray, List.set_cons_zero, List.set_cons_succ]))
 (refine Bf.one (i := 1) rfl qG (fun K hK => ?_); go_simp; (go_at_call 108; (with_reducible refine (Ry _ _ _ _ _ _ _ _ _ _ _ (h.keep qF) qB qB).mono ?_); rintro e w1 ⟨rfl, hb⟩; obtain ⟨hc, hf⟩ := Ax hb; have hz := hb.size; (try simp only [Aj, Ak] at hz); replace HB := zD w hb; obtain ⟨s0_0, s0_1⟩ := qX hc (w.heap.size) (.bool g1) (.slice a1 n1 c1); obtain ⟨s0_2, s0_3⟩ := qY hc (w.heap.size) (.bool g2) (.slice a2 n2 c2); obtain ⟨s1_0, s1_1⟩ := qX hc (w.heap.size + 1) (.bool g3) (.slice a3 n3 c3); obtain ⟨s1_2, s1_3⟩ := qY hc (w.heap.size + 1) (.bool g4) (.slice a4 n4 c4); obtain ⟨s2_0, s2_1⟩ := qZ hc (w.heap.size + 1 + 1); obtain ⟨s2_2, s2_3⟩ := qY hc (w.heap.size + 1 + 1) (.bool false) (.slice none 0 0); obtain ⟨f2_0, f2_1⟩ := zA hf (w.heap.size + 1 + 1); obtain ⟨f2_2, f2_3⟩ := zB hf (w.heap.size + 1 + 1); obtain ⟨f0_0, f0_1⟩ := zA hf (w.heap.size); obtain ⟨f0_2, f0_3⟩ := zB hf (w.heap.size); obtain ⟨f1_0, f1_1⟩ := zA hf (w.heap.size + 1); obtain ⟨f1_2, f1_3⟩ := zB hf (w.heap.size + 1)); (try go_wp2_with fail); refine hK.out _ _ (fun _ => qK) ?_; clear hK K; (try simp only [Act.put, List.setIfInBounds_toArray, List.set_cons_zero, List.set_cons_succ]))
 (refine Bf.one (i := 3) rfl qG (fun K hK => ?_); go_simp; (go_at_call 108; (with_reducible refine (HOF.out _ qF).mono ?_); rintro e w2 ⟨g5, a5, n5, c5, g6, a6, n6, c6, rfl, hF, hm5, hm6, hold, hb2⟩; have hb12 : Below w1.heap.size w1 w2 := Al (by first|assumption|go_grown) (hb2.mono qA); have hsz2 := hb12.size; (replace f0_0 := (Ab hb12 (Aa _ _ s0_0)).trans f0_0; replace s0_0 := Au hb12 s0_0; replace f0_1 := (Ab hb12 (Aa _ _ s0_1)).trans f0_1; replace s0_1 := Au hb12 s0_1; replace f0_2 := (Ab hb12 (Aa _ _ s0_2)).trans f0_2; replace s0_2 := Au hb12 s0_2; replace f0_3 := (Ab hb12 (Aa _ _ s0_3)).trans f0_3; replace s0_3 := Au hb12 s0_3; replace f1_0 := (Ab hb12 (Aa _ _ s1_0)).trans f1_0; replace s1_0 := Au hb12 s1_0; replace f1_1 := (Ab hb12 (Aa _ _ s1_1)).trans f1_1; replace s1_1 := Au hb12 s1_1; replace f1_2 := (Ab hb12 (Aa _ _ s1_2)).trans f1_2; replace s1_2 := Au hb12 s1_2; replace f1_3 := (Ab hb12 (Aa _ _ s1_3)).trans f1_3; replace s1_3 := Au hb12 s1_3; replace f2_0 := (Ab hb12 (Aa _ _ s2_0)).trans f2_0; replace s2_0 := Au hb12 s2_0; replace f2_1 := (Ab hb12 (Aa _ _ s2_1)).trans f2_1; replace s2_1 := Au hb12 s2_1; replace f2_2 := (Ab hb12 (Aa _ _ s2_2)).trans f2_2; replace s2_2 := Au hb12 s2_2; replace f2_3 := (Ab hb12 (Aa _ _ s2_3)).trans f2_3; replace s2_3 := Au hb12 s2_3); replace HB := HB.trans (hb12.mono HB.size)); (try go_wp2_with fail); refine hK.out _ _ (fun _ => qK) ?_; clear hK K; (try simp only [Act.put, List.setIfInBounds_toArray, List.set_cons_zero, List.set_cons_succ]))
 (refine Bf.one (i := 4) rfl qG (fun K hK => ?_); go_simp; refine hK.out _ _ (fun h => absurd h qC) ?_; clear hK K; (try simp only [Act.put, List.setIfInBounds_toArray, List.set_cons_zero, List.set_cons_succ]))
 (refine Bf.one (i := 5) rfl qG (fun K hK => ?_); go_simp; refine hK.out _ _ (fun h => absurd h qC) ?_; clear hK K; (try simp only [Act.put, List.setIfInBounds_toArray, List.set_cons_zero, List.set_cons_succ]))
 refine Bf.done qG ?_ _
 have hk2 : w.heap.size + 1 + 1 < w2.heap.size := Aa _ _ s2_0
 have hk1 := HB.size
 go_upto_region 2 with fail
 refine Ck ?_
 intro w3 hw3
 have HB3 : Below w.heap.size w w3 := by rw [hw3]; go_grown
 have A0 : w3.cell? ⟨w.heap.size, 0, none⟩ = some (.bool g1) := by rw [hw3]; simp [*, go_sem]
 have A1 : w3.cell? ⟨w.heap.size, 1, none⟩ = some (.slice a1 n1 c1) := by rw [hw3]; simp [*, go_sem]
 have A2 : w3.cell? ⟨w.heap.size, 2, none⟩ = some (.bool g2) := by rw [hw3]; simp [*, go_sem]
 have A3 : w3.cell? ⟨w.heap.size, 3, none⟩ = some (.slice a2 n2 c2) := by rw [hw3]; simp [*, go_sem]
 have B0 : w3.cell? ⟨w.heap.size + 1, 0, none⟩ = some (.bool g5) := by rw [hw3]; simp [*, go_sem]
 have B1 : w3.cell? ⟨w.heap.size + 1, 1, none⟩ = some (.slice a5 n5 c5) := by rw [hw3]; simp [*, go_sem]
 have B2 : w3.cell? ⟨w.heap.size + 1, 2, none⟩ = some (.bool g6) := by rw [hw3]; simp [*, go_sem]
 have B3 : w3.cell? ⟨w.heap.size + 1, 3, none⟩ = some (.slice a6 n6 c6) := by rw [hw3]; simp [*, go_sem]
 have R0 : w3.cell? ⟨w.heap.size + 1 + 1, 0, none⟩ = some (.bool false) := by rw [hw3]; simp [*, go_sem]
 have R1 : w3.cell? ⟨w.heap.size + 1 + 1, 1, none⟩ = some (.slice none 0 0) := by rw [hw3]; simp [*, go_sem]
 have R2 : w3.cell? ⟨w.heap.size + 1 + 1, 2, none⟩ = some (.bool false) := by rw [hw3]; simp [*, go_sem]
 have R3 : w3.cell? ⟨w.heap.size + 1 + 1, 3, none⟩ = some (.slice none 0 0) := by rw [hw3]; simp [*, go_sem]
 have Rf0 : w3.frozen? ⟨w.heap.size + 1 + 1, 0, none⟩ = false := by rw [hw3]; simp [*, go_sem]
 have Rf1 : w3.frozen? ⟨w.heap.size + 1 + 1, 1, none⟩ = false := by rw [hw3]; simp [*, go_sem]
 have Rf2 : w3.frozen? ⟨w.heap.size + 1 + 1, 2, none⟩ = false := by rw [hw3]; simp [*, go_sem]
 have Rf3 : w3.frozen? ⟨w.heap.size + 1 + 1, 3, none⟩ = false := by rw [hw3]; simp [*, go_sem]
 have hF3 : Bj w3 g5 a5 n5 c5 p' g6 a6 n6 c6 q' := by
  rcases hold with ho | ⟨f5, f6⟩
  ·exact ho.keep HB3
  ·have l0 : w.heap.size < w1.heap.size := by omega
   have l1 : w.heap.size + 1 < w1.heap.size := by omega
   rw [hw3]
   exact ⟨(hF.top.set4 f5 _ _ _ _ _ _ _ _ l0 l0 l0 l0).set4 (f5.set4 _ _ _ _ _ _ _ _ l0 l0 l0 l0) _ _ _ _ _ _ _ _ l1 l1 l1 l1, (hF.low.set4 f6 _ _ _ _ _ _ _ _ l0 l0 l0 l0).set4 (f6.set4 _ _ _ _ _ _ _ _ l0 l0 l0 l0) _ _ _ _ _ _ _ _ l1 l1 l1 l1, hF.pos, hF.red⟩
 have e1 := h.top.rd.len
 have e3 := hF3.top.rd.len
 have i1 := Ci p p'
 have HD : Hid ((dg (p * p').natAbs).length < 35184372088829) := Ae qB
 have hk3 : w.heap.size + 1 + 1 + 1 ≤ w3.heap.size := Aa _ _ R0
 clear hw3 e1 e3 i1 HB hc hf hb hz hF hold hb2 hb12 hsz2 hk2 hk1 s0_0 s0_1 s0_2 s0_3 s1_0 s1_1 s1_2 s1_3 s2_0 s2_1 s2_2 s2_3 f0_0 f0_1 f0_2 f0_3 f1_0 f1_1 f1_2 f1_3 f2_0 f2_1 f2_2 f2_3
 go_wp2_with fail
 refine (Yo _ _ _ _ _ _ _ _ _ _ _ (h.keep HB3) _ _ _ _ _ _ _ _ _ _ hF3 hb1 hb2 qB qB _ _ (p * p') HD.out (fun W gx ax nx cx gy ay ny cy hW hx hy => cT W w.heap.size (w.heap.size + 1) gx ax nx cx gy ay ny cy _ _ _ _ p ((h.keep HB3).top.keep hW) _ _ _ _ p' (hF3.top.keep hW) qB qB (Au hW A0) (Au hW A1) (Au hW B0) (Au hW B1))).mono ?_
 rintro e w4 ⟨ge, ae, ne, ce, gf, af, nf, cf, rfl, hr, hfe, hff, hap, hb⟩
 have HB4 := HB3.trans (hb.mono HB3.size)
 (replace Rf0 := (Ab hb (Aa _ _ R0)).trans Rf0; replace Rf1 := (Ab hb (Aa _ _ R1)).trans Rf1; replace Rf2 := (Ab hb (Aa _ _ R2)).trans Rf2; replace Rf3 := (Ab hb (Aa _ _ R3)).trans Rf3; replace R0 := Au hb R0; replace R1 := Au hb R1; replace R2 := Au hb R2; replace R3 := Au hb R3)
 have fe : Av (w.heap.size + 1 + 1 + 1) w4 ae ce := hfe.mono hk3
 have ff : Av (w.heap.size + 1 + 1 + 1) w4 af cf := hff.mono hk3
 have u2 : w.heap.size + 1 + 1 < w.heap.size + 1 + 1 + 1 := Ag _
 clear hb HB3 hfe hff
 go_wp2_with fail
 refine bodyPost_ret (v := .agg #[.bool ge, .slice ae ne ce, .bool gf, .slice af nf cf]) (by simp [results, Tryz.results106, go_sem, R0, R1, R2, R3]) rfl ?_
 exact qBe
theorem Zm (w : World) (g1 : Bool) (a1 : Option Addr) (n1 c1 : Nat) (p : Int) (g2 : Bool) (a2 : Option Addr) (n2 c2 : Nat) (q : Int) (h : Bj w g1 a1 n1 c1 p g2 a2 n2 c2 q)
  (g3 : Bool) (a3 : Option Addr) (n3 c3 : Nat) (p' : Int) (g4 : Bool) (a4 : Option Addr) (n4 c4 : Nat) (q' : Int) (h' : Bj w g3 a3 n3 c3 p' g4 a4 n4 c4 q') (hb1 : n1 ≤ 1000000000) (hb2 : n2 ≤ 1000000000) (hb3 : n3 ≤ 1000000000) (hb4 : n4 ≤ 1000000000) :
  Calls Tryz.prog 106 #[.agg #[.bool g1, .slice a1 n1 c1, .bool g2, .slice a2 n2 c2], .agg #[.bool g3, .slice a3 n3 c3, .bool g4, .slice a4 n4 c4]] w (Gr w (Fz (p * p') (q * q')) (Fj (p * p') (q * q'))) :=
 aR w g1 a1 n1 c1 p g2 a2 n2 c2 q h g3 a3 n3 c3 p' g4 a4 n4 c4 q' 1000000000 (fun W hW => (Ry W _ _ _ _ _ _ _ _ _ _ (h'.keep hW) qB qB).mono (fun e w' ⟨he, hb⟩ => ⟨_, _, _, _, _, _, _, _, he, (h'.keep hW).keep hb, hb3, hb4, .inl h', hb⟩)) hb1 hb2 (Ad _)
end Go.Proofs.YtdamegaedmckbaaGreatDoor
end
