/- Text and Check of a sum that lies in memory as a list. Conditions: the sum may be, its numbers have few parts; the table of the powers of ten. Plain: what some closed texts are read as, and written. No condition. Contracts of the library at this dump, in plain words: Atoi, ParseUint, the sort, Grow. No condition. -/
import Derived.Test.YtdamegaedmckbaaGreatDoorX23
import Derived.Test.YtdamegaedmckbaaGreatDoorX20
import Derived.Test.YtdamegaedmckbaaGreatDoorX24
import Derived.Shelf.Small.Bits
import Derived.Shelf.Strconv.AtoiAll
import Derived.Shelf.Pu.ParseUintPublic10
import Derived.Shelf.SlSortCmp.WholeK
import Derived.Shelf.SlSortCmp.NoneTotal
import Derived.Shelf.Spec.SlicesGrow
import Derived.Test.YtdamegaedmckbaaGreatDoorProg
set_option linter.unusedSimpArgs false
set_option linter.unusedVariables false
section
namespace Go.Proofs.YtdamegaedmckbaaGreatDoor
open Go.RowKit

/-- A sum's text. -/
abbrev txL (l : List PT) : List UInt8 := sumW [32] [32] l
theorem bodyW_eq (x : PT) : bodyW [32] x = bodyL (ftext (x.2.1.natAbs : Int) (x.2.2.natAbs : Int)) (Lib.join (lets (expo x.1) 4) [32]) := by
  unfold bodyW
  rw [facs_text, join_words]
theorem tailW_snoc (s b : List UInt8) (xs : List PT) (x : PT) : tailW s b (xs ++ [x]) = tailW s b xs ++ (b ++ (sgC (sgB x) :: (b ++ bodyW s x))) := by
  simp [tailW, tailG]
theorem allS_sum {x : PT} {xs : List PT} {neg : Nat → Bool} {t : Nat → List UInt8} {m : Nat → Nat → Nat}
    (h : ∀ i y, (x :: xs)[i]? = some y → neg i = sgB y ∧ bodyL (t i) (Lib.join (lets (m i) 4) [32]) = bodyW [32] y) :
    ∀ k, k ≤ xs.length → allS neg t m (k + 1) = txL (x :: xs.take k) := by
  intro k
  induction k with
  | zero =>
    intro _
    obtain ⟨h1, h2⟩ := h 0 x rfl
    rw [allS, allS, h1, h2]
    simp [sumW, tailW, tailG]
  | succ k ih =>
    intro hk
    obtain ⟨h1, h2⟩ := h (k + 1) xs[k] (by simp)
    rw [allS, ih (by omega), h1, h2, if_neg (by omega), List.take_succ_eq_append_getElem (by omega)]
    rw [txL, sumW, txL, sumW, tailW_snoc]
    cases sgB xs[k] <;> simp [sgC]
theorem stext_at {w : World} {B : Nat} {a : Option Addr} {n c : Nat} {l : List PT} (h : PolyAt w B a n c l) {p : Nat → Tm} (hp : RdP w a n c p) (hx : ∀ i x, l[i]? = some x → TmIs (p i) x ∧ Nw B (p i).n1 (p i).a1 ∧ Nw B (p i).n2 (p i).a2) : stext p n = txL l := by
  have hn := h.len
  cases l with
  | nil =>
    simp only [List.length_nil] at hn
    subst hn
    rfl
  | cons x xs =>
    simp only [List.length_cons] at hn
    subst hn
    unfold stext
    rw [if_neg (by omega)]
    have := allS_sum (x := x) (xs := xs) (neg := pNeg p) (t := pTxt p) (m := pMon p) (fun i y hi => by
      have ht := (hx i y hi).1
      have hil : i < (x :: xs).length := by
        rcases Nat.lt_or_ge i (x :: xs).length with h1 | h1
        · exact h1
        · rw [List.getElem?_eq_none h1] at hi; cases hi
      have hr := hp.tm i (by simpa using hil)
      refine ⟨ht.g1, ?_⟩
      rw [bodyW_eq]
      unfold pTxt pMon
      rw [ht.d1, ht.d2, val_dg, val_dg, ← ht.key, expo_key hr.s1 hr.s2 hr.s3]) xs.length (Nat.le_refl _)
    rw [this, List.take_length]
/-- Text. -/
theorem text_at (w : World) (B : Nat) (a : Option Addr) (n c : Nat) (l : List PT) (h : PolyAt w B a n c l) (hl : PW l) (hf : FewL 10000 l) (hn : n ≤ 1000000) (hT : Tab w) :
    Calls Tryz.prog 14 #[.slice a n c] w (RetStr w (txL l)) := by
  obtain ⟨p, hp, hx⟩ := h.ts
  have hok := h.pok hl hp hx
  have hs : SmallP p n := fun k hk => h.few hf hp hx k hk
  have := sText_c w a n c p hp hs hn hT
  unfold bothText at this
  rw [if_pos hok, stext_at h hp hx] at this
  exact this
/-- Check. -/
theorem check_at (w : World) (B : Nat) (a : Option Addr) (n c : Nat) (l : List PT) (h : PolyAt w B a n c l) (hl : PW l) (hf : FewL 1000000 l) :
    Calls Tryz.prog 23 #[.slice a n c] w (fun e w' => e = .returned (.bool true) ∧ Below w.heap.size w w') := by
  obtain ⟨p, hp, hx⟩ := h.ts
  have hok := h.pok hl hp hx
  exact pCheck_c w a n c p hp (h.few hf hp hx) true ⟨fun _ => rfl, fun _ => hok⟩
/-- What is read may be, and is not too great. -/
theorem rdText_good {L : List UInt8} {l : List PT} {e : Int} (h : rdText L = (l, e)) : PW l ∧ FewL (1 + 3 * L.length) l ∧ l.length ≤ 1 + L.length := by
  have hnil : PW ([] : List PT) ∧ FewL (1 + 3 * L.length) [] ∧ ([] : List PT).length ≤ 1 + L.length := ⟨⟨by simp, by simp, by simp⟩, fun t ht => (by cases ht), by simp⟩
  unfold rdText at h
  split at h
  · cases h; exact hnil
  · split at h
    · cases h; exact hnil
    · next l' m' hs =>
      have key : PW l' ∧ FewL (1 + 3 * L.length) l' ∧ l'.length ≤ 1 + L.length := by
        unfold rdSum at hs
        split at hs
        · cases hs
        · next l1 r m ht =>
          obtain ⟨g1, g2, g3⟩ := rdTerm_good ht
          obtain ⟨k1, k2, k3⟩ := rdMore_good _ _ _ _ (Nat.le_refl _) hs g1 g2
          have h1 := rdTerm_len ht
          have h2 := skp_le L
          have h3 : (if headIs (skp L) 45 = true then (skp L).tail else skp L).length ≤ L.length := by
            split
            · simp; omega
            · omega
          exact ⟨k1, k2.mono (by omega), by omega⟩
      split at h
      · cases h; exact hnil
      · cases h; exact key
end Go.Proofs.YtdamegaedmckbaaGreatDoor
end
section
set_option maxRecDepth 100000
namespace Go.Proofs.YtdamegaedmckbaaGreatDoor
open Go.RowKit
theorem al_r0 : rdText [51, 32, 120, 94, 50, 32, 121, 32, 45, 32, 49, 47, 50, 32, 122, 32, 43, 32, 55] = ([(562954248388608, 3, 1), (65536, -1, 2), (0, 7, 1)], 0) := by decide +kernel
theorem al_t0 : txL [(562954248388608, 3, 1), (65536, -1, 2), (0, 7, 1)] = [51, 32, 120, 94, 50, 32, 121, 32, 45, 32, 49, 47, 50, 32, 122, 32, 43, 32, 55] := by decide +kernel
theorem al_r1 : rdText [49, 32, 45, 32, 120] = ([(281474976710656, -1, 1), (0, 1, 1)], 0) := by decide +kernel
theorem al_t1 : txL [(281474976710656, -1, 1), (0, 1, 1)] = [45, 120, 32, 43, 32, 49] := by decide +kernel
theorem al_r2 : rdText [49, 32, 45, 32, 120, 32, 43, 32, 120] = ([(0, 1, 1)], 0) := by decide +kernel
theorem al_t2 : txL [(0, 1, 1)] = [49] := by decide +kernel
theorem al_r3 : rdText [49, 47, 50, 120] = ([(281474976710656, 1, 2)], 0) := by decide +kernel
theorem al_t3 : txL [(281474976710656, 1, 2)] = [49, 47, 50, 32, 120] := by decide +kernel
theorem al_r4 : rdText [54, 47, 52, 32, 121, 94, 50] = ([(8589934592, 3, 2)], 0) := by decide +kernel
theorem al_t4 : txL [(8589934592, 3, 2)] = [51, 47, 50, 32, 121, 94, 50] := by decide +kernel
theorem al_r5 : rdText [50, 32, 51, 32, 120] = ([(281474976710656, 6, 1)], 0) := by decide +kernel
theorem al_t5 : txL [(281474976710656, 6, 1)] = [54, 32, 120] := by decide +kernel
theorem al_r6 : rdText [120, 121, 120, 120] = ([(844429225099264, 1, 1)], 0) := by decide +kernel
theorem al_t6 : txL [(844429225099264, 1, 1)] = [120, 94, 51, 32, 121] := by decide +kernel
theorem al_r7 : rdText [120, 32, 45, 32, 120] = ([], 0) := by decide +kernel
theorem al_t7 : txL [] = [48] := by decide +kernel
theorem al_f0 : rdText [50, 120, 42, 121, 32, 120, 32, 43, 32, 45, 51] = ([], 4) := by decide +kernel
theorem al_f1 : rdText [120, 94, 48] = ([], 4) := by decide +kernel
theorem al_f2 : rdText [120, 94, 49, 48, 48, 49] = ([], 3) := by decide +kernel
theorem al_f3 : rdText [49, 47, 48] = ([], 4) := by decide +kernel
theorem al_f4 : rdText [] = ([], 4) := by decide +kernel
theorem al_f5 : rdText [120, 94, 32, 50] = ([], 4) := by decide +kernel
end Go.Proofs.YtdamegaedmckbaaGreatDoor
end
section
namespace Go.Proofs
open Go.Shelf
def Tryz.lays125_ren : Go.Shelf.Ren := ⟨fun | 125 => 229 | 128 => 282 | 129 => 264 | n => n, fun | 46 => 209 | 3 => 3 | 51 => 112 | 53 => 111 | 4 => 4 | 5 => 5 | 9 => 9 | n => n, fun | n => n⟩
theorem Tryz.lays125 : Go.Proofs.Lays.n125 Tryz.prog Tryz.lays125_ren := {
  mixed := by kernel_rfl
  f125 := Tryz.func229.trans (congrArg some (by kernel_rfl))
  f128 := Tryz.func282.trans (congrArg some (by kernel_rfl))
  f129 := Tryz.func264.trans (congrArg some (by kernel_rfl))
  t3 := Tryz.underlying3
  a3 := Tryz.isAgg3
  z3 := Tryz.sizeOf3
  v3 := Tryz.zeroValue3
  t4 := Tryz.underlying4
  a4 := Tryz.isAgg4
  z4 := Tryz.sizeOf4
  v4 := Tryz.zeroValue4
  t5 := Tryz.underlying5
  a5 := Tryz.isAgg5
  z5 := Tryz.sizeOf5
  v5 := Tryz.zeroValue5
  t9 := Tryz.underlying9
  a9 := Tryz.isAgg9
  z9 := Tryz.sizeOf9
  v9 := Tryz.zeroValue9
  t46 := Tryz.underlying209
  a46 := Tryz.isAgg209
  z46 := Tryz.sizeOf209
  v46 := Tryz.zeroValue209
  t51 := Tryz.underlying112
  a51 := Tryz.isAgg112
  z51 := Tryz.sizeOf112
  v51 := Tryz.zeroValue112
  t53 := Tryz.underlying111
  a53 := Tryz.isAgg111
  z53 := Tryz.sizeOf111
  v53 := Tryz.zeroValue111 }
theorem Tryz.bits_Len (x : Int) (w : World) (h0 : 0 ≤ x) (h1 : x ≤ 18446744073709551615) :
    Calls Tryz.prog 229 #[.int .u64 x] w fun e w' => e = .returned (.int .i64 (Lib.bitLen x.toNat)) ∧ w' = w := Any.bits_Len Tryz.lays125 x w h0 h1
def Tryz.laysC172_ren : Go.Shelf.Ren := ⟨fun | 172 => 242 | 244 => 289 | 245 => 290 | 247 => 315 | 279 => 316 | 280 => 317 | 281 => 318 | 282 => 319 | 287 => 324 | 316 => 334 | 171 => 184 | 205 => 335 | 321 => 337 | 322 => 338 | 243 => 232 | 246 => 284 | 283 => 216 | 284 => 217 | 285 => 218 | 286 => 219 | 129 => 264 | 317 => 263 | 318 => 265 | 319 => 266 | 320 => 267 | 337 => 304 | 338 => 305 | n => n, fun | 9 => 9 | 3 => 3 | 75 => 108 | 76 => 114 | 4 => 4 | 5 => 5 | 167 => 322 | 37 => 49 | 0 => 0 | 85 => 323 | 2 => 2 | 168 => 325 | 53 => 111 | 175 => 308 | 46 => 209 | 210 => 344 | 127 => 212 | 145 => 349 | 143 => 347 | 21 => 21 | 171 => 243 | 173 => 246 | 212 => 284 | 51 => 112 | 20 => 20 | 213 => 285 | 232 => 331 | 233 => 332 | 80 => 117 | n => n, fun | 15 => 6 | 16 => 7 | 17 => 0 | 18 => 2 | 19 => 3 | n => n⟩
theorem Tryz.laysC172 : Go.Proofs.LaysC.n172 Tryz.prog Tryz.laysC172_ren := {
  mixed := by kernel_rfl
  f129 := Tryz.func264.trans (congrArg some (by kernel_rfl))
  f171 := Tryz.func184.trans (congrArg some (by kernel_rfl))
  f172 := Tryz.func242.trans (congrArg some (by kernel_rfl))
  f205 := Tryz.func335.trans (congrArg some (by kernel_rfl))
  f243 := Tryz.func232.trans (congrArg some (by kernel_rfl))
  f244 := Tryz.func289.trans (congrArg some (by kernel_rfl))
  f245 := Tryz.func290.trans (congrArg some (by kernel_rfl))
  f246 := Tryz.func284.trans (congrArg some (by kernel_rfl))
  f247 := Tryz.func315.trans (congrArg some (by kernel_rfl))
  f279 := Tryz.func316.trans (congrArg some (by kernel_rfl))
  f280 := Tryz.func317.trans (congrArg some (by kernel_rfl))
  f281 := Tryz.func318.trans (congrArg some (by kernel_rfl))
  f282 := Tryz.func319.trans (congrArg some (by kernel_rfl))
  f283 := Tryz.func216.trans (congrArg some (by kernel_rfl))
  f284 := Tryz.func217.trans (congrArg some (by kernel_rfl))
  f285 := Tryz.func218.trans (congrArg some (by kernel_rfl))
  f286 := Tryz.func219.trans (congrArg some (by kernel_rfl))
  f287 := Tryz.func324.trans (congrArg some (by kernel_rfl))
  f316 := Tryz.func334.trans (congrArg some (by kernel_rfl))
  f317 := Tryz.func263.trans (congrArg some (by kernel_rfl))
  f318 := Tryz.func265.trans (congrArg some (by kernel_rfl))
  f319 := Tryz.func266.trans (congrArg some (by kernel_rfl))
  f320 := Tryz.func267.trans (congrArg some (by kernel_rfl))
  f321 := Tryz.func337.trans (congrArg some (by kernel_rfl))
  f322 := Tryz.func338.trans (congrArg some (by kernel_rfl))
  f337 := Tryz.func304.trans (congrArg some (by kernel_rfl))
  f338 := Tryz.func305.trans (congrArg some (by kernel_rfl))
  t0 := Tryz.underlying0
  a0 := Tryz.isAgg0
  z0 := Tryz.sizeOf0
  v0 := Tryz.zeroValue0
  t2 := Tryz.underlying2
  a2 := Tryz.isAgg2
  z2 := Tryz.sizeOf2
  v2 := Tryz.zeroValue2
  t3 := Tryz.underlying3
  a3 := Tryz.isAgg3
  z3 := Tryz.sizeOf3
  v3 := Tryz.zeroValue3
  t4 := Tryz.underlying4
  a4 := Tryz.isAgg4
  z4 := Tryz.sizeOf4
  v4 := Tryz.zeroValue4
  t5 := Tryz.underlying5
  a5 := Tryz.isAgg5
  z5 := Tryz.sizeOf5
  v5 := Tryz.zeroValue5
  t9 := Tryz.underlying9
  a9 := Tryz.isAgg9
  z9 := Tryz.sizeOf9
  v9 := Tryz.zeroValue9
  t20 := Tryz.underlying20
  a20 := Tryz.isAgg20
  z20 := Tryz.sizeOf20
  v20 := Tryz.zeroValue20
  t21 := Tryz.underlying21
  a21 := Tryz.isAgg21
  z21 := Tryz.sizeOf21
  v21 := Tryz.zeroValue21
  t37 := Tryz.underlying49
  a37 := Tryz.isAgg49
  z37 := Tryz.sizeOf49
  v37 := Tryz.zeroValue49
  t46 := Tryz.underlying209
  a46 := Tryz.isAgg209
  z46 := Tryz.sizeOf209
  v46 := Tryz.zeroValue209
  t51 := Tryz.underlying112
  a51 := Tryz.isAgg112
  z51 := Tryz.sizeOf112
  v51 := Tryz.zeroValue112
  t53 := Tryz.underlying111
  a53 := Tryz.isAgg111
  z53 := Tryz.sizeOf111
  v53 := Tryz.zeroValue111
  t75 := Tryz.underlying108
  a75 := Tryz.isAgg108
  z75 := Tryz.sizeOf108
  v75 := Tryz.zeroValue108
  t76 := Tryz.underlying114
  a76 := Tryz.isAgg114
  z76 := Tryz.sizeOf114
  v76 := Tryz.zeroValue114
  t85 := Tryz.underlying323
  a85 := Tryz.isAgg323
  z85 := Tryz.sizeOf323
  v85 := Tryz.zeroValue323
  t127 := Tryz.underlying212
  a127 := Tryz.isAgg212
  z127 := Tryz.sizeOf212
  v127 := Tryz.zeroValue212
  t143 := Tryz.underlying347
  a143 := Tryz.isAgg347
  z143 := Tryz.sizeOf347
  v143 := Tryz.zeroValue347
  t145 := Tryz.underlying349
  a145 := Tryz.isAgg349
  z145 := Tryz.sizeOf349
  v145 := Tryz.zeroValue349
  t167 := Tryz.underlying322
  a167 := Tryz.isAgg322
  z167 := Tryz.sizeOf322
  v167 := Tryz.zeroValue322
  t168 := Tryz.underlying325
  a168 := Tryz.isAgg325
  z168 := Tryz.sizeOf325
  v168 := Tryz.zeroValue325
  t171 := Tryz.underlying243
  a171 := Tryz.isAgg243
  z171 := Tryz.sizeOf243
  v171 := Tryz.zeroValue243
  t173 := Tryz.underlying246
  a173 := Tryz.isAgg246
  z173 := Tryz.sizeOf246
  v173 := Tryz.zeroValue246
  t175 := Tryz.underlying308
  a175 := Tryz.isAgg308
  z175 := Tryz.sizeOf308
  v175 := Tryz.zeroValue308
  t210 := Tryz.underlying344
  a210 := Tryz.isAgg344
  z210 := Tryz.sizeOf344
  v210 := Tryz.zeroValue344
  t212 := Tryz.underlying284
  a212 := Tryz.isAgg284
  z212 := Tryz.sizeOf284
  v212 := Tryz.zeroValue284
  t213 := Tryz.underlying285
  a213 := Tryz.isAgg285
  z213 := Tryz.sizeOf285
  t232 := Tryz.underlying331
  a232 := Tryz.isAgg331
  z232 := Tryz.sizeOf331
  v232 := Tryz.zeroValue331
  t233 := Tryz.underlying332
  a233 := Tryz.isAgg332
  z233 := Tryz.sizeOf332
  v233 := Tryz.zeroValue332
  g15 := by kernel_rfl
  g16 := by kernel_rfl
  g17 := by kernel_rfl
  g18 := by kernel_rfl
  g19 := by kernel_rfl
  t80 := Tryz.underlying117
  a80 := Tryz.isAgg117
  z80 := Tryz.sizeOf117
  v80 := Tryz.zeroValue117
  i0 := by kernel_rfl
  i2 := by kernel_rfl
  i3 := by kernel_rfl
  i4 := by kernel_rfl
  i5 := by kernel_rfl
  i9 := by kernel_rfl
  i20 := by kernel_rfl
  i21 := by kernel_rfl
  i37 := by kernel_rfl
  i46 := by kernel_rfl
  i51 := by kernel_rfl
  i53 := by kernel_rfl
  i75 := by kernel_rfl
  i76 := by kernel_rfl
  i80 := by kernel_rfl
  i85 := by kernel_rfl
  i127 := by kernel_rfl
  i143 := by kernel_rfl
  i145 := by kernel_rfl
  i167 := by kernel_rfl
  i168 := by kernel_rfl
  i171 := by kernel_rfl
  i173 := by kernel_rfl
  i175 := by kernel_rfl
  i210 := by kernel_rfl
  i212 := by kernel_rfl
  i232 := by kernel_rfl
  i233 := by kernel_rfl
  m15 := by kernel_rfl
  m16 := by kernel_rfl
  m17 := by kernel_rfl
  m18 := by kernel_rfl
  m19 := by kernel_rfl
  c0 := by kernel_rfl
  c2 := by kernel_rfl
  c3 := by kernel_rfl
  c4 := by kernel_rfl
  c5 := by kernel_rfl
  c9 := by kernel_rfl
  c20 := by kernel_rfl
  c21 := by kernel_rfl
  c37 := by kernel_rfl
  c46 := by kernel_rfl
  c51 := by kernel_rfl
  c53 := by kernel_rfl
  c75 := by kernel_rfl
  c76 := by kernel_rfl
  c80 := by kernel_rfl
  c85 := by kernel_rfl
  c127 := by kernel_rfl
  c143 := by kernel_rfl
  c145 := by kernel_rfl
  c167 := by kernel_rfl
  c168 := by kernel_rfl
  c171 := by kernel_rfl
  c173 := by kernel_rfl
  c175 := by kernel_rfl
  c210 := by kernel_rfl
  c212 := by kernel_rfl
  c213 := by kernel_rfl
  c232 := by kernel_rfl
  c233 := by kernel_rfl }
open Go.RowKit in
theorem Tryz.strconv_Atoi_ok (s : ByteArray) (hmax : s.size ≤ 9223372036854775806) (v : Int) (h : Lib.atoiAll s.data.toList = .ok v) (w : World) :
    Calls Tryz.prog 242 #[.string s] w fun e w' => e = .returned (.tuple #[.int .i64 v, .nilIface]) ∧ (w' = w ∨ ∃ t, w' = Lib.bytesWorld w 5 t) := Any.strconv_Atoi_ok Tryz.laysC172 s hmax v h w
open Go.RowKit in
theorem Tryz.strconv_Atoi_range (s : ByteArray) (hlim : s.size ≤ 281474976710656) (h : Lib.atoiAll s.data.toList = .range) (ev : Value) (w : World) (hv : w.cell? ⟨7, 0, none⟩ = some ev) (hev : ev = .nilIface ∨ ∃ te pe, ev = .iface te pe) :
    Calls Tryz.prog 242 #[.string s] w fun e w' => ∃ N, e = .returned (.tuple #[.int .i64 (Lib.atoiSat s.data.toList), .iface 325 (.pointer (some ⟨N, 0, none⟩))]) ∧ w.heap.size ≤ N ∧ w'.heap[N]? = some (.cells #[.string ⟨#[65, 116, 111, 105]⟩, .string s, ev] 344 (0, 0)) ∧ Below w.heap.size w w' := Any.strconv_Atoi_range Tryz.laysC172 s hlim h ev w hv hev
def Tryz.laysPu14_ren : Go.Shelf.Ren := ⟨fun | 14 => 293 | 16 => 324 | 17 => 290 | 19 => 337 | 20 => 338 | 21 => 316 | 22 => 317 | 23 => 318 | 24 => 319 | 25 => 334 | 27 => 184 | 26 => 335 | 28 => 232 | 29 => 284 | 30 => 216 | 31 => 217 | 32 => 218 | 33 => 219 | 35 => 264 | 34 => 263 | 36 => 265 | 37 => 266 | 38 => 267 | 39 => 304 | 40 => 305 | n => n, fun | 9 => 9 | 3 => 3 | 22 => 111 | 24 => 108 | 25 => 308 | 4 => 4 | 34 => 322 | 5 => 5 | 36 => 209 | 37 => 49 | 0 => 0 | 39 => 325 | 21 => 21 | 44 => 344 | 47 => 212 | 50 => 349 | 48 => 347 | 2 => 2 | 52 => 243 | 55 => 246 | 59 => 284 | 60 => 112 | 20 => 20 | 61 => 285 | 65 => 331 | 66 => 332 | 67 => 117 | n => n, fun | 0 => 6 | 1 => 7 | 2 => 0 | 3 => 2 | 4 => 3 | n => n⟩
theorem Tryz.laysPu14 : Go.Proofs.LaysPu.n14 Tryz.prog Tryz.laysPu14_ren := {
  mixed := by kernel_rfl
  f14 := Tryz.func293.trans (congrArg some (by kernel_rfl))
  f16 := Tryz.func324.trans (congrArg some (by kernel_rfl))
  f17 := Tryz.func290.trans (congrArg some (by kernel_rfl))
  f19 := Tryz.func337.trans (congrArg some (by kernel_rfl))
  f20 := Tryz.func338.trans (congrArg some (by kernel_rfl))
  f21 := Tryz.func316.trans (congrArg some (by kernel_rfl))
  f22 := Tryz.func317.trans (congrArg some (by kernel_rfl))
  f23 := Tryz.func318.trans (congrArg some (by kernel_rfl))
  f24 := Tryz.func319.trans (congrArg some (by kernel_rfl))
  f25 := Tryz.func334.trans (congrArg some (by kernel_rfl))
  f26 := Tryz.func335.trans (congrArg some (by kernel_rfl))
  f27 := Tryz.func184.trans (congrArg some (by kernel_rfl))
  f28 := Tryz.func232.trans (congrArg some (by kernel_rfl))
  f29 := Tryz.func284.trans (congrArg some (by kernel_rfl))
  f30 := Tryz.func216.trans (congrArg some (by kernel_rfl))
  f31 := Tryz.func217.trans (congrArg some (by kernel_rfl))
  f32 := Tryz.func218.trans (congrArg some (by kernel_rfl))
  f33 := Tryz.func219.trans (congrArg some (by kernel_rfl))
  f34 := Tryz.func263.trans (congrArg some (by kernel_rfl))
  f35 := Tryz.func264.trans (congrArg some (by kernel_rfl))
  f36 := Tryz.func265.trans (congrArg some (by kernel_rfl))
  f37 := Tryz.func266.trans (congrArg some (by kernel_rfl))
  f38 := Tryz.func267.trans (congrArg some (by kernel_rfl))
  f39 := Tryz.func304.trans (congrArg some (by kernel_rfl))
  f40 := Tryz.func305.trans (congrArg some (by kernel_rfl))
  t0 := Tryz.underlying0
  a0 := Tryz.isAgg0
  z0 := Tryz.sizeOf0
  v0 := Tryz.zeroValue0
  i0 := by kernel_rfl
  t2 := Tryz.underlying2
  a2 := Tryz.isAgg2
  z2 := Tryz.sizeOf2
  v2 := Tryz.zeroValue2
  i2 := by kernel_rfl
  t3 := Tryz.underlying3
  a3 := Tryz.isAgg3
  z3 := Tryz.sizeOf3
  v3 := Tryz.zeroValue3
  i3 := by kernel_rfl
  t4 := Tryz.underlying4
  a4 := Tryz.isAgg4
  z4 := Tryz.sizeOf4
  v4 := Tryz.zeroValue4
  i4 := by kernel_rfl
  t5 := Tryz.underlying5
  a5 := Tryz.isAgg5
  z5 := Tryz.sizeOf5
  v5 := Tryz.zeroValue5
  i5 := by kernel_rfl
  t9 := Tryz.underlying9
  a9 := Tryz.isAgg9
  z9 := Tryz.sizeOf9
  v9 := Tryz.zeroValue9
  i9 := by kernel_rfl
  t20 := Tryz.underlying20
  a20 := Tryz.isAgg20
  z20 := Tryz.sizeOf20
  v20 := Tryz.zeroValue20
  i20 := by kernel_rfl
  t21 := Tryz.underlying21
  a21 := Tryz.isAgg21
  z21 := Tryz.sizeOf21
  v21 := Tryz.zeroValue21
  i21 := by kernel_rfl
  t22 := Tryz.underlying111
  a22 := Tryz.isAgg111
  z22 := Tryz.sizeOf111
  v22 := Tryz.zeroValue111
  i22 := by kernel_rfl
  t24 := Tryz.underlying108
  a24 := Tryz.isAgg108
  z24 := Tryz.sizeOf108
  v24 := Tryz.zeroValue108
  i24 := by kernel_rfl
  t25 := Tryz.underlying308
  a25 := Tryz.isAgg308
  z25 := Tryz.sizeOf308
  v25 := Tryz.zeroValue308
  i25 := by kernel_rfl
  t34 := Tryz.underlying322
  a34 := Tryz.isAgg322
  z34 := Tryz.sizeOf322
  v34 := Tryz.zeroValue322
  i34 := by kernel_rfl
  c34 := by kernel_rfl
  t36 := Tryz.underlying209
  a36 := Tryz.isAgg209
  z36 := Tryz.sizeOf209
  v36 := Tryz.zeroValue209
  i36 := by kernel_rfl
  t37 := Tryz.underlying49
  a37 := Tryz.isAgg49
  z37 := Tryz.sizeOf49
  v37 := Tryz.zeroValue49
  i37 := by kernel_rfl
  t39 := Tryz.underlying325
  a39 := Tryz.isAgg325
  z39 := Tryz.sizeOf325
  v39 := Tryz.zeroValue325
  i39 := by kernel_rfl
  t44 := Tryz.underlying344
  a44 := Tryz.isAgg344
  z44 := Tryz.sizeOf344
  v44 := Tryz.zeroValue344
  i44 := by kernel_rfl
  t47 := Tryz.underlying212
  a47 := Tryz.isAgg212
  z47 := Tryz.sizeOf212
  v47 := Tryz.zeroValue212
  i47 := by kernel_rfl
  t48 := Tryz.underlying347
  a48 := Tryz.isAgg347
  z48 := Tryz.sizeOf347
  v48 := Tryz.zeroValue347
  i48 := by kernel_rfl
  t50 := Tryz.underlying349
  a50 := Tryz.isAgg349
  z50 := Tryz.sizeOf349
  v50 := Tryz.zeroValue349
  i50 := by kernel_rfl
  t52 := Tryz.underlying243
  a52 := Tryz.isAgg243
  z52 := Tryz.sizeOf243
  v52 := Tryz.zeroValue243
  i52 := by kernel_rfl
  t55 := Tryz.underlying246
  a55 := Tryz.isAgg246
  z55 := Tryz.sizeOf246
  v55 := Tryz.zeroValue246
  i55 := by kernel_rfl
  t59 := Tryz.underlying284
  a59 := Tryz.isAgg284
  z59 := Tryz.sizeOf284
  v59 := Tryz.zeroValue284
  i59 := by kernel_rfl
  t60 := Tryz.underlying112
  a60 := Tryz.isAgg112
  z60 := Tryz.sizeOf112
  v60 := Tryz.zeroValue112
  i60 := by kernel_rfl
  t61 := Tryz.underlying285
  a61 := Tryz.isAgg285
  z61 := Tryz.sizeOf285
  t65 := Tryz.underlying331
  a65 := Tryz.isAgg331
  z65 := Tryz.sizeOf331
  v65 := Tryz.zeroValue331
  i65 := by kernel_rfl
  t66 := Tryz.underlying332
  a66 := Tryz.isAgg332
  z66 := Tryz.sizeOf332
  v66 := Tryz.zeroValue332
  i66 := by kernel_rfl
  t67 := Tryz.underlying117
  a67 := Tryz.isAgg117
  z67 := Tryz.sizeOf117
  v67 := Tryz.zeroValue117
  i67 := by kernel_rfl
  g0 := by kernel_rfl
  m0 := by kernel_rfl
  g1 := by kernel_rfl
  m1 := by kernel_rfl
  g2 := by kernel_rfl
  m2 := by kernel_rfl
  g3 := by kernel_rfl
  m3 := by kernel_rfl
  g4 := by kernel_rfl
  m4 := by kernel_rfl }
open Go.RowKit in
theorem Tryz.strconv_ParseUint_10_at32_ok (s : ByteArray) (hmax : s.size ≤ 9223372036854775806) (u : Nat) (h : Lib.parseUintB 32 s.data.toList = .ok u) (w : World) :
    Calls Tryz.prog 293 #[.string s, .int .i64 10, .int .i64 32] w fun e w' => e = .returned (.tuple #[.int .u64 u, .nilIface]) ∧ (w' = w ∨ w' = Lib.bytesWorld w 5 s) := Any.strconv_ParseUint_10_at32_ok Tryz.laysPu14 s hmax u h w
def Tryz.laysPdq228_ren : Go.Shelf.Ren := ⟨fun | 14 => 228 | 20 => 274 | 21 => 275 | 22 => 276 | 23 => 277 | 24 => 278 | 25 => 279 | 26 => 280 | 27 => 281 | 46 => 308 | 47 => 309 | 48 => 310 | 49 => 311 | 50 => 312 | 15 => 229 | 57 => 330 | 28 => 282 | 29 => 264 | n => n, fun | 24 => 68 | 22 => 22 | 3 => 3 | 25 => 218 | 4 => 4 | 0 => 0 | 46 => 293 | 45 => 292 | 50 => 297 | 66 => 315 | 39 => 209 | 55 => 111 | 70 => 319 | 76 => 333 | 77 => 334 | 53 => 112 | 5 => 5 | 9 => 9 | n => n, fun | n => n⟩
theorem Tryz.laysPdq228 : Go.Proofs.SlLaysF0.n14 Tryz.prog Tryz.laysPdq228_ren := {
  mixed := by kernel_rfl
  f14 := ⟨Tryz.f228.name, by decide, Tryz.func228.trans (congrArg some (by kernel_rfl))⟩
  f15 := Tryz.func229.trans (congrArg some (by kernel_rfl))
  f20 := ⟨Tryz.f274.name, by decide, Tryz.func274.trans (congrArg some (by kernel_rfl))⟩
  f21 := ⟨Tryz.f275.name, by decide, Tryz.func275.trans (congrArg some (by kernel_rfl))⟩
  f22 := ⟨Tryz.f276.name, by decide, Tryz.func276.trans (congrArg some (by kernel_rfl))⟩
  f23 := ⟨Tryz.f277.name, by decide, Tryz.func277.trans (congrArg some (by kernel_rfl))⟩
  f24 := ⟨Tryz.f278.name, by decide, Tryz.func278.trans (congrArg some (by kernel_rfl))⟩
  f25 := ⟨Tryz.f279.name, by decide, Tryz.func279.trans (congrArg some (by kernel_rfl))⟩
  f26 := ⟨Tryz.f280.name, by decide, Tryz.func280.trans (congrArg some (by kernel_rfl))⟩
  f27 := ⟨Tryz.f281.name, by decide, Tryz.func281.trans (congrArg some (by kernel_rfl))⟩
  f28 := Tryz.func282.trans (congrArg some (by kernel_rfl))
  f29 := Tryz.func264.trans (congrArg some (by kernel_rfl))
  f46 := ⟨Tryz.f308.name, by decide, Tryz.func308.trans (congrArg some (by kernel_rfl))⟩
  f47 := Tryz.func309.trans (congrArg some (by kernel_rfl))
  f48 := Tryz.func310.trans (congrArg some (by kernel_rfl))
  f49 := ⟨Tryz.f311.name, by decide, Tryz.func311.trans (congrArg some (by kernel_rfl))⟩
  f50 := ⟨Tryz.f312.name, by decide, Tryz.func312.trans (congrArg some (by kernel_rfl))⟩
  f57 := ⟨Tryz.f330.name, by decide, Tryz.func330.trans (congrArg some (by kernel_rfl))⟩
  t0 := Tryz.underlying0
  a0 := Tryz.isAgg0
  z0 := Tryz.sizeOf0
  v0 := Tryz.zeroValue0
  t3 := Tryz.underlying3
  a3 := Tryz.isAgg3
  z3 := Tryz.sizeOf3
  v3 := Tryz.zeroValue3
  t4 := Tryz.underlying4
  a4 := Tryz.isAgg4
  z4 := Tryz.sizeOf4
  v4 := Tryz.zeroValue4
  t5 := Tryz.underlying5
  a5 := Tryz.isAgg5
  z5 := Tryz.sizeOf5
  v5 := Tryz.zeroValue5
  t9 := Tryz.underlying9
  a9 := Tryz.isAgg9
  z9 := Tryz.sizeOf9
  v9 := Tryz.zeroValue9
  t22 := Tryz.underlying22
  a22 := Tryz.isAgg22
  z22 := Tryz.sizeOf22
  v22 := Tryz.zeroValue22
  t25 := Tryz.underlying218
  a25 := Tryz.isAgg218
  z25 := Tryz.sizeOf218
  v25 := Tryz.zeroValue218
  t39 := Tryz.underlying209
  a39 := Tryz.isAgg209
  z39 := Tryz.sizeOf209
  v39 := Tryz.zeroValue209
  t45 := Tryz.underlying292
  a45 := Tryz.isAgg292
  z45 := Tryz.sizeOf292
  v45 := Tryz.zeroValue292
  t46 := Tryz.underlying293
  a46 := Tryz.isAgg293
  z46 := Tryz.sizeOf293
  v46 := Tryz.zeroValue293
  t50 := Tryz.underlying297
  a50 := Tryz.isAgg297
  z50 := Tryz.sizeOf297
  v50 := Tryz.zeroValue297
  t53 := Tryz.underlying112
  a53 := Tryz.isAgg112
  z53 := Tryz.sizeOf112
  v53 := Tryz.zeroValue112
  t55 := Tryz.underlying111
  a55 := Tryz.isAgg111
  z55 := Tryz.sizeOf111
  v55 := Tryz.zeroValue111
  t66 := Tryz.underlying315
  a66 := Tryz.isAgg315
  z66 := Tryz.sizeOf315
  v66 := Tryz.zeroValue315
  t70 := Tryz.underlying319
  a70 := Tryz.isAgg319
  z70 := Tryz.sizeOf319
  v70 := Tryz.zeroValue319
  t76 := Tryz.underlying333
  a76 := Tryz.isAgg333
  z76 := Tryz.sizeOf333
  v76 := Tryz.zeroValue333
  t77 := Tryz.underlying334
  a77 := Tryz.isAgg334
  z77 := Tryz.sizeOf334
  v77 := Tryz.zeroValue334 }
def Tryz.laysGrow176_ren : Go.Shelf.Ren := ⟨fun | 4 => 176 | n => n, fun | 22 => 23 | 25 => 68 | 3 => 3 | 4 => 4 | 9 => 9 | 20 => 20 | 0 => 0 | n => n, fun | n => n⟩
theorem Tryz.laysGrow176 : Go.Proofs.Lays8.n4 Tryz.prog Tryz.laysGrow176_ren := {
  mixed := by kernel_rfl
  f4 := ⟨Tryz.f176.name, by decide, Tryz.func176.trans (congrArg some (by kernel_rfl))⟩
  t0 := Tryz.underlying0
  a0 := Tryz.isAgg0
  z0 := Tryz.sizeOf0
  v0 := Tryz.zeroValue0
  t3 := Tryz.underlying3
  a3 := Tryz.isAgg3
  z3 := Tryz.sizeOf3
  v3 := Tryz.zeroValue3
  t4 := Tryz.underlying4
  a4 := Tryz.isAgg4
  z4 := Tryz.sizeOf4
  v4 := Tryz.zeroValue4
  t9 := Tryz.underlying9
  a9 := Tryz.isAgg9
  z9 := Tryz.sizeOf9
  v9 := Tryz.zeroValue9
  t20 := Tryz.underlying20
  a20 := Tryz.isAgg20
  z20 := Tryz.sizeOf20
  v20 := Tryz.zeroValue20
  t22 := Tryz.underlying23
  a22 := Tryz.isAgg23
  z22 := Tryz.sizeOf23
  v22 := Tryz.zeroValue23 }
end Go.Proofs
end
