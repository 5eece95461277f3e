/- What the row's list of laid variables gives the walk: ErrRange holds an error. No further condition. What all laws of the chapter share where the walk's result is brought to the row: what lay below, the variables that the rows list, a settled world that holds them. No condition. Plain: sums of three. No condition. -/
import Derived.Test.YtdamegaedmckbaaGreatDoorX34
import Derived.Test.YtdamegaedmckbaaGreatDoorX39
import Derived.Test.YtdamegaedmckbaaGreatDoorX14
import Derived.Test.YtdamegaedmckbaaGreatDoorX0
import Derived.Test.YtdamegaedmckbaaGreatDoorX21
import Derived.Test.YtdamegaedmckbaaGreatDoorRows
import Derived.Stop.LaidErr
import Derived.RowKitTokens
import Derived.Test.YtdamegaedmckbaaGreatDoorCards
import Derived.Test.YtdamegaedmckbaaGreatDoorTie
import Derived.ProofKit
import Derived.OpenShut
import Derived.WideKeyArgs
import Derived.Deep.DeepHandedRow
import Derived.Lib.LaidTab
set_option linter.unusedSimpArgs false
set_option linter.unusedVariables false
section
namespace Go.Proofs.YtdamegaedmckbaaGreatDoor
open Go.RowKit Go.ChangeShapes

theorem gER : Tryz.prog.globalNamed "strconv.ErrRange" = some 7 := by kernel_rfl
theorem gERType : (Tryz.prog.globals[7]?).map (·.type) = some 108 := by kernel_rfl
theorem starErr : "*" ++ "errors.errorString" = "*errors.errorString" := by decide
theorem row347 (u : TypeId) (h : Tryz.prog.typeName? 3 u = some "*errors.errorString") : u = 347 :=
  typeName_ptr_named (nm := "errors.errorString") (by rw [starErr]; kernel_rfl) (by kernel_rfl) (by decide) u (by rw [starErr]; exact h)
theorem c349 : Tryz.prog.cellsOf 349 = 1 := by kernel_rfl
theorem c9 : Tryz.prog.cellsOf 9 = 1 := by kernel_rfl
theorem err_of_laid {W : World} {x1 x2 x3 x4 : String × DataW Unit} {r : List (String × DataW Unit)} (h : laidMet Tryz.prog (x1 :: x2 :: x3 :: x4 :: ("strconv.ErrRange", (Rows.laid_strconv_ErrRange : DataW Unit)) :: r) W) : ErrV W ∧ 7 < W.heap.size := by
  obtain ⟨a1, s1, hv1, -, -, -⟩ := laid_sentinel h.tail.tail.tail.tail gER gERType Tryz.underlying108 row347 Tryz.underlying347 Tryz.underlying349 rfl rfl Tryz.underlying9 c349 c9
  have hc : W.cell? ⟨7, 0, none⟩ = some (.iface 347 (.pointer (some a1))) := by have h0 := World.var?_cell gER hv1 0; simpa using h0
  exact ⟨⟨_, hc, .inr ⟨_, _, rfl⟩⟩, World.block_lt_of_cell? _ _ hc⟩
end Go.Proofs.YtdamegaedmckbaaGreatDoor
end
section
namespace Go.Proofs.YtdamegaedmckbaaGreatDoor
open Go.ChangeShapes Go.WideShapes Go.ChangeAt Go.RowKit Go.Deep

theorem stOwn : ownKnob Tryz.prog.godebug = none := by kernel_rfl
theorem stTab : Tryz.prog.globalNamed "internal/strconv.uint64pow10" = some 0 := by kernel_rfl
theorem stTabType : (Tryz.prog.globals[0]?).map (·.type) = some 284 := by kernel_rfl
theorem stCells284 : Tryz.prog.cellsOf 284 = 20 := by kernel_rfl
theorem stCells111 : Tryz.prog.cellsOf 111 = 1 := by kernel_rfl
theorem stData : (Rows.laid_internal_strconv_uint64pow10 : DataW Unit) = Lib.tabData .u64 Lib.pow10Tab := by kernel_rfl
theorem tabIs_third7 {P : Program} {W : World} {x1 x2 : String × DataW Unit} {r : List (String × DataW Unit)} {name : String} {k : IntKind} {zs : List Int} {g : Nat} {t e : TypeId} {n : Nat}
    (hg : P.globalNamed name = some g) (hty : (P.globals[g]?).map (·.type) = some t) (ht : P.underlying t = some (.array n e)) (he : P.underlying e = some (.int k)) (hce : P.cellsOf e = 1) (hct : P.cellsOf t = n)
    (h : laidMet P (x1 :: x2 :: (name, Lib.tabData k zs) :: r) W) : Lib.TabIs P W name k zs := by
  obtain ⟨ps, ⟨_, _, _, _, _, _, _, _, _, _, ⟨_, _, _, _, _, _, _, _, _, _, ⟨g', t', cs, fuel, p, q, hg', ht', hvar, hd, _, _⟩, _⟩, _⟩, _⟩ := h
  obtain rfl := Option.some.inj (hg.symm.trans hg')
  obtain rfl := Option.some.inj (hty.symm.trans ht')
  unfold Lib.TabIs
  rw [hvar, ← Lib.cells_of_tab ht he hce hct hd]
/-- What the rows' lists give: the table of the powers of ten. -/
theorem tab_of_laid {W : World} {x1 x2 : String × DataW Unit} {r : List (String × DataW Unit)} (h : laidMet Tryz.prog (x1 :: x2 :: ("internal/strconv.uint64pow10", (Rows.laid_internal_strconv_uint64pow10 : DataW Unit)) :: r) W) : Tab W := by
  rw [stData] at h
  exact tabIs_third7 stTab stTabType Tryz.underlying284 Tryz.underlying111 stCells111 stCells284 h
section
variable {H : Type} {enc : TypeId × Value → H} {P : Program}
/-- The row's last step, of what lay below. -/
theorem postOfBelow {f : Func} {s : ChangeSpec} {apart fresh handsOn again : Bool} {W W' : World} {args : Array Value} {v : Value} {ds gs : List (DataW H)} {before pa pv : List MemPlace}
    (hW : DataW.Whole enc P f.params.toList s.vars apart W args.toList ds gs before)
    (hres : ∀ (b : Nat) (sp : Nat → Bool) (hd : Bool), DataW.TrodAll enc P W' b sp hd f.resultTypes.toList (v.resultList f.resultTypes.size) (s.fn H (ds ++ gs)).results [])
    (hargs : ∀ sp : Nat → Bool, (∀ p ∈ before, sp p.block = true) → DataW.TrodAll enc P W' 0 sp true f.params.toList args.toList (s.fn H (ds ++ gs)).args pa)
    (hvars : ∀ sp : Nat → Bool, (∀ p ∈ before, sp p.block = true) → DataW.TrodVars enc P W' sp s.vars (s.fn H (ds ++ gs)).vars pv)
    (hps : before = pa ++ pv) (hb : Below W.heap.size W W')
    (hok : ∀ (j : Nat) (t : TypeId) (r : Value), f.resultTypes[j]? = some t → (v.resultList f.resultTypes.size)[j]? = some r → Value.okWide P W' .any 0 t r) :
    s.post enc P f apart fresh handsOn again W args v W' := by
  have hlt : ∀ p ∈ before, p.block < W.heap.size := fun p hp => hW.lt p hp
  have hold : ∀ p ∈ before, (fun b => decide (b < W.heap.size)) p.block = true := fun p hp => by simpa using hlt p hp
  refine ⟨ds, gs, before, [], pa, pv, hW, hres _ _ _, hargs _ hold, hvars _ hold, World.keptBut_mono (fun p hp => ⟨hp, ?_⟩) (hb.frame (· ∈ before)), fun _ => ?_⟩
  · rw [hps, List.mem_append] at hp
    exact Or.inr hp
  · obtain ⟨_, _, _, _, _, hz, hn⟩ := hW
    refine ⟨hok, _, _, ([] ++ pa) ++ pv, ⟨[] ++ pa, pv, trodAll_append (hargs _ (fun _ _ => rfl)) (hres _ _ _), hvars _ (fun _ _ => rfl), rfl, ?_, ?_⟩, ?_⟩
    · intro b off hp
      have hin : MemPlace.cell b off ∈ before := by rw [hps]; simpa using hp
      rw [hb.frozen (hlt _ hin)]
      exact hz b off hin
    · intro ha
      have := hn ha
      rw [hps] at this
      simpa using this
    · intro p hp _
      rw [hps]
      simpa using hp
end

theorem stLaidOut : laidOutB Tryz.prog = true := by kernel_rfl
/-- A sum that is nothing has no room. -/
theorem open_nl {H : Type} {enc : TypeId × Value → H} {W : World} {held : Bool} {fuel : Nat} {a : Option Addr} {n c : Nat} {x : DataW H × List MemPlace} (h : DataW.trod enc Tryz.prog W 0 (fun _ => true) held fuel 23 [.slice a n c] = some x) : a = none → c = 0 := by
  rcases open_slice Tryz.underlying23 h with ⟨e, _⟩ | ⟨a', len, cap, m, n', D, Pl, e, _⟩
  · simp only [List.cons.injEq, Value.slice.injEq, and_true] at e
    exact fun _ => e.2.2
  · simp only [List.cons.injEq, Value.slice.injEq, and_true] at e
    intro h
    rw [e.1] at h
    cases h
/-- What the three tables' initialisers lay. -/
def stPutA : Obj → Obj
  | .cells _ t frozen => .cells #[.int .u64 1, .int .u64 10, .int .u64 100, .int .u64 1000, .int .u64 10000, .int .u64 100000, .int .u64 1000000, .int .u64 10000000, .int .u64 100000000, .int .u64 1000000000, .int .u64 10000000000, .int .u64 100000000000, .int .u64 1000000000000, .int .u64 10000000000000, .int .u64 100000000000000, .int .u64 1000000000000000, .int .u64 10000000000000000, .int .u64 100000000000000000, .int .u64 1000000000000000000, .int .u64 10000000000000000000] t frozen
  | o => o
def stPutB : Obj → Obj
  | .cells _ t frozen => .cells #[.int .u8 0, .int .u8 1, .int .u8 28, .int .u8 2, .int .u8 29, .int .u8 14, .int .u8 24, .int .u8 3, .int .u8 30, .int .u8 22, .int .u8 20, .int .u8 15, .int .u8 25, .int .u8 17, .int .u8 4, .int .u8 8, .int .u8 31, .int .u8 27, .int .u8 13, .int .u8 23, .int .u8 21, .int .u8 19, .int .u8 16, .int .u8 7, .int .u8 26, .int .u8 12, .int .u8 18, .int .u8 6, .int .u8 11, .int .u8 5, .int .u8 10, .int .u8 9] t frozen
  | o => o
def stPutC : Obj → Obj
  | .cells _ t frozen => .cells #[.int .u8 0, .int .u8 1, .int .u8 56, .int .u8 2, .int .u8 57, .int .u8 49, .int .u8 28, .int .u8 3, .int .u8 61, .int .u8 58, .int .u8 42, .int .u8 50, .int .u8 38, .int .u8 29, .int .u8 17, .int .u8 4, .int .u8 62, .int .u8 47, .int .u8 59, .int .u8 36, .int .u8 45, .int .u8 43, .int .u8 51, .int .u8 22, .int .u8 53, .int .u8 39, .int .u8 33, .int .u8 30, .int .u8 24, .int .u8 18, .int .u8 12, .int .u8 5, .int .u8 63, .int .u8 55, .int .u8 48, .int .u8 27, .int .u8 60, .int .u8 41, .int .u8 37, .int .u8 16, .int .u8 46, .int .u8 35, .int .u8 44, .int .u8 21, .int .u8 52, .int .u8 32, .int .u8 23, .int .u8 11, .int .u8 54, .int .u8 26, .int .u8 40, .int .u8 15, .int .u8 34, .int .u8 20, .int .u8 31, .int .u8 10, .int .u8 25, .int .u8 14, .int .u8 19, .int .u8 9, .int .u8 13, .int .u8 8, .int .u8 7, .int .u8 6] t frozen
  | o => o
/-- What the other initialisers lay. -/
def slPutF : Obj → Obj
  | .cells _ t frozen => .cells (Pinned.utf8FirstZ.map fun (n : Nat) => Value.int .u8 (n : Int)).toArray t frozen
  | o => o
def slPutR : Obj → Obj
  | .cells _ t frozen => .cells #[.int .u8 128, .int .u8 191, .int .u8 160, .int .u8 191, .int .u8 128, .int .u8 159, .int .u8 144, .int .u8 191, .int .u8 128, .int .u8 143, .int .u8 0, .int .u8 0, .int .u8 0, .int .u8 0, .int .u8 0, .int .u8 0, .int .u8 0, .int .u8 0, .int .u8 0, .int .u8 0, .int .u8 0, .int .u8 0, .int .u8 0, .int .u8 0, .int .u8 0, .int .u8 0, .int .u8 0, .int .u8 0, .int .u8 0, .int .u8 0, .int .u8 0, .int .u8 0] t frozen
  | o => o
def slPutE (b : Nat) : Obj → Obj
  | .cells _ t frozen => .cells #[.iface 347 (.pointer (some ⟨b, 0, none⟩))] t frozen
  | o => o
/-- A world for the witness: the settled one, the variables holding what their initialisers lay. -/
noncomputable def slWorld (os : Os) : World :=
  { World.holding Tryz.prog os ⟨#[], #[], []⟩ with heap := ((((((((((World.holding Tryz.prog os ⟨#[], #[], []⟩).heap.modify 0 stPutA).modify 2 stPutB).modify 3 stPutC).modify 4 slPutF).modify 5 slPutR).modify 6 (slPutE (World.holding Tryz.prog os ⟨#[], #[], []⟩).heap.size)).modify 7 (slPutE ((World.holding Tryz.prog os ⟨#[], #[], []⟩).heap.size + 1))).push (.cells #[.string ⟨#[105, 110, 118, 97, 108, 105, 100, 32, 115, 121, 110, 116, 97, 120]⟩] 349)).push (.cells #[.string ⟨#[118, 97, 108, 117, 101, 32, 111, 117, 116, 32, 111, 102, 32, 114, 97, 110, 103, 101]⟩] 349)) }
end Go.Proofs.YtdamegaedmckbaaGreatDoor
end
section
namespace Go.Proofs.YtdamegaedmckbaaGreatDoor
open Go.RowKit

/-- Two fractions are one. -/
def Eqv (c d : PC) : Prop := c.1 * d.2 = d.1 * c.2
theorem eqv_low {a b : Int} (hb : 0 < b) : Eqv (lowP a b, lowQ a b) (a, b) := by
  unfold Eqv lowP lowQ
  simp only
  obtain ⟨x, hx⟩ : (Int.gcd a b : Int) ∣ a := Int.gcd_dvd_left ..
  obtain ⟨y, hy⟩ : (Int.gcd a b : Int) ∣ b := Int.gcd_dvd_right ..
  have hg : 0 < Int.gcd a b := Int.gcd_pos_of_ne_zero_right _ (by omega)
  have hg' : (Int.gcd a b : Int) ≠ 0 := by omega
  generalize (Int.gcd a b : Int) = g at *
  subst hx hy
  rw [Int.mul_ediv_cancel_left _ hg', Int.mul_ediv_cancel_left _ hg']
  rw [← Int.mul_assoc, Int.mul_comm x g]
theorem cw_eq {c d : PC} (hc : CW c) (hd : CW d) (h : Eqv c d) : c = d := by
  obtain ⟨p, q⟩ := c
  obtain ⟨r, s⟩ := d
  obtain ⟨h1, h2⟩ := hc
  obtain ⟨h3, h4⟩ := hd
  unfold Eqv at h
  simp only at h h1 h2 h3 h4
  have hn : p.natAbs * s.natAbs = r.natAbs * q.natAbs := by rw [← Int.natAbs_mul, ← Int.natAbs_mul, h]
  have c1 : Nat.Coprime p.natAbs q.natAbs := h2
  have c2 : Nat.Coprime r.natAbs s.natAbs := h4
  have d1 : q.natAbs ∣ s.natAbs := by
    refine c1.symm.dvd_of_dvd_mul_left ⟨r.natAbs, ?_⟩
    rw [hn, Nat.mul_comm]
  have d2 : s.natAbs ∣ q.natAbs := by
    refine c2.symm.dvd_of_dvd_mul_left ⟨p.natAbs, ?_⟩
    rw [← hn, Nat.mul_comm]
  have hqs : q.natAbs = s.natAbs := Nat.dvd_antisymm d1 d2
  have hq : q = s := by omega
  subst hq
  have : p = r := Int.eq_of_mul_eq_mul_right (by omega) h
  rw [this]
theorem Eqv.trans {c d e : PC} (hd : 0 < d.2) (h1 : Eqv c d) (h2 : Eqv d e) : Eqv c e := by
  unfold Eqv at *
  apply Int.eq_of_mul_eq_mul_right (show d.2 ≠ 0 by omega)
  calc c.1 * e.2 * d.2 = (c.1 * d.2) * e.2 := by rw [Int.mul_assoc, Int.mul_comm e.2, ← Int.mul_assoc]
    _ = (d.1 * c.2) * e.2 := by rw [h1]
    _ = (d.1 * e.2) * c.2 := by rw [Int.mul_assoc, Int.mul_comm c.2, ← Int.mul_assoc]
    _ = (e.1 * d.2) * c.2 := by rw [h2]
    _ = e.1 * c.2 * d.2 := by rw [Int.mul_assoc, Int.mul_comm d.2, ← Int.mul_assoc]
theorem Eqv.symm {c d : PC} (h : Eqv c d) : Eqv d c := by unfold Eqv at *; exact h.symm
/-- Added, as it stands. -/
def rawA (c d : PC) : PC := (c.1 * d.2 + d.1 * c.2, c.2 * d.2)
theorem add_eqv {c d : PC} (hc : 0 < c.2) (hd : 0 < d.2) : Eqv (addC c d) (rawA c d) := eqv_low (Int.mul_pos hc hd)
theorem rawA_congr {c c' d : PC} (h : Eqv c c') : Eqv (rawA c d) (rawA c' d) := by
  obtain ⟨c1, c2⟩ := c
  obtain ⟨b1, b2⟩ := c'
  obtain ⟨d1, d2⟩ := d
  unfold Eqv rawA at *
  simp only at *
  have e1 : (c1 * d2 + d1 * c2) * (b2 * d2) = (c1 * b2) * (d2 * d2) + d1 * c2 * (b2 * d2) := by
    rw [Int.add_mul]; congr 1; ac_rfl
  have e2 : (b1 * d2 + d1 * b2) * (c2 * d2) = (b1 * c2) * (d2 * d2) + d1 * b2 * (c2 * d2) := by
    rw [Int.add_mul]; congr 1; ac_rfl
  rw [e1, e2, h]
  congr 1
  ac_rfl
theorem rawA_comm (c d : PC) : rawA c d = rawA d c := by
  unfold rawA
  rw [Int.add_comm, Int.mul_comm c.2]
theorem rawA_assoc (c d e : PC) : rawA (rawA c d) e = rawA c (rawA d e) := by
  obtain ⟨c1, c2⟩ := c
  obtain ⟨d1, d2⟩ := d
  obtain ⟨e1, e2⟩ := e
  unfold rawA
  simp only
  congr 1
  · rw [Int.add_mul, Int.add_mul, Int.add_assoc]
    congr 1
    · ac_rfl
    · congr 1 <;> ac_rfl
  · ac_rfl
theorem addC_comm (c d : PC) : addC c d = addC d c := by
  unfold addC
  rw [Int.add_comm (c.1 * d.2), Int.mul_comm c.2]
theorem addC_assoc {c d e : PC} (hc : CW c) (hd : CW d) (he : CW e) : addC (addC c d) e = addC c (addC d e) := by
  apply cw_eq ((hc.add hd).add he) (hc.add (hd.add he))
  have p1 : 0 < (rawA c d).2 := Int.mul_pos hc.pos hd.pos
  have p2 : 0 < (rawA d e).2 := Int.mul_pos hd.pos he.pos
  have h1 : Eqv (addC (addC c d) e) (rawA (addC c d) e) := add_eqv (hc.add hd).pos he.pos
  have h2 : Eqv (rawA (addC c d) e) (rawA (rawA c d) e) := rawA_congr (add_eqv hc.pos hd.pos)
  have h3 : Eqv (rawA (addC d e) c) (rawA (rawA d e) c) := rawA_congr (add_eqv hd.pos he.pos)
  have h4 : Eqv (addC c (addC d e)) (rawA c (addC d e)) := add_eqv hc.pos (hd.add he).pos
  rw [rawA_comm (addC d e), rawA_comm (rawA d e), ← rawA_assoc] at h3
  exact (h1.trans (Int.mul_pos (hc.add hd).pos he.pos) h2).trans (Int.mul_pos p1 he.pos) ((h4.trans (Int.mul_pos hc.pos (hd.add he).pos) h3).symm)
/-- What stands there, 0 where nothing stands. -/
def getO : Option PC → PC
  | none => (0, 1)
  | some c => c
def okO (x : Option PC) : Prop := ∀ c, x = some c → CW c ∧ c.1 ≠ 0
theorem zero_cw : CW (0, 1) := ⟨by decide, by decide⟩
theorem get_cw {x : Option PC} (h : okO x) : CW (getO x) := by
  cases x with
  | none => exact zero_cw
  | some c => exact (h c rfl).1
theorem get_inj {x y : Option PC} (hx : okO x) (hy : okO y) (h : getO x = getO y) : x = y := by
  cases x with
  | none =>
    cases y with
    | none => rfl
    | some d => exact absurd (by rw [← show getO (some d) = d from rfl, ← h]; rfl) (hy d rfl).2
  | some c =>
    cases y with
    | none => exact absurd (by rw [← show getO (some c) = c from rfl, h]; rfl) (hx c rfl).2
    | some d => exact congrArg some h
theorem addC_zero {c : PC} (hc : CW c) : addC c (0, 1) = c := by
  unfold addC
  simp only [Int.mul_one, Int.zero_mul, Int.add_zero]
  rw [lowP_of hc.red, lowQ_of hc.red]
theorem cw_zero {c : PC} (hc : CW c) (h : c.1 = 0) : c = (0, 1) := by
  obtain ⟨p, q⟩ := c
  obtain ⟨h1, h2⟩ := hc
  simp only at h h1 h2
  subst h
  rw [Int.zero_gcd] at h2
  congr 1
  omega
theorem get_add {x y : Option PC} (hx : okO x) (hy : okO y) : getO (addO x y) = addC (getO x) (getO y) ∧ okO (addO x y) := by
  cases x with
  | none =>
    refine ⟨?_, hy⟩
    show getO y = addC (0, 1) (getO y)
    rw [addC_comm, addC_zero (get_cw hy)]
  | some c =>
    cases y with
    | none => exact ⟨(addC_zero (hx c rfl).1).symm, hx⟩
    | some d =>
      have hcd := (hx c rfl).1.add (hy d rfl).1
      by_cases h : (addC c d).1 = 0
      · have e : addO (some c) (some d) = none := by show (if (addC c d).1 = 0 then none else some (addC c d)) = none; rw [if_pos h]
        rw [e]
        exact ⟨(cw_zero hcd h).symm, fun c hc => by cases hc⟩
      · have e : addO (some c) (some d) = some (addC c d) := by show (if (addC c d).1 = 0 then none else some (addC c d)) = _; rw [if_neg h]
        rw [e]
        exact ⟨rfl, fun c' hc => by cases hc; exact ⟨hcd, h⟩⟩
theorem addO_assoc {x y z : Option PC} (hx : okO x) (hy : okO y) (hz : okO z) : addO (addO x y) z = addO x (addO y z) := by
  obtain ⟨a1, a2⟩ := get_add hx hy
  obtain ⟨b1, b2⟩ := get_add hy hz
  obtain ⟨c1, c2⟩ := get_add a2 hz
  obtain ⟨d1, d2⟩ := get_add hx b2
  apply get_inj c2 d2
  rw [c1, d1, a1, b1, addC_assoc (get_cw hx) (get_cw hy) (get_cw hz)]
theorem lk_ok {l : List PT} (h : Good l) (k : Nat) : okO (lk l k) := fun c hc => h _ (lk_mem hc)
theorem lk_ext {a b : List PT} (ha : Falls a) (hb : Falls b) (h : ∀ k, lk a k = lk b k) : a = b := by
  refine falls_ext ha hb fun t => ?_
  obtain ⟨k, c⟩ := t
  constructor
  · intro ht
    exact lk_mem (by rw [← h]; exact lk_of_mem ha ht)
  · intro ht
    exact lk_mem (by rw [h]; exact lk_of_mem hb ht)
/-- Of three sums. -/
theorem addL_assoc {a b c : List PT} (ha : PW a) (hb : PW b) (hc : PW c) : addL (addL a b) c = addL a (addL b c) := by
  have h1 := ha.add hb
  have h2 := hb.add hc
  refine lk_ext (h1.add hc).falls (ha.add h2).falls fun k => ?_
  rw [addL_lk _ _ h1.falls hc.falls, addL_lk _ _ ha.falls hb.falls, addL_lk _ _ ha.falls h2.falls, addL_lk _ _ hb.falls hc.falls]
  exact addO_assoc (lk_ok ha.good k) (lk_ok hb.good k) (lk_ok hc.good k)
end Go.Proofs.YtdamegaedmckbaaGreatDoor
end
