/- Plain words for what the walks say of memory: a list of limbs read at a slice value; what a call keeps. No condition. -/
import Derived.Test.YtdamegaedmckbaaGreatDoorProg
import Derived.WalkKit
import Derived.WalkLawsBesides
import Derived.WalkSpells
import Derived.Lib.Hide
import Derived.Handy
import Derived.ChangeKeysEq
set_option linter.unusedSimpArgs false
set_option linter.unusedVariables false
namespace Go.Proofs.YtdamegaedmckbaaGreatDoor
open Go.RowKit

/-- The two rules by which a walk reads old memory behind a call. -/
theorem bcell {W w1 : World} (hb : Below W.heap.size W w1) : (∀ b o, b < W.heap.size → w1.cell? ⟨b, o, none⟩ = W.cell? ⟨b, o, none⟩) ∧ (∀ b o, b < W.heap.size → w1.frozen? ⟨b, o, none⟩ = W.frozen? ⟨b, o, none⟩) :=
  ⟨fun b o h => hb.cell (p := ⟨b, o, none⟩) h, fun b o h => hb.frozen (p := ⟨b, o, none⟩) h⟩

/-- The i-th number of a list, as the walk speaks of it (0 behind its end). -/
def lim (d : List Nat) (i : Nat) : Int := ((d.getD i 0 : Nat) : Int)

/-- A slice's three words, and the limbs that its cells hold. -/
structure RdL (w : World) (a : Option Addr) (n c : Nat) (d : List Nat) : Prop where
  len : d.length = n
  cap : n ≤ c
  few : n ≤ 35184372088832
  top : c ≤ 9223372036854775807
  small : ∀ i, 0 ≤ lim d i ∧ lim d i < 4294967296
  cell : n = 0 ∨ ∃ b o, a = some ⟨b, o, none⟩ ∧ ∀ i, i < n → w.cell? ⟨b, o + i, none⟩ = some (.int .u32 (lim d i))

theorem RdL.below {B : Nat} {w w' : World} {a : Option Addr} {n c : Nat} {d : List Nat} (h : RdL w a n c d) (hb : Below B w w') (hB : w.heap.size ≤ B) : RdL w' a n c d := by
  refine ⟨h.len, h.cap, h.few, h.top, h.small, ?_⟩
  rcases h.cell with h0 | ⟨b, o, ha, hc⟩
  · exact .inl h0
  · refine .inr ⟨b, o, ha, fun i hi => ?_⟩
    have := hc i hi
    have hlt := World.block_lt_of_cell? w _ this
    rw [hb.cell (p := ⟨b, o + i, none⟩) (Nat.lt_of_lt_of_le hlt hB)]
    exact this

theorem RdL.alloc {w : World} {a : Option Addr} {n c : Nat} {d : List Nat} (h : RdL w a n c d) (o : Obj) : RdL (w.alloc o) a n c d :=
  h.below ((Below.refl w.heap.size w).alloc (Nat.le_refl _) o) (Nat.le_refl _)

theorem RdL.drew {w : World} {a : Option Addr} {n c : Nat} {d : List Nat} (h : RdL w a n c d) : RdL w.drew a n c d :=
  h.below ((Below.refl w.heap.size w).drew) (Nat.le_refl _)

/-- A term as it lies in memory: its two numbers' words and limbs, and its four counts. -/
structure Tm where
  g1 : Bool
  a1 : Option Addr
  n1 : Nat
  c1 : Nat
  d1 : List Nat
  g2 : Bool
  a2 : Option Addr
  n2 : Nat
  c2 : Nat
  d2 : List Nat
  m0 : Nat
  m1 : Nat
  m2 : Nat
  m3 : Nat

/-- A term as a value of eight cells. -/
abbrev Tm.val (t : Tm) : Value := .agg #[.bool t.g1, .slice t.a1 t.n1 t.c1, .bool t.g2, .slice t.a2 t.n2 t.c2, .int .u16 t.m0, .int .u16 t.m1, .int .u16 t.m2, .int .u16 t.m3]

/-- What a term's limbs and counts are in a world. -/
structure RdTm (w : World) (t : Tm) : Prop where
  top : RdL w t.a1 t.n1 t.c1 t.d1
  low : RdL w t.a2 t.n2 t.c2 t.d2
  s0 : t.m0 < 65536
  s1 : t.m1 < 65536
  s2 : t.m2 < 65536
  s3 : t.m3 < 65536

/-- The eight cells of a term. -/
structure TmAt (w : World) (b o : Nat) (t : Tm) : Prop where
  e0 : w.cell? ⟨b, o, none⟩ = some (.bool t.g1)
  e1 : w.cell? ⟨b, o + 1, none⟩ = some (.slice t.a1 t.n1 t.c1)
  e2 : w.cell? ⟨b, o + 2, none⟩ = some (.bool t.g2)
  e3 : w.cell? ⟨b, o + 3, none⟩ = some (.slice t.a2 t.n2 t.c2)
  e4 : w.cell? ⟨b, o + 4, none⟩ = some (.int .u16 t.m0)
  e5 : w.cell? ⟨b, o + 5, none⟩ = some (.int .u16 t.m1)
  e6 : w.cell? ⟨b, o + 6, none⟩ = some (.int .u16 t.m2)
  e7 : w.cell? ⟨b, o + 7, none⟩ = some (.int .u16 t.m3)

/-- A slice of terms: its words, and the terms that its cells hold. -/
structure RdP (w : World) (a : Option Addr) (n c : Nat) (p : Nat → Tm) : Prop where
  cap : n ≤ c
  few : n ≤ 35184372088832
  top : c ≤ 9223372036854775807
  tm : ∀ i, i < n → RdTm w (p i)
  cell : n = 0 ∨ ∃ b o, a = some ⟨b, o, none⟩ ∧ ∀ i, i < n → TmAt w b (o + i * 8) (p i)

theorem cell_keep {w w' : World} (hb : Below w.heap.size w w') {a : Addr} {v : Value} (h : w.cell? a = some v) : w'.cell? a = some v := by
  rw [hb.cell (World.block_lt_of_cell? w a h)]; exact h

theorem RdL.keep {w w' : World} {a : Option Addr} {n c : Nat} {d : List Nat} (h : RdL w a n c d) (hb : Below w.heap.size w w') : RdL w' a n c d := h.below hb (Nat.le_refl _)

theorem RdTm.keep {w w' : World} {t : Tm} (h : RdTm w t) (hb : Below w.heap.size w w') : RdTm w' t := ⟨h.top.keep hb, h.low.keep hb, h.s0, h.s1, h.s2, h.s3⟩

theorem TmAt.keep {w w' : World} {b o : Nat} {t : Tm} (h : TmAt w b o t) (hb : Below w.heap.size w w') : TmAt w' b o t :=
  ⟨cell_keep hb h.e0, cell_keep hb h.e1, cell_keep hb h.e2, cell_keep hb h.e3, cell_keep hb h.e4, cell_keep hb h.e5, cell_keep hb h.e6, cell_keep hb h.e7⟩

theorem RdP.keep {w w' : World} {a : Option Addr} {n c : Nat} {p : Nat → Tm} (h : RdP w a n c p) (hb : Below w.heap.size w w') : RdP w' a n c p := by
  refine ⟨h.cap, h.few, h.top, fun i hi => (h.tm i hi).keep hb, ?_⟩
  rcases h.cell with h0 | ⟨b, o, ha, hc⟩
  · exact .inl h0
  · exact .inr ⟨b, o, ha, fun i hi => (hc i hi).keep hb⟩

theorem RdP.at {w : World} {b o n c : Nat} {p : Nat → Tm} (h : RdP w (some ⟨b, o, none⟩) n c p) {i : Nat} (hi : i < n) : TmAt w b (o + i * 8) (p i) := by
  obtain ⟨b', o', hbo, hcl⟩ := h.cell.resolve_left (by omega)
  simp only [Option.some.injEq, Addr.mk.injEq, and_true] at hbo
  obtain ⟨rfl, rfl⟩ := hbo
  exact hcl i hi

theorem RdL.at {w : World} {b o n c : Nat} {d : List Nat} (h : RdL w (some ⟨b, o, none⟩) n c d) {i : Nat} (hi : i < n) : w.cell? ⟨b, o + i, none⟩ = some (.int .u32 (lim d i)) := by
  obtain ⟨b', o', hbo, hcl⟩ := h.cell.resolve_left (by omega)
  simp only [Option.some.injEq, Addr.mk.injEq, and_true] at hbo
  obtain ⟨rfl, rfl⟩ := hbo
  exact hcl i hi

theorem RdL.at' {w : World} {a : Option Addr} {n c : Nat} {d : List Nat} (h : RdL w a n c d) {i : Nat} (hi : i < n) : ∃ b o, a = some ⟨b, o, none⟩ ∧ w.cell? ⟨b, o + i, none⟩ = some (.int .u32 (lim d i)) := by
  obtain ⟨b, o, rfl, hcl⟩ := h.cell.resolve_left (by omega)
  exact ⟨b, o, rfl, hcl i hi⟩

/-- An address lies in a block from B on. -/
def NewA (B : Nat) (a : Option Addr) : Prop := ∀ x, a = some x → B ≤ x.block

theorem NewA.mono {B B' : Nat} {a : Option Addr} (h : NewA B a) (hB : B' ≤ B) : NewA B' a := fun x hx => Nat.le_trans hB (h x hx)

theorem cell_set_other {w : World} {p q : Addr} {v : Value} (u : Value) (h : w.cell? q = some v) (hne : q.block ≠ p.block) : (w.setCell p u).cell? q = some v := by
  rw [World.cell?_of_block (w := w) (Below.heap_setCell w p u q.block hne)]; exact h

theorem RdL.setNew {w : World} {a : Option Addr} {n c : Nat} {d : List Nat} (h : RdL w a n c d) (p : Addr) (u : Value) (hn : NewA (p.block + 1) a) : RdL (w.setCell p u) a n c d := by
  refine ⟨h.len, h.cap, h.few, h.top, h.small, ?_⟩
  rcases h.cell with h0 | ⟨b, o, ha, hc⟩
  · exact .inl h0
  · refine .inr ⟨b, o, ha, fun i hi => cell_set_other u (hc i hi) ?_⟩
    have := hn _ ha
    show b ≠ p.block
    simp at this
    omega

theorem info55 : (Tryz.prog.info? 55).map (fun i => (i.zero, i.size, i.bytes)) = some (some (.int .u16 0), 1, 2) := by kernel_rfl
theorem u66 : Tryz.prog.underlying 66 = some (.array 4 55) := by kernel_rfl
theorem u55 : Tryz.prog.underlying 55 = some (.int .u16) := by kernel_rfl
theorem c55 : Tryz.prog.cellsOf 55 = 1 := by kernel_rfl
theorem mono_part (w : World) (a0 a1 a2 a3 : Int) :
    (part 55 #[.int .u16 a0, .int .u16 a1, .int .u16 a2, .int .u16 a3] 0).run Tryz.prog w = .ok (.int .u16 a0) w ∧
    (part 55 #[.int .u16 a0, .int .u16 a1, .int .u16 a2, .int .u16 a3] 1).run Tryz.prog w = .ok (.int .u16 a1) w ∧
    (part 55 #[.int .u16 a0, .int .u16 a1, .int .u16 a2, .int .u16 a3] 2).run Tryz.prog w = .ok (.int .u16 a2) w ∧
    (part 55 #[.int .u16 a0, .int .u16 a1, .int .u16 a2, .int .u16 a3] 3).run Tryz.prog w = .ok (.int .u16 a3) w :=
  ⟨by kernel_rfl, by kernel_rfl, by kernel_rfl, by kernel_rfl⟩
theorem mono_eqin (d : Nat) (w : World) (a0 a1 a2 a3 b0 b1 b2 b3 : Int) :
    (Op.equalIn (d + 2) 66 (.agg #[.int .u16 a0, .int .u16 a1, .int .u16 a2, .int .u16 a3]) (.agg #[.int .u16 b0, .int .u16 b1, .int .u16 b2, .int .u16 b3])).run Tryz.prog w = .ok (a0 == b0 && (a1 == b1 && (a2 == b2 && a3 == b3))) w := by
  obtain ⟨i, hi, _, hs, _⟩ := info_parts info55
  rw [run_equalIn_array (d := d + 1) (hu := u66) (hi := hi)]
  have hr : List.range 4 = [0, 1, 2, 3] := by decide
  rw [hr, c55]
  obtain ⟨pa0, pa1, pa2, pa3⟩ := mono_part w a0 a1 a2 a3
  obtain ⟨pb0, pb1, pb2, pb3⟩ := mono_part w b0 b1 b2 b3
  have e := fun (x y : Int) => run_equalIn_int (P := Tryz.prog) w d 55 .u16 .u16 x y u55
  simp only [Op.eqItems, Nat.zero_mul, Nat.one_mul, Nat.reduceMul, Sem.run_bind, pa0, pb0, pa1, pb1, pa2, pb2, pa3, pb3, Result.andThen_ok, e, Sem.run_ite, Sem.run_pure]
  cases (a0 == b0) <;> cases (a1 == b1) <;> cases (a2 == b2) <;> cases (a3 == b3) <;> simp
@[go_sem ↓] theorem mono_eql (w : World) (a0 a1 a2 a3 b0 b1 b2 b3 : Int) :
    (binOp .eql 66 (.agg #[.int .u16 a0, .int .u16 a1, .int .u16 a2, .int .u16 a3]) (.agg #[.int .u16 b0, .int .u16 b1, .int .u16 b2, .int .u16 b3])).run Tryz.prog w = .ok (.bool (a0 == b0 && (a1 == b1 && (a2 == b2 && a3 == b3)))) w := by
  rw [run_eql_struct, show (10000 : Nat) = 9998 + 2 from rfl, mono_eqin]
  rfl
end Go.Proofs.YtdamegaedmckbaaGreatDoor
