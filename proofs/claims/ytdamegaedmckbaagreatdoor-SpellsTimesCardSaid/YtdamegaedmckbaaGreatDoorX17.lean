/- Package fracs: make2, at each of its functions. No further condition. -/
import Derived.Test.YtdamegaedmckbaaGreatDoorX16
import Derived.Test.YtdamegaedmckbaaGreatDoorX13
set_option linter.unusedSimpArgs false
set_option linter.unusedVariables false
section
namespace Go.Proofs.YtdamegaedmckbaaGreatDoor
open Go.RowKit

theorem dg_len_mul (x y : Nat) : (dg (x * y)).length ≤ (dg x).length + (dg y).length := by
  have h1 := val_lt (dg x) (dg_lt x)
  have h2 := val_lt (dg y) (dg_lt y)
  rw [val_dg] at h1 h2
  have h3 : x * y < 1000000000 ^ ((dg x).length + (dg y).length) := by rw [Nat.pow_add]; exact Nat.mul_lt_mul'' h1 h2
  rcases Nat.lt_or_ge ((dg x).length + (dg y).length) (dg (x * y)).length with h4 | h4
  · exfalso
    have h5 := top_ge (canon_dg (x * y)) rfl (by omega)
    rw [val_dg] at h5
    have h6 : 1000000000 ^ ((dg x).length + (dg y).length) ≤ 1000000000 ^ ((dg (x * y)).length - 1) := Nat.pow_le_pow_right (by omega) (by omega)
    omega
  · exact h4
set_option maxRecDepth 100000 in
set_option maxHeartbeats 4000000 in
theorem make2_173 (w : World) (g1 : Bool) (a1 : Option Addr) (n1 c1 : Nat) (p : Int) (g2 : Bool) (a2 : Option Addr) (n2 c2 : Nat) (q : Int) (h : FracAt w g1 a1 n1 c1 p g2 a2 n2 c2 q)
    (g3 : Bool) (a3 : Option Addr) (n3 c3 : Nat) (p' : Int) (g4 : Bool) (a4 : Option Addr) (n4 c4 : Nat) (q' : Int) (h' : FracAt w g3 a3 n3 c3 p' g4 a4 n4 c4 q') (hb1 : n1 ≤ 1000000000) (hb2 : n2 ≤ 1000000000) (hb3 : n3 ≤ 1000000000) (hb4 : n4 ≤ 1000000000) (k1 k2 : Value) (D : Int) (hD : (dg D.natAbs).length < 35184372088829)
    (hcall : ∀ (W : World) (gx : Bool) (ax : Option Addr) (nx cx : Nat) (gy : Bool) (ay : Option Addr) (ny cy : Nat), Below w.heap.size w W → NumAt W gx ax nx cx (p * q') → NumAt W gy ay ny cy (p' * q) → Calls Tryz.prog 173 #[.agg #[.bool gx, .slice ax nx cx], .agg #[.bool gy, .slice ay ny cy], k1, k2] W (RetNum W D)) :
    Calls Tryz.prog 172 #[.agg #[.bool g1, .slice a1 n1 c1, .bool g2, .slice a2 n2 c2], .agg #[.bool g3, .slice a3 n3 c3, .bool g4, .slice a4 n4 c4], .func (.func 173) #[] #[k1, k2]] w (RetFrac w (D / (Int.gcd D (q * q') : Int)) ((q * q') / (Int.gcd D (q * q') : Int))) := by
  have HCL := Lib.hid hcall
  have HDL := Lib.hid hD
  have hqq : 0 < q * q' := Int.mul_pos h.pos h'.pos
  have HQQ := Lib.hid hqq
  have hql : (dg (q * q').natAbs).length ≤ n2 + n4 := by
    have h1 := h.low.rd.len
    have h2 := h'.low.rd.len
    rw [Int.natAbs_mul]
    have h3 := dg_len_mul q.natAbs q'.natAbs
    omega
  have HQL := Lib.hid hql
  clear hcall hD hqq hql
  go_enter Tryz.func172, Tryz.ntmps172
  go_wp2_with fail
  refine calls_name ?_
  intro w0 hw0
  have HB0 : Below w.heap.size w w0 := by rw [hw0]; go_grown
  have R0 : w0.cell? ⟨w.heap.size + 1 + 1, 0, none⟩ = some (.bool false) := by rw [hw0]; simp [go_sem]
  have R1 : w0.cell? ⟨w.heap.size + 1 + 1, 1, none⟩ = some (.slice none 0 0) := by rw [hw0]; simp [go_sem]
  have R2 : w0.cell? ⟨w.heap.size + 1 + 1, 2, none⟩ = some (.bool false) := by rw [hw0]; simp [go_sem]
  have R3 : w0.cell? ⟨w.heap.size + 1 + 1, 3, none⟩ = some (.slice none 0 0) := by rw [hw0]; simp [go_sem]
  have Rf0 : w0.frozen? ⟨w.heap.size + 1 + 1, 0, none⟩ = false := by rw [hw0]; simp [go_sem]
  have Rf1 : w0.frozen? ⟨w.heap.size + 1 + 1, 1, none⟩ = false := by rw [hw0]; simp [go_sem]
  have Rf2 : w0.frozen? ⟨w.heap.size + 1 + 1, 2, none⟩ = false := by rw [hw0]; simp [go_sem]
  have Rf3 : w0.frozen? ⟨w.heap.size + 1 + 1, 3, none⟩ = false := by rw [hw0]; simp [go_sem]
  clear hw0
  refine (brought_c _ _ _ _ _ _ _ _ _ _ _ (h.keep HB0) _ _ _ _ _ _ _ _ _ _ (h'.keep HB0) hb1 hb2 hb3 hb4).mono ?_
  rintro e w1 ⟨gx, ax, nx, cx, gy, ay, ny, cy, gq, aq, nq, cq, rfl, hx, hy, hq, hfx, hfy, hfq, hb⟩
  have HB1 := HB0.trans (hb.mono HB0.size)
  (replace Rf0 := (Below.frozen hb (World.block_lt_of_cell? _ _ R0)).trans Rf0; replace Rf1 := (Below.frozen hb (World.block_lt_of_cell? _ _ R1)).trans Rf1; replace Rf2 := (Below.frozen hb (World.block_lt_of_cell? _ _ R2)).trans Rf2; replace Rf3 := (Below.frozen hb (World.block_lt_of_cell? _ _ R3)).trans Rf3; replace R0 := cell_keep hb R0; replace R1 := cell_keep hb R1; replace R2 := cell_keep hb R2; replace R3 := cell_keep hb R3)
  have hs1 := HB1.size
  have hk1 : w.heap.size + 1 + 1 < w1.heap.size := World.block_lt_of_cell? _ _ R0
  clear hb HB0 hfx hfy hfq
  go_upto_region 2 with fail
  (refine wp_name ?_; intro w2 hw2; have M0' : w2.cell? ⟨w1.heap.size, 0, none⟩ = some (.bool gx) := (by rw [hw2]; first | assumption | (simp [go_sem]; done) | (simp [*, go_sem]; done)); have M1' : w2.cell? ⟨w1.heap.size, 1, none⟩ = some (.slice ax nx cx) := (by rw [hw2]; first | assumption | (simp [go_sem]; done) | (simp [*, go_sem]; done)); have M2' : w2.cell? ⟨w1.heap.size, 2, none⟩ = some (.bool gy) := (by rw [hw2]; first | assumption | (simp [go_sem]; done) | (simp [*, go_sem]; done)); have M3' : w2.cell? ⟨w1.heap.size, 3, none⟩ = some (.slice ay ny cy) := (by rw [hw2]; first | assumption | (simp [go_sem]; done) | (simp [*, go_sem]; done)); have L0' : w2.cell? ⟨w1.heap.size + 1, 0, none⟩ = some (.bool gq) := (by rw [hw2]; first | assumption | (simp [go_sem]; done) | (simp [*, go_sem]; done)); have L1' : w2.cell? ⟨w1.heap.size + 1, 1, none⟩ = some (.slice aq nq cq) := (by rw [hw2]; first | assumption | (simp [go_sem]; done) | (simp [*, go_sem]; done)); have M0 := M0'; clear M0'; have M1 := M1'; clear M1'; have M2 := M2'; clear M2'; have M3 := M3'; clear M3'; have L0 := L0'; clear L0'; have L1 := L1'; clear L1')
  have hb12 : Below w1.heap.size w1 w2 := by rw [hw2]; go_grown
  have hs12 : w1.heap.size < w2.heap.size := by rw [hw2]; simp; omega
  (replace Rf0 := (Below.frozen hb12 (World.block_lt_of_cell? _ _ R0)).trans Rf0; replace Rf1 := (Below.frozen hb12 (World.block_lt_of_cell? _ _ R1)).trans Rf1; replace Rf2 := (Below.frozen hb12 (World.block_lt_of_cell? _ _ R2)).trans Rf2; replace Rf3 := (Below.frozen hb12 (World.block_lt_of_cell? _ _ R3)).trans Rf3; replace R0 := cell_keep hb12 R0; replace R1 := cell_keep hb12 R1; replace R2 := cell_keep hb12 R2; replace R3 := cell_keep hb12 R3)
  have HB2 := HB1.trans (hb12.mono hs1)
  have hx2 := hx.keep hb12
  have hy2 := hy.keep hb12
  have hq2 := hq.keep hb12
  obtain ⟨M, hM⟩ : ∃ M, M = w1.heap.size := ⟨_, rfl⟩
  rw [← hM] at M0 M1 M2 M3 L0 L1 ⊢
  have hMr : w.heap.size + 1 + 1 < M := by omega
  have hq3 : nq ≤ n2 + n4 := by have h1 := hq2.rd.len; have := HQL.out; omega
  clear hw2 hb12 HB1 hM hx hy hq hs12
  have hk2 : w.heap.size + 1 + 1 + 1 ≤ w2.heap.size := World.block_lt_of_cell? _ _ R0
  have HB := Below.refl w2.heap.size w2
  go_region_held3 (fun W => W.cell? ⟨M, 0, none⟩ = some (.bool gx) ∧ W.cell? ⟨M, 1, none⟩ = some (.slice ax nx cx) ∧ W.cell? ⟨M, 2, none⟩ = some (.bool gy) ∧ W.cell? ⟨M, 3, none⟩ = some (.slice ay ny cy) ∧ W.cell? ⟨M + 1, 0, none⟩ = some (.bool gq) ∧ W.cell? ⟨M + 1, 1, none⟩ = some (.slice aq nq cq)) (first | ((try dsimp only); (repeat' apply And.intro); all_goals (first | (with_reducible assumption) | (go_keep; done) | (simp [*, go_sem]; done)))) (first
    | (go_at_call 173; (with_reducible refine (HCL.out _ _ _ _ _ _ _ _ _ (HB2.trans ((by first | assumption | go_grown : Below w2.heap.size w2 _).mono HB2.size)) (hx2.keep (by first | assumption | go_grown)) (hy2.keep (by first | assumption | go_grown))).mono ?_); rintro e w3 ⟨gd, ad, nd, cd, rfl, hd, hfd, hb⟩; replace HB : Below w2.heap.size w2 w3 := Below.trans (by first | assumption | go_grown) (hb.mono (by go_size)); have hsz := HB.size; (replace Rf0 := (Below.frozen HB (World.block_lt_of_cell? _ _ R0)).trans Rf0; replace Rf1 := (Below.frozen HB (World.block_lt_of_cell? _ _ R1)).trans Rf1; replace Rf2 := (Below.frozen HB (World.block_lt_of_cell? _ _ R2)).trans Rf2; replace Rf3 := (Below.frozen HB (World.block_lt_of_cell? _ _ R3)).trans Rf3; replace M0 := cell_keep HB M0; replace M1 := cell_keep HB M1; replace M2 := cell_keep HB M2; replace M3 := cell_keep HB M3; replace L0 := cell_keep HB L0; replace L1 := cell_keep HB L1; replace R0 := cell_keep HB R0; replace R1 := cell_keep HB R1; replace R2 := cell_keep HB R2; replace R3 := cell_keep HB R3); have hdl : nd < 35184372088829 := (by have h1 := hd.rd.len; have := HDL.out; omega))
    | (go_at_call 224; (with_reducible refine (lowest_c _ _ _ _ _ D (hd.keep (by first | exact Below.refl _ _ | assumption | go_grown)) _ _ _ _ (q * q') (hq2.keep (by first | assumption | go_grown)) HQQ.out (by omega) (by omega)).mono ?_); rintro e w4 ⟨ge, ae, ne, ce, gf, af, nf, cf, rfl, hr, hfe, hff, hb4⟩; have hb34 : Below w3.heap.size w3 w4 := Below.trans (by first | assumption | go_grown) (hb4.mono (by go_size)); replace HB : Below w2.heap.size w2 w4 := Below.trans HB (hb34.mono (by go_size)); have hsz4 := HB.size; (replace Rf0 := (Below.frozen hb34 (World.block_lt_of_cell? _ _ R0)).trans Rf0; replace Rf1 := (Below.frozen hb34 (World.block_lt_of_cell? _ _ R1)).trans Rf1; replace Rf2 := (Below.frozen hb34 (World.block_lt_of_cell? _ _ R2)).trans Rf2; replace Rf3 := (Below.frozen hb34 (World.block_lt_of_cell? _ _ R3)).trans Rf3; replace M0 := cell_keep hb34 M0; replace M1 := cell_keep hb34 M1; replace M2 := cell_keep hb34 M2; replace M3 := cell_keep hb34 M3; replace L0 := cell_keep hb34 L0; replace L1 := cell_keep hb34 L1; replace R0 := cell_keep hb34 R0; replace R1 := cell_keep hb34 R1; replace R2 := cell_keep hb34 R2; replace R3 := cell_keep hb34 R3)))
  all_goals
    have fe : Fresh (w.heap.size + 1 + 1 + 1) w4 ae ce := hfe.mono (by go_size)
    have ff : Fresh (w.heap.size + 1 + 1 + 1) w4 af cf := hff.mono (by go_size)
    have u2 : w.heap.size + 1 + 1 < w.heap.size + 1 + 1 + 1 := Nat.lt_succ_self _
    have HW := HB2.trans (HB.mono HB2.size)
    go_wp2_with fail
    refine bodyPost_ret (v := .agg #[.bool ge, .slice ae ne ce, .bool gf, .slice af nf cf]) (by simp [results, Tryz.results172, go_sem, R0, R1, R2, R3]) rfl ?_
    refine ⟨ge, ae, ne, ce, gf, af, nf, cf, rfl, ⟨?_, ?_, hr.pos, hr.red⟩, ?_, ?_, by go_grown⟩
    · exact hr.top.set4 fe _ _ _ _ _ _ _ _ u2 u2 u2 u2
    · exact hr.low.set4 ff _ _ _ _ _ _ _ _ u2 u2 u2 u2
    · exact (fe.set4 _ _ _ _ _ _ _ _ u2 u2 u2 u2).mono (by omega)
    · exact (ff.set4 _ _ _ _ _ _ _ _ u2 u2 u2 u2).mono (by omega)
set_option maxRecDepth 100000 in
set_option maxHeartbeats 4000000 in
theorem make2_226 (w : World) (g1 : Bool) (a1 : Option Addr) (n1 c1 : Nat) (p : Int) (g2 : Bool) (a2 : Option Addr) (n2 c2 : Nat) (q : Int) (h : FracAt w g1 a1 n1 c1 p g2 a2 n2 c2 q)
    (g3 : Bool) (a3 : Option Addr) (n3 c3 : Nat) (p' : Int) (g4 : Bool) (a4 : Option Addr) (n4 c4 : Nat) (q' : Int) (h' : FracAt w g3 a3 n3 c3 p' g4 a4 n4 c4 q') (hb1 : n1 ≤ 1000000000) (hb2 : n2 ≤ 1000000000) (hb3 : n3 ≤ 1000000000) (hb4 : n4 ≤ 1000000000) (D : Int) (hD : (dg D.natAbs).length < 35184372088829)
    (hcall : ∀ (W : World) (gx : Bool) (ax : Option Addr) (nx cx : Nat) (gy : Bool) (ay : Option Addr) (ny cy : Nat), Below w.heap.size w W → NumAt W gx ax nx cx (p * q') → NumAt W gy ay ny cy (p' * q) → Calls Tryz.prog 226 #[.agg #[.bool gx, .slice ax nx cx], .agg #[.bool gy, .slice ay ny cy]] W (RetNum W D)) :
    Calls Tryz.prog 172 #[.agg #[.bool g1, .slice a1 n1 c1, .bool g2, .slice a2 n2 c2], .agg #[.bool g3, .slice a3 n3 c3, .bool g4, .slice a4 n4 c4], .func (.func 226) #[] #[]] w (RetFrac w (D / (Int.gcd D (q * q') : Int)) ((q * q') / (Int.gcd D (q * q') : Int))) := by
  have HCL := Lib.hid hcall
  have HDL := Lib.hid hD
  have hqq : 0 < q * q' := Int.mul_pos h.pos h'.pos
  have HQQ := Lib.hid hqq
  have hql : (dg (q * q').natAbs).length ≤ n2 + n4 := by
    have h1 := h.low.rd.len
    have h2 := h'.low.rd.len
    rw [Int.natAbs_mul]
    have h3 := dg_len_mul q.natAbs q'.natAbs
    omega
  have HQL := Lib.hid hql
  clear hcall hD hqq hql
  go_enter Tryz.func172, Tryz.ntmps172
  go_wp2_with fail
  refine calls_name ?_
  intro w0 hw0
  have HB0 : Below w.heap.size w w0 := by rw [hw0]; go_grown
  have R0 : w0.cell? ⟨w.heap.size + 1 + 1, 0, none⟩ = some (.bool false) := by rw [hw0]; simp [go_sem]
  have R1 : w0.cell? ⟨w.heap.size + 1 + 1, 1, none⟩ = some (.slice none 0 0) := by rw [hw0]; simp [go_sem]
  have R2 : w0.cell? ⟨w.heap.size + 1 + 1, 2, none⟩ = some (.bool false) := by rw [hw0]; simp [go_sem]
  have R3 : w0.cell? ⟨w.heap.size + 1 + 1, 3, none⟩ = some (.slice none 0 0) := by rw [hw0]; simp [go_sem]
  have Rf0 : w0.frozen? ⟨w.heap.size + 1 + 1, 0, none⟩ = false := by rw [hw0]; simp [go_sem]
  have Rf1 : w0.frozen? ⟨w.heap.size + 1 + 1, 1, none⟩ = false := by rw [hw0]; simp [go_sem]
  have Rf2 : w0.frozen? ⟨w.heap.size + 1 + 1, 2, none⟩ = false := by rw [hw0]; simp [go_sem]
  have Rf3 : w0.frozen? ⟨w.heap.size + 1 + 1, 3, none⟩ = false := by rw [hw0]; simp [go_sem]
  clear hw0
  refine (brought_c _ _ _ _ _ _ _ _ _ _ _ (h.keep HB0) _ _ _ _ _ _ _ _ _ _ (h'.keep HB0) hb1 hb2 hb3 hb4).mono ?_
  rintro e w1 ⟨gx, ax, nx, cx, gy, ay, ny, cy, gq, aq, nq, cq, rfl, hx, hy, hq, hfx, hfy, hfq, hb⟩
  have HB1 := HB0.trans (hb.mono HB0.size)
  (replace Rf0 := (Below.frozen hb (World.block_lt_of_cell? _ _ R0)).trans Rf0; replace Rf1 := (Below.frozen hb (World.block_lt_of_cell? _ _ R1)).trans Rf1; replace Rf2 := (Below.frozen hb (World.block_lt_of_cell? _ _ R2)).trans Rf2; replace Rf3 := (Below.frozen hb (World.block_lt_of_cell? _ _ R3)).trans Rf3; replace R0 := cell_keep hb R0; replace R1 := cell_keep hb R1; replace R2 := cell_keep hb R2; replace R3 := cell_keep hb R3)
  have hs1 := HB1.size
  have hk1 : w.heap.size + 1 + 1 < w1.heap.size := World.block_lt_of_cell? _ _ R0
  clear hb HB0 hfx hfy hfq
  go_upto_region 2 with fail
  (refine wp_name ?_; intro w2 hw2; have M0' : w2.cell? ⟨w1.heap.size, 0, none⟩ = some (.bool gx) := (by rw [hw2]; first | assumption | (simp [go_sem]; done) | (simp [*, go_sem]; done)); have M1' : w2.cell? ⟨w1.heap.size, 1, none⟩ = some (.slice ax nx cx) := (by rw [hw2]; first | assumption | (simp [go_sem]; done) | (simp [*, go_sem]; done)); have M2' : w2.cell? ⟨w1.heap.size, 2, none⟩ = some (.bool gy) := (by rw [hw2]; first | assumption | (simp [go_sem]; done) | (simp [*, go_sem]; done)); have M3' : w2.cell? ⟨w1.heap.size, 3, none⟩ = some (.slice ay ny cy) := (by rw [hw2]; first | assumption | (simp [go_sem]; done) | (simp [*, go_sem]; done)); have L0' : w2.cell? ⟨w1.heap.size + 1, 0, none⟩ = some (.bool gq) := (by rw [hw2]; first | assumption | (simp [go_sem]; done) | (simp [*, go_sem]; done)); have L1' : w2.cell? ⟨w1.heap.size + 1, 1, none⟩ = some (.slice aq nq cq) := (by rw [hw2]; first | assumption | (simp [go_sem]; done) | (simp [*, go_sem]; done)); have M0 := M0'; clear M0'; have M1 := M1'; clear M1'; have M2 := M2'; clear M2'; have M3 := M3'; clear M3'; have L0 := L0'; clear L0'; have L1 := L1'; clear L1')
  have hb12 : Below w1.heap.size w1 w2 := by rw [hw2]; go_grown
  have hs12 : w1.heap.size < w2.heap.size := by rw [hw2]; simp; omega
  (replace Rf0 := (Below.frozen hb12 (World.block_lt_of_cell? _ _ R0)).trans Rf0; replace Rf1 := (Below.frozen hb12 (World.block_lt_of_cell? _ _ R1)).trans Rf1; replace Rf2 := (Below.frozen hb12 (World.block_lt_of_cell? _ _ R2)).trans Rf2; replace Rf3 := (Below.frozen hb12 (World.block_lt_of_cell? _ _ R3)).trans Rf3; replace R0 := cell_keep hb12 R0; replace R1 := cell_keep hb12 R1; replace R2 := cell_keep hb12 R2; replace R3 := cell_keep hb12 R3)
  have HB2 := HB1.trans (hb12.mono hs1)
  have hx2 := hx.keep hb12
  have hy2 := hy.keep hb12
  have hq2 := hq.keep hb12
  obtain ⟨M, hM⟩ : ∃ M, M = w1.heap.size := ⟨_, rfl⟩
  rw [← hM] at M0 M1 M2 M3 L0 L1 ⊢
  have hMr : w.heap.size + 1 + 1 < M := by omega
  have hq3 : nq ≤ n2 + n4 := by have h1 := hq2.rd.len; have := HQL.out; omega
  clear hw2 hb12 HB1 hM hx hy hq hs12
  have hk2 : w.heap.size + 1 + 1 + 1 ≤ w2.heap.size := World.block_lt_of_cell? _ _ R0
  have HB := Below.refl w2.heap.size w2
  go_region_held3 (fun W => W.cell? ⟨M, 0, none⟩ = some (.bool gx) ∧ W.cell? ⟨M, 1, none⟩ = some (.slice ax nx cx) ∧ W.cell? ⟨M, 2, none⟩ = some (.bool gy) ∧ W.cell? ⟨M, 3, none⟩ = some (.slice ay ny cy) ∧ W.cell? ⟨M + 1, 0, none⟩ = some (.bool gq) ∧ W.cell? ⟨M + 1, 1, none⟩ = some (.slice aq nq cq)) (first | ((try dsimp only); (repeat' apply And.intro); all_goals (first | (with_reducible assumption) | (go_keep; done) | (simp [*, go_sem]; done)))) (first
    | (go_at_call 226; (with_reducible refine (HCL.out _ _ _ _ _ _ _ _ _ (HB2.trans ((by first | assumption | go_grown : Below w2.heap.size w2 _).mono HB2.size)) (hx2.keep (by first | assumption | go_grown)) (hy2.keep (by first | assumption | go_grown))).mono ?_); rintro e w3 ⟨gd, ad, nd, cd, rfl, hd, hfd, hb⟩; replace HB : Below w2.heap.size w2 w3 := Below.trans (by first | assumption | go_grown) (hb.mono (by go_size)); have hsz := HB.size; (replace Rf0 := (Below.frozen HB (World.block_lt_of_cell? _ _ R0)).trans Rf0; replace Rf1 := (Below.frozen HB (World.block_lt_of_cell? _ _ R1)).trans Rf1; replace Rf2 := (Below.frozen HB (World.block_lt_of_cell? _ _ R2)).trans Rf2; replace Rf3 := (Below.frozen HB (World.block_lt_of_cell? _ _ R3)).trans Rf3; replace M0 := cell_keep HB M0; replace M1 := cell_keep HB M1; replace M2 := cell_keep HB M2; replace M3 := cell_keep HB M3; replace L0 := cell_keep HB L0; replace L1 := cell_keep HB L1; replace R0 := cell_keep HB R0; replace R1 := cell_keep HB R1; replace R2 := cell_keep HB R2; replace R3 := cell_keep HB R3); have hdl : nd < 35184372088829 := (by have h1 := hd.rd.len; have := HDL.out; omega))
    | (go_at_call 224; (with_reducible refine (lowest_c _ _ _ _ _ D (hd.keep (by first | exact Below.refl _ _ | assumption | go_grown)) _ _ _ _ (q * q') (hq2.keep (by first | assumption | go_grown)) HQQ.out (by omega) (by omega)).mono ?_); rintro e w4 ⟨ge, ae, ne, ce, gf, af, nf, cf, rfl, hr, hfe, hff, hb4⟩; have hb34 : Below w3.heap.size w3 w4 := Below.trans (by first | assumption | go_grown) (hb4.mono (by go_size)); replace HB : Below w2.heap.size w2 w4 := Below.trans HB (hb34.mono (by go_size)); have hsz4 := HB.size; (replace Rf0 := (Below.frozen hb34 (World.block_lt_of_cell? _ _ R0)).trans Rf0; replace Rf1 := (Below.frozen hb34 (World.block_lt_of_cell? _ _ R1)).trans Rf1; replace Rf2 := (Below.frozen hb34 (World.block_lt_of_cell? _ _ R2)).trans Rf2; replace Rf3 := (Below.frozen hb34 (World.block_lt_of_cell? _ _ R3)).trans Rf3; replace M0 := cell_keep hb34 M0; replace M1 := cell_keep hb34 M1; replace M2 := cell_keep hb34 M2; replace M3 := cell_keep hb34 M3; replace L0 := cell_keep hb34 L0; replace L1 := cell_keep hb34 L1; replace R0 := cell_keep hb34 R0; replace R1 := cell_keep hb34 R1; replace R2 := cell_keep hb34 R2; replace R3 := cell_keep hb34 R3)))
  all_goals
    have fe : Fresh (w.heap.size + 1 + 1 + 1) w4 ae ce := hfe.mono (by go_size)
    have ff : Fresh (w.heap.size + 1 + 1 + 1) w4 af cf := hff.mono (by go_size)
    have u2 : w.heap.size + 1 + 1 < w.heap.size + 1 + 1 + 1 := Nat.lt_succ_self _
    have HW := HB2.trans (HB.mono HB2.size)
    go_wp2_with fail
    refine bodyPost_ret (v := .agg #[.bool ge, .slice ae ne ce, .bool gf, .slice af nf cf]) (by simp [results, Tryz.results172, go_sem, R0, R1, R2, R3]) rfl ?_
    refine ⟨ge, ae, ne, ce, gf, af, nf, cf, rfl, ⟨?_, ?_, hr.pos, hr.red⟩, ?_, ?_, by go_grown⟩
    · exact hr.top.set4 fe _ _ _ _ _ _ _ _ u2 u2 u2 u2
    · exact hr.low.set4 ff _ _ _ _ _ _ _ _ u2 u2 u2 u2
    · exact (fe.set4 _ _ _ _ _ _ _ _ u2 u2 u2 u2).mono (by omega)
    · exact (ff.set4 _ _ _ _ _ _ _ _ u2 u2 u2 u2).mono (by omega)
end Go.Proofs.YtdamegaedmckbaaGreatDoor
end
