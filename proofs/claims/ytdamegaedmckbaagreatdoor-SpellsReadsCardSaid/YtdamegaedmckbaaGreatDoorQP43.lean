/- A book: a list is kept. -/
import Derived.Test.YtdamegaedmckbaaGreatDoorQP42
set_option linter.unusedSimpArgs false
set_option linter.unusedVariables false
set_option maxRecDepth 100000
set_option maxHeartbeats 4000000
section
namespace Go.Proofs.YtdamegaedmckbaaGreatDoor
open Go.RowKit
theorem cY : (Tryz.prog.info? 144).map (fun i => (i.zero, i.size, i.bytes)) = some (some (.agg #[.slice none 0 0, .slice none 0 0, .int .i64 0]), 3, 56) := by kernel_rfl
theorem eA : (Tryz.prog.info? 139).map (fun i => (i.zero, i.size, i.bytes)) = some (some (.agg #[.slice none 0 0, .slice none 0 0, .int .i64 0]), 3, 56) := by kernel_rfl
theorem Gn {w : World} {B o : Nat} {v u : Value} {e : TypeId} {s n : Nat} {xs : List Value} (h : w.ownsRow (B + 1) e s v n xs) : (w.setCell ⟨B, o, none⟩ u).ownsRow (B + 1) e s v n xs := by
 refine ⟨h.1, h.2.imp id fun ⟨g, cap, cur, h1, h2, h3, h4⟩ => ⟨g, cap, cur, h1, h2, ?_, h4⟩⟩
 rw [Below.heap_setCell w _ u g (by show g ≠ B; omega)]
 exact h3
theorem I0 {w : World} {B : Nat} {e : TypeId} {s : Nat} {v : Value} {n : Nat} {xs : List Value} (h : w.ownsRow (B + 1) e s v n xs) : ∀ k, v.ownBlock = some k → B < k := by
 exact qDy
theorem J0 {w : World} {b b' : Nat} {e e' : TypeId} {s s' : Nat} {v v' : Value} {n n' : Nat} {xs xs' : List Value} (h : w.ownsRow b e s v n xs) (h' : w.ownsRow b' e' s' v' n' xs') (hne : e ≠ e') : v.ownBlock = none ∨ v.ownBlock ≠ v'.ownBlock := by
 rcases h.2 with ⟨rfl, _⟩ | ⟨g, cap, cur, rfl, _, h3, _⟩
 ·exact .inl rfl
 ·refine .inr fun e1 => ?_
  rcases h'.2 with ⟨rfl, _⟩ | ⟨g', cap', cur', rfl, _, h3', _⟩
  ·cases e1
  ·simp only [Value.ownBlock, Option.some.injEq] at e1
   subst e1
   rw [h3'] at h3
   simp only [Option.some.injEq, Obj.cells.injEq] at h3
   exact hne h3.2.1.symm
theorem Kt {w : World} {B : Nat} {e : TypeId} {s : Nat} {v : Value} {n : Nat} {xs : List Value} (h : w.ownsRow B e s v n xs) (he : e = 144 ∨ e = 139) : ∀ k, v.ownBlock = some k → ∃ cur e fz, w.heap[k]? = some (.cells cur e fz) ∧ (e = 144 ∨ e = 139) := by
 rcases h.2 with ⟨rfl, _⟩ | ⟨g, cap, cur, rfl, hg, h3, _⟩
 ·intro k hk; cases hk
 ·intro k hk
  simp only [Value.ownBlock, Option.some.injEq] at hk
  subst hk
  exact ⟨cur, e, (0, 0), h3, he⟩
theorem Vh (w : World) (p q : Addr) (u : Value) : (w.setCell p u).frozen? q = w.frozen? q := by simp
theorem Js {w w1 : World} {B j : Nat} {u v v' x0 : Value} {o : Obj} {row : Option Nat} (h0 : w.cell? ⟨B, 0, none⟩ = some x0) (h2 : w.cell? ⟨B, j, none⟩ = some v) (hg : (((w.setCell ⟨B, 0, none⟩ u).alloc o).drew).grownBy w1 row) (hne : ∀ k, row = some k → B < k) (hty : ∀ k, row = some k → ∃ cur e fz, w.heap[k]? = some (.cells cur e fz) ∧ (e = 144 ∨ e = 139)) (hj : j ≠ 0) :
  Dy B w (w1.setCell ⟨B, j, none⟩ v') ∧ (∀ i, i ≠ j → i ≠ 0 → (w1.setCell ⟨B, j, none⟩ v').cell? ⟨B, i, none⟩ = w.cell? ⟨B, i, none⟩) ∧ (w1.setCell ⟨B, j, none⟩ v').cell? ⟨B, 0, none⟩ = some u ∧ (w1.setCell ⟨B, j, none⟩ v').cell? ⟨B, j, none⟩ = some v' ∧ ∀ i, (w1.setCell ⟨B, j, none⟩ v').frozen? ⟨B, i, none⟩ = w.frozen? ⟨B, i, none⟩ := by
 have hB : B < w.heap.size := Aa _ _ h0
 have hBl : B < (World.heap (((w.setCell ⟨B, 0, none⟩ u).alloc o).drew)).size := by simp; omega
 have hb := hg.block B hBl (fun e => by have := hne _ e.symm; omega)
 have hc : ∀ i, w1.cell? ⟨B, i, none⟩ = (w.setCell ⟨B, 0, none⟩ u).cell? ⟨B, i, none⟩ := fun i => (Af (a := ⟨B, i, none⟩) hb).trans (by simp [go_sem, hB])
 have hf : ∀ i, w1.frozen? ⟨B, i, none⟩ = w.frozen? ⟨B, i, none⟩ := fun i => (World.frozen?_of_block (a := ⟨B, i, none⟩) hb).trans (by simp [go_sem, hB])
 have hc0 : w1.cell? ⟨B, 0, none⟩ = some u := (hc 0).trans qN
 have hcj : w1.cell? ⟨B, j, none⟩ = some v := (hc j).trans (by rw [← h2]; exact World.cell?_setCell_other (w := w) (a := ⟨B, 0, none⟩) (b := ⟨B, j, none⟩) _ (by intro e; injection e with e1 e2; exact hj e2.symm))
 have hkk : ∀ k, k < w.heap.size → k ≠ B → some k ≠ row → (w1.setCell ⟨B, j, none⟩ v').heap[k]? = w.heap[k]? := fun k hk hkB hkr => by
  rw [Below.heap_setCell _ _ _ _ hkB, hg.block k qL hkr]
  show ((w.setCell ⟨B, 0, none⟩ u).alloc o).heap[k]? = _
  rw [Below.heap_alloc _ _ _ qL, Below.heap_setCell _ _ _ _ hkB]
 refine ⟨⟨⟨hg.os, hg.tape, hg.output, ?_, fun k hk => hkk k qB qB (fun e => by have := hne _ e.symm; omega)⟩, fun k hk hkB ht => hkk k hk hkB fun e => ?_⟩, fun i hi hi0 => ?_, ?_, ?_, fun i => ?_⟩
 ·have := hg.size; simp at this ⊢; omega
 ·obtain ⟨cur, e', fz, h1, h2⟩ := hty k e.symm
  exact h2.elim (ht _ _ _ h1).1 (ht _ _ _ h1).2
 ·rw [World.cell?_setCell_other (w := w1) (a := ⟨B, j, none⟩) (b := ⟨B, i, none⟩) _ (by intro e; injection e with e1 e2; exact hi e2.symm), hc i, World.cell?_setCell_other (w := w) (a := ⟨B, 0, none⟩) (b := ⟨B, i, none⟩) _ (by intro e; injection e with e1 e2; exact hi0 e2.symm)]
 ·rw [World.cell?_setCell_other (w := w1) (a := ⟨B, j, none⟩) (b := ⟨B, 0, none⟩) _ (by intro e; injection e with e1 e2; exact hj e2)]
  exact hc0
 ·simp [*, go_sem]
 ·rw [Vh]; exact hf i
theorem Lg {w w' : World} {e : TypeId} {s B0 B : Nat} {R : List (Hl × Value)} (hR : ∀ p ∈ R, Cx w e s B0 B p.1) (hb : Below B w w') : ∀ p ∈ R, Cx w' e s B0 B p.1 := fun p hp => (hR p hp).kept fun h0 => hb.block _ ((hR p hp).lt h0)
theorem V3 {R : List (Hl × Value)} {q : Hl × Value} (h : R.Pairwise C6) (hq : ∀ p ∈ R, C6 p q) : (R ++ [q]).Pairwise C6 :=
 List.pairwise_append.2 ⟨h, by simp, fun p hp u hu => by simp only [Ao] at hu; subst hu; exact hq p hp⟩
theorem Vc (w : World) (B0 B N : Nat) (Rl Rt : List (Hl × Value)) (h : Bx w B0 B N Rl Rt) (q : Hl) (hq : Cx w 112 1 B0 B q) (hap : ∀ p ∈ Rl, C6 p (q, .slice none 0 0)) (hm : q.m = N + 1) (hN : N < 1000000000) (hk : Rl.length < 1000000000) :
  Calls Tryz.prog 296 #[.pointer (some ⟨B, 0, none⟩), .slice q.a q.n q.c] w fun e w' => e = .returned (.tuple #[]) ∧ Bx w' B0 B (N + 1) (Rl ++ [(q, .slice none 0 0)]) Rt ∧ Dy B w w' := by
 obtain ⟨i0, hi, hz0, hz1, hz2⟩ := info_parts cY
 obtain ⟨vl, h2, hown⟩ := h.l
 have HB := Ae h
 have h0 := h.c0
 have f0 := h.fz 0
 have f2 := h.fz 2
 obtain ⟨a, bq, n, c, m⟩ := q
 obtain rfl : m = N + 1 := hm
 clear h
 go_enter Tryz.func296, Tryz.ntmps296
 go_wp2_with fail
 have q0 : (w.setCell ⟨B, 0, none⟩ (.int .i64 ((N : Int) + 1))).cell? ⟨B, 0, none⟩ = some (.int .i64 ((N : Int) + 1)) := by simp [*, go_sem]
 have q2 : (w.setCell ⟨B, 0, none⟩ (.int .i64 ((N : Int) + 1))).cell? ⟨B, 2, none⟩ = some vl := by simp [*, go_sem]
 have hKw : B < w.heap.size := Aa _ _ h0
 have hne := I0 hown
 have hown' : World.ownsRow ((w.setCell ⟨B, 0, none⟩ (.int .i64 ((N : Int) + 1))).alloc (.cells #[.slice a n c, .slice none 0 0, .int .i64 ((N : Int) + 1)] 144)).drew (B + 1) 144 3 vl (Rl).length (Cw Rl) := Bm (Gn hown) qF
 have p0 : World.cell? ((w.setCell ⟨B, 0, none⟩ (.int .i64 ((N : Int) + 1))).alloc (.cells #[.slice a n c, .slice none 0 0, .int .i64 ((N : Int) + 1)] 144)).drew ⟨B, 0, none⟩ = some (.int .i64 ((N : Int) + 1)) := by simp [*, go_sem]
 have p2 : World.cell? ((w.setCell ⟨B, 0, none⟩ (.int .i64 ((N : Int) + 1))).alloc (.cells #[.slice a n c, .slice none 0 0, .int .i64 ((N : Int) + 1)] 144)).drew ⟨B, 2, none⟩ = some vl := by simp [*, go_sem]
 have g2 : World.frozen? ((w.setCell ⟨B, 0, none⟩ (.int .i64 ((N : Int) + 1))).alloc (.cells #[.slice a n c, .slice none 0 0, .int .i64 ((N : Int) + 1)] 144)).drew ⟨B, 2, none⟩ = false := by simp [*, go_sem]
 have hBl : B < (World.heap ((w.setCell ⟨B, 0, none⟩ (.int .i64 ((N : Int) + 1))).alloc (.cells #[.slice a n c, .slice none 0 0, .int .i64 ((N : Int) + 1)] 144)).drew).size := by simp; omega
 refine Cg (fun W => W.cell? ⟨B, 2, none⟩ = some vl ∧ W.cell? ⟨B, 0, none⟩ = some (.int .i64 ((N : Int) + 1))) 15 qG qK (fun hHeld => ?_)
 (refine Bf.take 15 (i := 0) (v := ?_) rfl qG (fun _ _ _ h => h) (Or.inl ⟨by rfl, ?_⟩) qI ?_; rotate_left; (focus (intro w' hSw; (try dsimp only at hSw); go_simp; (try with_reducible rfl))); (try simp only [Act.put, List.setIfInBounds_toArray, List.set_cons_zero, List.set_cons_succ]))
 (refine Bf.take 15 (i := 1) (v := ?_) rfl qG (fun _ _ _ h => h) (Or.inl ⟨by rfl, ?_⟩) qI ?_; rotate_left; (focus (intro w' hSw; (try dsimp only at hSw); go_simp; (try with_reducible rfl))); (try simp only [Act.put, List.setIfInBounds_toArray, List.set_cons_zero, List.set_cons_succ]))
 (refine Bf.take 15 (i := 2) (v := ?_) rfl qG (fun _ _ _ h => h) (Or.inl ⟨by rfl, ?_⟩) qI ?_; rotate_left; (focus (intro w' hSw; (try dsimp only at hSw); go_simp; (try with_reducible rfl))); (try simp only [Act.put, List.setIfInBounds_toArray, List.set_cons_zero, List.set_cons_succ]))
 (refine Bf.take 15 (i := 3) (v := ?_) rfl qG (fun _ _ _ h => h) (Or.inl ⟨by rfl, ?_⟩) qI ?_; rotate_left; (focus (intro w' hSw; (try dsimp only at hSw); go_simp; (try with_reducible rfl))); (try simp only [Act.put, List.setIfInBounds_toArray, List.set_cons_zero, List.set_cons_succ]))
 (refine Bf.take 15 (i := 4) (v := ?_) rfl qG (fun _ _ _ h => h) (Or.inl ⟨by rfl, ?_⟩) qI ?_; rotate_left; (focus (intro w' hSw; (try dsimp only at hSw); go_simp; (try with_reducible rfl))); (try simp only [Act.put, List.setIfInBounds_toArray, List.set_cons_zero, List.set_cons_succ]))
 (refine Bf.take 15 (i := 5) (v := ?_) rfl qG (fun _ _ _ h => h) (Or.inl ⟨by rfl, ?_⟩) qI ?_; rotate_left; (focus (intro w' hSw; (try dsimp only at hSw); go_simp; (try with_reducible rfl))); (try simp only [Act.put, List.setIfInBounds_toArray, List.set_cons_zero, List.set_cons_succ]))
 (refine Bf.take 15 (i := 6) (v := ?_) rfl qG (fun _ _ _ h => h) (Or.inl ⟨by rfl, ?_⟩) qI ?_; rotate_left; (focus (intro w' hSw; (try dsimp only at hSw); go_simp; (try with_reducible rfl))); (try simp only [Act.put, List.setIfInBounds_toArray, List.set_cons_zero, List.set_cons_succ]))
 (refine Bf.take 15 (i := 7) (v := ?_) rfl qG (fun _ _ _ h => h) (Or.inl ⟨by rfl, ?_⟩) qI ?_; rotate_left; (focus (intro w' hSw; (try dsimp only at hSw); go_simp; (try with_reducible rfl))); (try simp only [Act.put, List.setIfInBounds_toArray, List.set_cons_zero, List.set_cons_succ]))
 (refine Bf.take 15 (i := 8) (v := ?_) rfl qG (fun _ _ _ h => h) (Or.inl ⟨by rfl, ?_⟩) qI ?_; rotate_left; (focus (intro w' hSw; (try dsimp only at hSw); go_simp; (try with_reducible rfl))); (try simp only [Act.put, List.setIfInBounds_toArray, List.set_cons_zero, List.set_cons_succ]))
 (refine Bf.take 15 (i := 9) (v := ?_) rfl qG (fun _ _ _ h => h) (Or.inl ⟨by rfl, ?_⟩) qI ?_; rotate_left; (focus (intro w' hSw; (try dsimp only at hSw); go_simp; (try with_reducible rfl))); (try simp only [Act.put, List.setIfInBounds_toArray, List.set_cons_zero, List.set_cons_succ]))
 (refine Bf.take 15 (i := 10) (v := ?_) rfl qG (fun _ _ _ h => h) (Or.inl ⟨by rfl, ?_⟩) qI ?_; rotate_left; (focus (intro w' hSw; (try dsimp only at hSw); go_simp; (try with_reducible rfl))); (try simp only [Act.put, List.setIfInBounds_toArray, List.set_cons_zero, List.set_cons_succ]))
 (refine Bf.one (i := 11) rfl qG (fun K hK => ?_); go_simp; skip; (try go_wp2_with fail); refine hK.out _ _ (fun _ => qK) ?_; clear hK K; (try simp only [Act.put, List.setIfInBounds_toArray, List.set_cons_zero, List.set_cons_succ]))
 (refine Bf.one (i := 12) rfl qG (fun K hK => ?_); refine step_append_lies _ qP _ _ _ qP (B + 1) 144 i0 _ 3 56 Tryz.underlying33 hi hz0 hz1 hz2 rfl qC vl (Rl).length (Cw Rl) qP hown' ⟨w.heap.size, 0, none⟩ 1 1 [.slice a n c, .slice none 0 0, .int .i64 ((N : Int) + 1)] qJ qP (fun j u h => by have := Ep (w.setCell ⟨B, 0, none⟩ (.int .i64 ((N : Int) + 1))) _ 144 j u h; simpa using this) (by simp [Value.oneCell']) qC qO qB qL _ rfl ?_; intro g cap w1 hown1 hgrow1 hat1 hlt1; have r0 := hgrow1.cell p0 (fun e => by have := hne _ e.symm; simp at this); have r2 := hgrow1.cell p2 (fun e => by have := hne _ e.symm; simp at this); have fz : w1.frozen? ⟨B, 2, none⟩ = false := (World.frozen?_of_block (a := ⟨B, 2, none⟩) (hgrow1.block B hBl (fun e => by have := hne _ e.symm; simp at this))).trans g2; refine hK.out _ _ (fun _ => qK) ?_; clear hK K; (try simp only [Act.put, List.setIfInBounds_toArray, List.set_cons_zero, List.set_cons_succ]))
 (refine Bf.one (i := 13) rfl qG (fun K hK => ?_); go_simp; skip; (try go_wp2_with fail); refine hK.out _ _ (fun _ => qK) ?_; clear hK K; (try simp only [Act.put, List.setIfInBounds_toArray, List.set_cons_zero, List.set_cons_succ]))
 (refine Bf.one (i := 14) rfl qG (fun K hK => ?_); go_simp; skip; (try go_wp2_with fail); refine hK.out _ _ (fun _ => qK) ?_; clear hK K; (try simp only [Act.put, List.setIfInBounds_toArray, List.set_cons_zero, List.set_cons_succ]))
 (refine Bf.one (i := 15) rfl qG (fun K hK => ?_); go_simp; refine hK.out _ _ (fun h => absurd h qC) ?_; clear hK K; (try simp only [Act.put, List.setIfInBounds_toArray, List.set_cons_zero, List.set_cons_succ]))
 refine Bf.done qG ?_ _
 refine bodyPost_end (v := .tuple #[]) (by simp [results, Tryz.results296, go_sem]) rfl ⟨rfl, ?_, ?_⟩
 ·obtain ⟨hb, hci, h00, hjj, hfi⟩ := Js (v' := .slice (some ⟨g, 0, none⟩) (Rl.length + 1) cap) h0 h2 hgrow1 hne (Kt hown qC) qC
  have HL := Lg HB.out.hl hb.b
  have HT := Lg HB.out.ht hb.b
  refine ⟨h00, fun i hi => (hci i qB qB).trans (HB.out.nl i hi), fun i => (hfi i).trans (HB.out.fz i), ⟨_, hjj, ?_⟩, ?_, ?_, HT, V3 HB.out.al hap, HB.out.at'⟩
  ·rw [Jw, List.length_append]
   exact Gn hown1
  ·obtain ⟨vt, t1, t2⟩ := HB.out.t
   exact ⟨vt, (hci 6 qC qC).trans t1, Gn ((Bm (Gn t2) qF).kept hgrow1 (J0 t2 hown qC))⟩
  ·intro p hp
   rcases List.mem_append.1 hp with hp | hp
   ·exact HL p hp
   ·simp only [Ao] at hp
    subst hp
    exact hq.kept fun hc0 => hb.b.block _ (hq.lt hc0)
 ·exact (Js h0 h2 hgrow1 hne (Kt hown qC) qC).1
theorem Ut (w : World) (B0 B N : Nat) (Rl Rt : List (Hl × Value)) (h : Bx w B0 B N Rl Rt) (q : Hl) (hq : Cx w 68 8 B0 B q) (hap : ∀ p ∈ Rt, C6 p (q, .slice none 0 0)) (hm : q.m = N + 1) (hN : N < 1000000000) (hk : Rt.length < 1000000000) :
  Calls Tryz.prog 54 #[.pointer (some ⟨B, 0, none⟩), .slice q.a q.n q.c] w fun e w' => e = .returned (.tuple #[]) ∧ Bx w' B0 B (N + 1) Rl (Rt ++ [(q, .slice none 0 0)]) ∧ Dy B w w' := by
 obtain ⟨i0, hi, hz0, hz1, hz2⟩ := info_parts eA
 obtain ⟨vl, h2, hown⟩ := h.t
 have HB := Ae h
 have h0 := h.c0
 have f0 := h.fz 0
 have f2 := h.fz 6
 obtain ⟨a, bq, n, c, m⟩ := q
 obtain rfl : m = N + 1 := hm
 clear h
 go_enter Tryz.func54, Tryz.ntmps54
 go_wp2_with fail
 have q0 : (w.setCell ⟨B, 0, none⟩ (.int .i64 ((N : Int) + 1))).cell? ⟨B, 0, none⟩ = some (.int .i64 ((N : Int) + 1)) := by simp [*, go_sem]
 have q2 : (w.setCell ⟨B, 0, none⟩ (.int .i64 ((N : Int) + 1))).cell? ⟨B, 6, none⟩ = some vl := by simp [*, go_sem]
 have hKw : B < w.heap.size := Aa _ _ h0
 have hne := I0 hown
 have hown' : World.ownsRow ((w.setCell ⟨B, 0, none⟩ (.int .i64 ((N : Int) + 1))).alloc (.cells #[.slice a n c, .slice none 0 0, .int .i64 ((N : Int) + 1)] 139)).drew (B + 1) 139 3 vl (Rt).length (Cw Rt) := Bm (Gn hown) qF
 have p0 : World.cell? ((w.setCell ⟨B, 0, none⟩ (.int .i64 ((N : Int) + 1))).alloc (.cells #[.slice a n c, .slice none 0 0, .int .i64 ((N : Int) + 1)] 139)).drew ⟨B, 0, none⟩ = some (.int .i64 ((N : Int) + 1)) := by simp [*, go_sem]
 have p2 : World.cell? ((w.setCell ⟨B, 0, none⟩ (.int .i64 ((N : Int) + 1))).alloc (.cells #[.slice a n c, .slice none 0 0, .int .i64 ((N : Int) + 1)] 139)).drew ⟨B, 6, none⟩ = some vl := by simp [*, go_sem]
 have g2 : World.frozen? ((w.setCell ⟨B, 0, none⟩ (.int .i64 ((N : Int) + 1))).alloc (.cells #[.slice a n c, .slice none 0 0, .int .i64 ((N : Int) + 1)] 139)).drew ⟨B, 6, none⟩ = false := by simp [*, go_sem]
 have hBl : B < (World.heap ((w.setCell ⟨B, 0, none⟩ (.int .i64 ((N : Int) + 1))).alloc (.cells #[.slice a n c, .slice none 0 0, .int .i64 ((N : Int) + 1)] 139)).drew).size := by simp; omega
 refine Cg (fun W => W.cell? ⟨B, 6, none⟩ = some vl ∧ W.cell? ⟨B, 0, none⟩ = some (.int .i64 ((N : Int) + 1))) 15 qG qK (fun hHeld => ?_)
 (refine Bf.take 15 (i := 0) (v := ?_) rfl qG (fun _ _ _ h => h) (Or.inl ⟨by rfl, ?_⟩) qI ?_; rotate_left; (focus (intro w' hSw; (try dsimp only at hSw); go_simp; (try with_reducible rfl))); (try simp only [Act.put, List.setIfInBounds_toArray, List.set_cons_zero, List.set_cons_succ]))
 (refine Bf.take 15 (i := 1) (v := ?_) rfl qG (fun _ _ _ h => h) (Or.inl ⟨by rfl, ?_⟩) qI ?_; rotate_left; (focus (intro w' hSw; (try dsimp only at hSw); go_simp; (try with_reducible rfl))); (try simp only [Act.put, List.setIfInBounds_toArray, List.set_cons_zero, List.set_cons_succ]))
 (refine Bf.take 15 (i := 2) (v := ?_) rfl qG (fun _ _ _ h => h) (Or.inl ⟨by rfl, ?_⟩) qI ?_; rotate_left; (focus (intro w' hSw; (try dsimp only at hSw); go_simp; (try with_reducible rfl))); (try simp only [Act.put, List.setIfInBounds_toArray, List.set_cons_zero, List.set_cons_succ]))
 (refine Bf.take 15 (i := 3) (v := ?_) rfl qG (fun _ _ _ h => h) (Or.inl ⟨by rfl, ?_⟩) qI ?_; rotate_left; (focus (intro w' hSw; (try dsimp only at hSw); go_simp; (try with_reducible rfl))); (try simp only [Act.put, List.setIfInBounds_toArray, List.set_cons_zero, List.set_cons_succ]))
 (refine Bf.take 15 (i := 4) (v := ?_) rfl qG (fun _ _ _ h => h) (Or.inl ⟨by rfl, ?_⟩) qI ?_; rotate_left; (focus (intro w' hSw; (try dsimp only at hSw); go_simp; (try with_reducible rfl))); (try simp only [Act.put, List.setIfInBounds_toArray, List.set_cons_zero, List.set_cons_succ]))
 (refine Bf.take 15 (i := 5) (v := ?_) rfl qG (fun _ _ _ h => h) (Or.inl ⟨by rfl, ?_⟩) qI ?_; rotate_left; (focus (intro w' hSw; (try dsimp only at hSw); go_simp; (try with_reducible rfl))); (try simp only [Act.put, List.setIfInBounds_toArray, List.set_cons_zero, List.set_cons_succ]))
 (refine Bf.take 15 (i := 6) (v := ?_) rfl qG (fun _ _ _ h => h) (Or.inl ⟨by rfl, ?_⟩) qI ?_; rotate_left; (focus (intro w' hSw; (try dsimp only at hSw); go_simp; (try with_reducible rfl))); (try simp only [Act.put, List.setIfInBounds_toArray, List.set_cons_zero, List.set_cons_succ]))
 (refine Bf.take 15 (i := 7) (v := ?_) rfl qG (fun _ _ _ h => h) (Or.inl ⟨by rfl, ?_⟩) qI ?_; rotate_left; (focus (intro w' hSw; (try dsimp only at hSw); go_simp; (try with_reducible rfl))); (try simp only [Act.put, List.setIfInBounds_toArray, List.set_cons_zero, List.set_cons_succ]))
 (refine Bf.take 15 (i := 8) (v := ?_) rfl qG (fun _ _ _ h => h) (Or.inl ⟨by rfl, ?_⟩) qI ?_; rotate_left; (focus (intro w' hSw; (try dsimp only at hSw); go_simp; (try with_reducible rfl))); (try simp only [Act.put, List.setIfInBounds_toArray, List.set_cons_zero, List.set_cons_succ]))
 (refine Bf.take 15 (i := 9) (v := ?_) rfl qG (fun _ _ _ h => h) (Or.inl ⟨by rfl, ?_⟩) qI ?_; rotate_left; (focus (intro w' hSw; (try dsimp only at hSw); go_simp; (try with_reducible rfl))); (try simp only [Act.put, List.setIfInBounds_toArray, List.set_cons_zero, List.set_cons_succ]))
 (refine Bf.take 15 (i := 10) (v := ?_) rfl qG (fun _ _ _ h => h) (Or.inl ⟨by rfl, ?_⟩) qI ?_; rotate_left; (focus (intro w' hSw; (try dsimp only at hSw); go_simp; (try with_reducible rfl))); (try simp only [Act.put, List.setIfInBounds_toArray, List.set_cons_zero, List.set_cons_succ]))
 (refine Bf.one (i := 11) rfl qG (fun K hK => ?_); go_simp; skip; (try go_wp2_with fail); refine hK.out _ _ (fun _ => qK) ?_; clear hK K; (try simp only [Act.put, List.setIfInBounds_toArray, List.set_cons_zero, List.set_cons_succ]))
 (refine Bf.one (i := 12) rfl qG (fun K hK => ?_); refine step_append_lies _ qP _ _ _ qP (B + 1) 139 i0 _ 3 56 Tryz.underlying37 hi hz0 hz1 hz2 rfl qC vl (Rt).length (Cw Rt) qP hown' ⟨w.heap.size, 0, none⟩ 1 1 [.slice a n c, .slice none 0 0, .int .i64 ((N : Int) + 1)] qJ qP (fun j u h => by have := Ep (w.setCell ⟨B, 0, none⟩ (.int .i64 ((N : Int) + 1))) _ 139 j u h; simpa using this) (by simp [Value.oneCell']) qC qO qB qL _ rfl ?_; intro g cap w1 hown1 hgrow1 hat1 hlt1; have r0 := hgrow1.cell p0 (fun e => by have := hne _ e.symm; simp at this); have r2 := hgrow1.cell p2 (fun e => by have := hne _ e.symm; simp at this); have fz : w1.frozen? ⟨B, 6, none⟩ = false := (World.frozen?_of_block (a := ⟨B, 6, none⟩) (hgrow1.block B hBl (fun e => by have := hne _ e.symm; simp at this))).trans g2; refine hK.out _ _ (fun _ => qK) ?_; clear hK K; (try simp only [Act.put, List.setIfInBounds_toArray, List.set_cons_zero, List.set_cons_succ]))
 (refine Bf.one (i := 13) rfl qG (fun K hK => ?_); go_simp; skip; (try go_wp2_with fail); refine hK.out _ _ (fun _ => qK) ?_; clear hK K; (try simp only [Act.put, List.setIfInBounds_toArray, List.set_cons_zero, List.set_cons_succ]))
 (refine Bf.one (i := 14) rfl qG (fun K hK => ?_); go_simp; skip; (try go_wp2_with fail); refine hK.out _ _ (fun _ => qK) ?_; clear hK K; (try simp only [Act.put, List.setIfInBounds_toArray, List.set_cons_zero, List.set_cons_succ]))
 (refine Bf.one (i := 15) rfl qG (fun K hK => ?_); go_simp; refine hK.out _ _ (fun h => absurd h qC) ?_; clear hK K; (try simp only [Act.put, List.setIfInBounds_toArray, List.set_cons_zero, List.set_cons_succ]))
 refine Bf.done qG ?_ _
 refine bodyPost_end (v := .tuple #[]) (by simp [results, Tryz.results54, go_sem]) rfl ⟨rfl, ?_, ?_⟩
 ·obtain ⟨hb, hci, h00, hjj, hfi⟩ := Js (v' := .slice (some ⟨g, 0, none⟩) (Rt.length + 1) cap) h0 h2 hgrow1 hne (Kt hown qC) qC
  have HL := Lg HB.out.hl hb.b
  have HT := Lg HB.out.ht hb.b
  refine ⟨h00, fun i hi => (hci i qB qB).trans (HB.out.nl i hi), fun i => (hfi i).trans (HB.out.fz i), ?_, ⟨_, hjj, ?_⟩, HL, ?_, HB.out.al, V3 HB.out.at' hap⟩
  ·obtain ⟨vt, t1, t2⟩ := HB.out.l
   exact ⟨vt, (hci 2 qC qC).trans t1, Gn ((Bm (Gn t2) qF).kept hgrow1 (J0 t2 hown qC))⟩
  ·rw [Jw, List.length_append]
   exact Gn hown1
  ·intro p hp
   rcases List.mem_append.1 hp with hp | hp
   ·exact HT p hp
   ·simp only [Ao] at hp
    subst hp
    exact hq.kept fun hc0 => hb.b.block _ (hq.lt hc0)
 ·exact (Js h0 h2 hgrow1 hne (Kt hown qC) qC).1
theorem aV (w : World) (C : Array Value) (e : TypeId) : (w.alloc (.cells C e)).heap[w.heap.size]? = some (.cells C e (0, 0)) := by
 show (w.heap.push _)[w.heap.size]? = _
 simp
abbrev hv (q : Hl) : Hl × Value := (q, .slice none 0 0)
theorem dW (w : World) (B0 B N : Nat) (Rl Rt : List (Hl × Value)) (h : Bx w B0 B N Rl Rt) (q : Hl) (hq : Cx w 112 1 B0 B q) (hap : ∀ p ∈ Rl, C6 p (hv q)) (hm : q.m = N + 1) (hN : N < 1000000000) (hk : Rl.length < 1000000000) :
  Calls Tryz.prog 255 #[.pointer (some ⟨B, 0, none⟩), .slice q.a q.n q.c] w fun e w' => e = .returned (.tuple #[]) ∧ Bx w' B0 B (N + 1) (Rl ++ [hv q]) Rt ∧ Dy B w w' := by
 go_enter Tryz.func255, Tryz.ntmps255
 go_wp2_with (first | (go_at_call 296; refine (Vc w B0 B N Rl Rt h q hq hap hm hN hk).mono ?_; rintro e w1 ⟨rfl, h1, hb1⟩))
 exact bodyPost_end (v := .tuple #[]) (by simp [results, Tryz.results255, go_sem]) rfl ⟨rfl, h1, hb1⟩
theorem Zp (w : World) (B0 B N : Nat) (Rl Rt : List (Hl × Value)) (h : Bx w B0 B N Rl Rt) (g : Bool) (q : Hl) (hq : Cx w 112 1 B0 B q) (hap : ∀ p ∈ Rl, C6 p (hv q)) (hm : q.m = N + 1) (hN : N < 1000000000) (hk : Rl.length < 1000000000) :
  Calls Tryz.prog 206 #[.pointer (some ⟨B, 0, none⟩), .agg #[.bool g, .slice q.a q.n q.c]] w fun e w' => e = .returned (.tuple #[]) ∧ Bx w' B0 B (N + 1) (Rl ++ [hv q]) Rt ∧ Dy B w w' := by
 have hBw : B ≤ w.heap.size := Nat.le_of_lt (Aa _ _ h.c0)
 go_enter Tryz.func206, Tryz.ntmps206
 go_wp2_with (first | (go_at_call 255; refine (dW _ B0 B N Rl Rt (h.keep qF) q (hq.keep qF) hap hm hN hk).mono ?_; rintro e w1 ⟨rfl, h1, hb0⟩; have hb1 : Dy B w w1 := (Dy.of (by go_grown : Below w.heap.size w _) hBw).trans hb0))
 exact bodyPost_end (v := .tuple #[]) (by simp [results, Tryz.results206, go_sem]) rfl ⟨rfl, h1, hb1⟩
theorem dS (w : World) (B0 B N : Nat) (Rl Rt : List (Hl × Value)) (h : Bx w B0 B N Rl Rt) (g g' : Bool) (q q' : Hl) (hq : Cx w 112 1 B0 B q) (hq' : Cx w 112 1 B0 B q') (hap : ∀ p ∈ Rl, C6 p (hv q)) (hap' : ∀ p ∈ Rl ++ [hv q], C6 p (hv q')) (hm : q.m = N + 1) (hm' : q'.m = N + 2) (hN : N < 500000000) (hk : Rl.length < 500000000) :
  Calls Tryz.prog 138 #[.pointer (some ⟨B, 0, none⟩), .agg #[.bool g, .slice q.a q.n q.c, .bool g', .slice q'.a q'.n q'.c]] w fun e w' => e = .returned (.tuple #[]) ∧ Bx w' B0 B (N + 2) (Rl ++ [hv q, hv q']) Rt ∧ Dy B w w' := by
 have HM' := Ae hm'
 clear hm'
 have hBw : B ≤ w.heap.size := Nat.le_of_lt (Aa _ _ h.c0)
 go_enter Tryz.func138, Tryz.ntmps138
 go_wp2_with fail
 refine (Zp _ B0 B N Rl Rt (h.keep qF) g q (hq.keep qF) hap hm qB qB).mono ?_
 rintro e w1 ⟨rfl, h1, hb0⟩
 have hb1 : Dy B w w1 := (Dy.of (by go_grown : Below w.heap.size w _) hBw).trans hb0
 have hx := hb0.box (g := w.heap.size) (cur := #[.bool g, .slice q.a q.n q.c, .bool g', .slice q'.a q'.n q'.c]) (e := 64) (fz := (0, 0)) (aV _ _ _) (Nat.ne_of_gt (Aa _ _ h.c0)) qC qC
 have x2 : w1.cell? ⟨w.heap.size, 2, none⟩ = some (.bool g') := by simp [World.cell?, hx]
 have x3 : w1.cell? ⟨w.heap.size, 3, none⟩ = some (.slice q'.a q'.n q'.c) := by simp [World.cell?, hx]
 go_wp2_with fail
 refine (Zp w1 B0 B (N + 1) (Rl ++ [hv q]) Rt h1 g' q' (hq'.kept fun h0 => hb1.b.block _ (hq'.lt h0)) hap' HM'.out qB qL).mono ?_
 rintro e w2 ⟨rfl, h2, hb2⟩
 go_wp2_with fail
 rw [List.append_assoc] at h2
 exact bodyPost_end (v := .tuple #[]) (by simp [results, Tryz.results138, go_sem]) rfl ⟨rfl, h2, hb1.trans hb2⟩
theorem dF (w : World) (B0 B N : Nat) (Rl Rt : List (Hl × Value)) (h : Bx w B0 B N Rl Rt) (g g' : Bool) (q q' : Hl) (m0 m1 m2 m3 : Int) (hq : Cx w 112 1 B0 B q) (hq' : Cx w 112 1 B0 B q') (hap : ∀ p ∈ Rl, C6 p (hv q)) (hap' : ∀ p ∈ Rl ++ [hv q], C6 p (hv q')) (hm : q.m = N + 1) (hm' : q'.m = N + 2) (hN : N < 500000000) (hk : Rl.length < 500000000) :
  Calls Tryz.prog 53 #[.pointer (some ⟨B, 0, none⟩), .agg #[.bool g, .slice q.a q.n q.c, .bool g', .slice q'.a q'.n q'.c, .int .u16 m0, .int .u16 m1, .int .u16 m2, .int .u16 m3]] w fun e w' => e = .returned (.tuple #[]) ∧ Bx w' B0 B (N + 2) (Rl ++ [hv q, hv q']) Rt ∧ Dy B w w' := by
 have hBw : B ≤ w.heap.size := Nat.le_of_lt (Aa _ _ h.c0)
 go_enter Tryz.func53, Tryz.ntmps53
 go_wp2_with (first | (go_at_call 138; refine (dS _ B0 B N Rl Rt (h.keep qF) g g' q q' (hq.keep qF) (hq'.keep qF) hap hap' hm hm' hN hk).mono ?_; rintro e w1 ⟨rfl, h1, hb0⟩; have hb1 : Dy B w w1 := (Dy.of (by go_grown : Below w.heap.size w _) hBw).trans hb0))
 exact bodyPost_end (v := .tuple #[]) (by simp [results, Tryz.results53, go_sem]) rfl ⟨rfl, h1, hb1⟩
def Fa (a : Option Addr) (n c m : Nat) : Hl := ⟨a, (match a with | some x => x.block | none => 0), n, c, m⟩
def Cn (p : Nat → Tm) (N : Nat) : Nat → List (Hl × Value)
 | 0 => []
 | k + 1 => Cn p N k ++ [hv (Fa (p k).a1 (p k).n1 (p k).c1 (N + 2 * k + 1)), hv (Fa (p k).a2 (p k).n2 (p k).c2 (N + 2 * k + 2))]
theorem Et (p : Nat → Tm) (N k : Nat) : (Cn p N k).length = 2 * k := by
 induction k with
 | zero => rfl
 | succ k ih => rw [Cn, List.length_append, ih]; simp; omega
theorem Wn (w : World) (B0 B N : Nat) (Rl Rt : List (Hl × Value)) (h : Bx w B0 B N Rl Rt) (a : Option Addr) (n c : Nat) (p : Nat → Tm) (hp : RdP w a n c p)
  (hH : ∀ i, i < n → Cx w 112 1 B0 B (Fa (p i).a1 (p i).n1 (p i).c1 (N + 2 * i + 1)) ∧ Cx w 112 1 B0 B (Fa (p i).a2 (p i).n2 (p i).c2 (N + 2 * i + 2))) (hA : ∀ k, k ≤ n → (Rl ++ Cn p N k).Pairwise C6)
  (hR : Cx w 68 8 B0 B (Fa a n c (N + 2 * n + 1))) (hRA : ∀ q ∈ Rt, C6 q (hv (Fa a n c (N + 2 * n + 1)))) (hN : N < 100000000) (hk : Rl.length < 100000000) (hk' : Rt.length < 100000000) :
  Calls Tryz.prog 20 #[.pointer (some ⟨B, 0, none⟩), .slice a n c] w fun e w' => e = .returned (.tuple #[]) ∧ Bx w' B0 B (N + 2 * n + 1) (Rl ++ Cn p N n) (Rt ++ [hv (Fa a n c (N + 2 * n + 1))]) ∧ Dy B w w' := by
 have hBw : B ≤ w.heap.size := Nat.le_of_lt (Aa _ _ h.c0)
 have hn6 := hR.few
 have hn : n ≤ 1000000 := hn6
 have HA := Ae hA
 have HH := Ae hH
 have HRA := Ae hRA
 clear hA hH hRA hn6
 go_enter Tryz.func20, Tryz.ntmps20
 go_wp2_with fail
 go_loopw [4] (fun v4 wr => ∃ i : Nat, i ≤ n ∧ v4 = .int .i64 i ∧ Bx wr B0 B (N + 2 * i) (Rl ++ Cn p N i) Rt ∧ Dy B w wr) (fun v4 _ => n - (intOf v4).toNat)
 case atStart => exact ⟨0, by omega, rfl, by simpa [Cn] using h, Dy.of qF hBw⟩
 case round =>
  obtain ⟨i, hi, rfl, hBk, hKp⟩ := hrel
  by_cases hlt : i < n
  ·have hrd := hp.tm i hlt
   rcases hp.cell with h0 | ⟨b, o, rfl, hcl⟩
   ·omega
   ·have hbB : b < B := by
     rcases hR.lies with h0 | ⟨_, _, h3, _⟩
     ·have := hp.cap; have : c = 0 := h0; omega
     ·exact h3
    obtain ⟨e0, e1, e2, e3, e4, e5, e6, e7⟩ := hcl i hlt
    have hkc : ∀ j v, w.cell? ⟨b, j, none⟩ = some v → wr.cell? ⟨b, j, none⟩ = some v := fun j v hv => (Af (a := ⟨b, j, none⟩) (hKp.b.block b hbB)).trans hv
    replace e0 := hkc _ _ e0
    replace e1 := hkc _ _ e1
    replace e2 := hkc _ _ e2
    replace e3 := hkc _ _ e3
    replace e4 := hkc _ _ e4
    replace e5 := hkc _ _ e5
    replace e6 := hkc _ _ e6
    replace e7 := hkc _ _ e7
    have hq1 := (HH.out i hlt).1.keepB hKp.b
    have hq2 := (HH.out i hlt).2.keepB hKp.b
    have hA1 := HA.out (i + 1) hlt
    rw [Cn, ← List.append_assoc] at hA1
    have hA2 := List.pairwise_append.1 hA1
    have HT := Ae (show Cn p N (i + 1) = Cn p N i ++ [hv (Fa (p i).a1 (p i).n1 (p i).c1 (N + 2 * i + 1)), hv (Fa (p i).a2 (p i).n2 (p i).c2 (N + 2 * i + 2))] from rfl)
    have hap1 : ∀ q ∈ Rl ++ Cn p N i, C6 q (hv (Fa (p i).a1 (p i).n1 (p i).c1 (N + 2 * i + 1))) := fun q hq => hA2.2.2 q hq _ qH
    have hap2 : ∀ q ∈ Rl ++ Cn p N i ++ [hv (Fa (p i).a1 (p i).n1 (p i).c1 (N + 2 * i + 1))], C6 q (hv (Fa (p i).a2 (p i).n2 (p i).c2 (N + 2 * i + 2))) := fun q hq => by
     rcases List.mem_append.1 hq with hq | hq
     ·exact hA2.2.2 q hq _ qH
     ·simp only [Ao] at hq
      subst hq
      exact (List.pairwise_cons.1 hA2.2.1).1 _ qH
    have HL := Et p N i
    clear hA1 hA2 hkc hcl
    generalize p i = t at *
    go_wp2_with fail
    refine (dF _ B0 B (N + 2 * i) (Rl ++ Cn p N i) Rt (hBk.keep qF) t.g1 t.g2 (Fa t.a1 t.n1 t.c1 (N + 2 * i + 1)) (Fa t.a2 t.n2 t.c2 (N + 2 * i + 2)) (t.m0 : Nat) (t.m1 : Nat) (t.m2 : Nat) (t.m3 : Nat) (hq1.keep qF) (hq2.keep qF) hap1 hap2 rfl rfl qB (by rw [List.length_append]; omega)).mono ?_
    rintro e w5 ⟨rfl, h5, hb5⟩
    go_wp2_with fail
    go_roundw
    case rel => exact ⟨i + 1, by omega, by go_num, by rw [HT.out, ← List.append_assoc]; exact h5, hKp.trans ((Dy.of (by go_grown : Below wr.heap.size wr _) (Ah hBw hKp.b.size)).trans hb5)⟩
    case measure => (first | (simp [intOf]; omega) | (simp [intOf]; done))
  ·obtain rfl : i = n := by omega
   have HL := Et p N i
   have hR1 := hR.keepB hKp.b
   have HRO := HRA.out
   go_wp2_with (first | (go_at_call 54; refine (Ut wr B0 B (N + 2 * i) (Rl ++ Cn p N i) Rt hBk (Fa a i c (N + 2 * i + 1)) hR1 HRO rfl qB qB).mono ?_; rintro e w5 ⟨rfl, h5, hb5⟩))
   exact bodyPost_end (v := .tuple #[]) (by simp [results, Tryz.results20, go_sem]) rfl ⟨rfl, h5, hKp.trans hb5⟩
def mkL (m : Nat) : List Value := [.int .u32 ((1000 + m : Nat) : Int)]
theorem Om (w : World) (b o : Nat) (v : Value) {cur : Array Value} {e : TypeId} {fz : Nat × Nat} (h : w.heap[b]? = some (.cells cur e fz)) : (w.setCell ⟨b, o, none⟩ v).heap[b]? = some (.cells (cur.setIfInBounds o v) e fz) := by
 rw [Go.Sort.setCell_eq]
 unfold Go.Sort.mapBlock
 show (Array.modify w.heap b _)[b]? = _
 rw [Array.getElem?_modify, if_pos rfl, h]
 rfl
theorem Cx.set {w : World} {e : TypeId} {s B0 B : Nat} {h : Hl} (hh : Cx w e s B0 B h) (b o : Nat) (v : Value) : Cx (w.setCell ⟨b, o, none⟩ v) e s B0 B h := by
 refine ⟨hh.le, hh.few, hh.top, hh.lies.imp id fun ⟨h1, h2, h3, cur, h4, h5⟩ => ⟨h1, h2, h3, ?_⟩⟩
 by_cases e1 : h.b = b
 ·subst e1
  exact ⟨_, Om w h.b o v h4, by simpa using h5⟩
 ·exact ⟨cur, by rw [Below.heap_setCell _ _ _ _ (by show h.b ≠ b; omega)]; exact h4, h5⟩
theorem Dk {S : Nat → Prop} {w w' : World} (h : Dd S w w') (b o : Nat) (v : Value) (hb : S b) : Dd S w (w'.setCell ⟨b, o, none⟩ v) :=
 ⟨h.os, h.output, by simpa using h.size, fun g hg hs => by
  have : g ≠ b := fun e => hs (e ▸ hb)
  rw [Below.heap_setCell _ _ _ _ (by show g ≠ b; omega)]
  exact h.block g hg hs⟩
theorem Fg (S : Nat → Prop) (w : World) : Dd S w w := ⟨rfl, rfl, Ad _, fun _ _ _ => rfl⟩
theorem Dd.trans {S : Nat → Prop} {w w1 w2 : World} (h : Dd S w w1) (h' : Dd S w1 w2) : Dd S w w2 :=
 ⟨h'.os.trans h.os, h'.output.trans h.output, Ah h.size h'.size, fun g hg hs => (h'.block g (Nat.lt_of_lt_of_le hg h.size) hs).trans (h.block g hg hs)⟩
theorem C0.congr {w w' : World} {s b n m : Nat} {mk : Nat → List Value} (h : C0 w s mk b n m) (hb : n = 0 ∨ w'.heap[b]? = w.heap[b]?) : C0 w' s mk b n m := fun k hk j hj => by
 rcases hb with hb | hb
 ·omega
 ·rw [Af (a := ⟨b, k * s + j, none⟩) hb]; exact h k hk j hj
theorem Cx.there {w : World} {e : TypeId} {s B0 B : Nat} {h : Hl} (hh : Cx w e s B0 B h) {o : Nat} (ho : o < h.c * s) : (∃ v, w.cell? ⟨h.b, o, none⟩ = some v) ∧ w.frozen? ⟨h.b, o, none⟩ = false := by
 rcases hh.lies with h0 | ⟨h1, h2, h3, cur, h4, h5⟩
 ·rw [h0, Nat.zero_mul] at ho; omega
 ·refine ⟨⟨cur[o]'qB, ?_⟩, ?_⟩
  ·have : o < cur.size := by omega
   simp [World.cell?, h4, this]
  ·simp [World.frozen?, h4]
theorem Hg {w : World} {base : Nat} {e : TypeId} {s : Nat} {v : Value} {n : Nat} {xs : List Value} (h : w.ownsRow base e s v n xs) : ∃ ao co, v = .slice ao n co := by
 rcases h.2 with ⟨rfl, h0⟩ | ⟨g, cap, cur, rfl, _⟩
 ·subst h0; exact ⟨none, 0, rfl⟩
 ·exact ⟨_, _, rfl⟩
theorem Gd {w : World} {base : Nat} {e : TypeId} {v : Value} {R : List (Hl × Value)} (h : w.ownsRow base e 3 v R.length (Cw R)) (hR : R ≠ []) : ∃ g cap, v = .slice (some ⟨g, 0, none⟩) R.length cap ∧ base ≤ g ∧ ∀ i p, R[i]? = some p → w.cell? ⟨g, i * 3, none⟩ = some (.slice p.1.a p.1.n p.1.c) ∧ w.cell? ⟨g, i * 3 + 1, none⟩ = some p.2 ∧ w.cell? ⟨g, i * 3 + 2, none⟩ = some (.int .i64 p.1.m) := by
 rcases h.2 with ⟨_, h0⟩ | ⟨g, cap, cur, hv, hg, hb, hnc, hm, hsz, htk⟩
 ·exact absurd (List.length_eq_zero_iff.1 h0) hR
 ·refine ⟨g, cap, hv, hg, fun i p hp => ?_⟩
  obtain ⟨h1, h2, h3⟩ := Ww R i p hp
  have hi := (List.getElem?_eq_some_iff.1 hp).1
  have key : ∀ j u, j < R.length * 3 → (Cw R)[j]? = some u → w.cell? ⟨g, j, none⟩ = some u := fun j u hj hu => by
   rw [← htk, List.getElem?_take, if_pos hj] at hu
   simpa [World.cell?, hb] using hu
  exact ⟨key _ _ qB h1, key _ _ qB h2, key _ _ qB h3⟩
theorem Bx.setL {w : World} {B0 B N : Nat} {Rl Rt : List (Hl × Value)} (h : Bx w B0 B N Rl Rt) {b : Nat} (o : Nat) (v : Value) (hb : inR Rl b ∨ inR Rt b) : Bx (w.setCell ⟨b, o, none⟩ v) B0 B N Rl Rt :=
 h.keepS (Dk (Fg (fun g => inR Rl g ∨ inR Rt g) w) b o v hb) (fun g hg => fun e => e.elim (Ie h.hl g hg) (Ie h.ht g hg)) (fun p hp => (h.hl p hp).set b o v) (fun p hp => (h.ht p hp).set b o v)
theorem Em {S : Nat → Prop} {w w' w'' : World} (h : Dd S w w') (hb : Below w'.heap.size w' w'') : Dd S w w'' := h.trans (Ey hb S)
theorem C0.keep {w w' : World} {s b n m : Nat} {mk : Nat → List Value} (h : C0 w s mk b n m) (hb : Below w.heap.size w w') (hz : (mk m)[0]? ≠ none) (hs : 0 < s) : C0 w' s mk b n m := by
 rcases Aq n with h0 | h0
 ·exact h.congr (.inl h0)
 ·have h1 := h 0 h0 0 hs
  cases hx : (mk m)[0]? with
  | none => exact absurd hx hz
  | some v =>
   rw [hx] at h1
   exact h.congr (.inr (hb.block b (Aa _ _ h1)))
theorem C0.next {w : World} {b k m : Nat} (h : C0 w 1 mkL b k m) {u : Value} (hc : w.cell? ⟨b, k, none⟩ = some u) : C0 (w.setCell ⟨b, k, none⟩ (.int .u32 ((1000 + m : Nat) : Int))) 1 mkL b (k + 1) m := fun i hi j hj => by
 obtain rfl : j = 0 := by omega
 rw [Nat.mul_one, Nat.add_zero]
 by_cases e : i = k
 ·subst e
  simp [*, go_sem, mkL]
 ·have := h i qB 0 qB
  rw [Nat.mul_one, Nat.add_zero] at this
  rw [← this]
  exact World.cell?_setCell_other (w := w) (a := ⟨b, k, none⟩) (b := ⟨b, i, none⟩) _ (by intro e'; injection e' with e1 e2; exact e e2.symm)
theorem C0.other {w : World} {s b n m b' o : Nat} {mk : Nat → List Value} (h : C0 w s mk b n m) (v : Value) (hne : n = 0 ∨ b ≠ b') : C0 (w.setCell ⟨b', o, none⟩ v) s mk b n m :=
 h.congr (hne.imp id fun e => Below.heap_setCell _ _ _ _ (by show b ≠ b'; exact e))
theorem He {α : Type} {R : List α} {i : Nat} {q : α} (h : R[i]? = some q) : R.take (i + 1) = R.take i ++ [q] := by rw [List.take_add_one, h]; rfl
theorem Mv {R : List (Hl × Value)} (h : R.Pairwise C6) {i : Nat} {q : Hl × Value} (hq : R[i]? = some q) : ∀ p ∈ R.take i, C6 p q := by
 have h1 : (R.take (i + 1)).Pairwise C6 := h.sublist (List.take_sublist _ _)
 rw [He hq] at h1
 exact fun p hp => (List.pairwise_append.1 h1).2.2 p hp q qH
theorem Nh (w : World) (m : Nat) (hm : m < 1000000000) : Calls Tryz.prog 140 #[.int .i64 (m : Nat)] w fun e w' => e = .returned (.int .u32 ((1000 + m : Nat) : Int)) ∧ w' = w := by
 go_enter Tryz.func140, Tryz.ntmps140
 go_wp2_with fail
 go_ret
 exact ⟨by simp, rfl⟩
theorem Tw (w : World) (B0 B N : Nat) (Rl Rt : List (Hl × Value)) (h : Bx w B0 B N Rl Rt) (hz : ∀ p ∈ Rl, p.2 = .slice none 0 0) (hm : ∀ p ∈ Rl, p.1.m < 1000000000) (hk : Rl.length < 1000000000) :
  Calls Tryz.prog 56 #[.pointer (some ⟨B, 0, none⟩)] w fun e w' => e = .returned (.tuple #[]) ∧ Bx w' B0 B N Rl Rt ∧ (∀ p ∈ Rl, C0 w' 1 mkL p.1.b p.1.n p.1.m) ∧ Dd (inR Rl) w w' := by
 have HZ := Ae hz
 have HM := Ae hm
 clear hz hm
 have hBw : B < w.heap.size := Aa _ _ h.c0
 go_enter Tryz.func56, Tryz.ntmps56
 go_wp2_with fail
 go_loopw [2] (fun v2 wr => ∃ i : Nat, i ≤ Rl.length ∧ v2 = .int .i64 i ∧ Bx wr B0 B N Rl Rt ∧ Hid (∀ p ∈ Rl.take i, C0 wr 1 mkL p.1.b p.1.n p.1.m) ∧ Dd (inR Rl) w wr) (fun v2 _ => Rl.length - (intOf v2).toNat)
 case atStart => exact ⟨0, by omega, rfl, h, Ae qH, Fg _ _⟩
 case round =>
  obtain ⟨i, hi, rfl, hBk, hF, hS⟩ := hrel
  obtain ⟨vl, c2, hown⟩ := hBk.l
  by_cases hlt : i < Rl.length
  ·obtain ⟨⟨⟨a, b, n, c, m⟩, v⟩, hq⟩ : ∃ q, Rl[i]? = some q := ⟨_, Ai hlt⟩
   have hqm := List.mem_of_getElem? hq
   obtain rfl : v = .slice none 0 0 := HZ.out _ hqm
   have hmm : m < 1000000000 := HM.out _ hqm
   obtain ⟨g, cap, rfl, hg, hcl⟩ := Gd hown (by intro e; rw [e] at hlt; simp at hlt)
   obtain ⟨e0, e1, e2⟩ := hcl i _ hq
   have HAP := Ae (Mv hBk.al hq)
   have HNX := Ae (He hq)
   have HIN : c ≠ 0 → inR Rl b := fun h0 => ⟨_, hqm, h0, rfl⟩
   have HINH := Ae HIN
   have hHs := hS.size
   clear hcl hown HIN
   simp only at e0 e1 e2
   go_wp2_with fail
   refine Ck ?_
   intro w2 hw2
   have hb2 : Below wr.heap.size wr w2 := by rw [hw2]; go_grown
   have b0 : w2.cell? ⟨wr.heap.size, 0, none⟩ = some (.slice a n c) := by rw [hw2]; simp [*, go_sem]
   have b2 : w2.cell? ⟨wr.heap.size, 2, none⟩ = some (.int .i64 (m : Nat)) := by rw [hw2]; simp [*, go_sem]
   clear hw2 e0 e1 e2
   have hBk2 := hBk.keep hb2
   have hF2 := Ae (fun p hp => (hF.out p hp).keep hb2 (by simp [mkL]) qB)
   have hS2 := Em hS hb2
   clear hBk hF hS hb2 c2
   generalize wr.heap.size = H at *
   go_loopw [4] (fun v4 wi => ∃ k : Nat, k ≤ n ∧ v4 = .int .i64 k ∧ Bx wi B0 B N Rl Rt ∧ Hid (∀ p ∈ Rl.take i, C0 wi 1 mkL p.1.b p.1.n p.1.m) ∧ Hid (C0 wi 1 mkL b k m) ∧ Dd (inR Rl) w wi ∧ wi.cell? ⟨H, 0, none⟩ = some (.slice a n c) ∧ wi.cell? ⟨H, 2, none⟩ = some (.int .i64 (m : Nat))) (fun v4 _ => n - (intOf v4).toNat)
   case atStart => exact ⟨0, by omega, rfl, hBk2, hF2, Ae (fun k hk => by omega), hS2, b0, b2⟩
   case round =>
    clear hBk2 hF2 hS2 b0 b2
    obtain ⟨k, hkn, rfl, hBk, hF, hF1, hS, b0, b2⟩ := hrel
    by_cases hkl : k < n
    ·have hh := hBk.hl _ hqm
     have hle : n ≤ c := hh.le
     have hfw : n ≤ 1000000 := hh.few
     have hc0 : c ≠ 0 := by omega
     rcases hh.lies with h0 | ⟨h1, h2, h3, _⟩
     ·exact absurd h0 hc0
     ·obtain rfl : a = some ⟨b, 0, none⟩ := h1
      obtain ⟨⟨u, hu⟩, hfz⟩ := hh.there (o := k) (by show k < c * 1; omega)
      have hbH : b ≠ H := by have : b < B := h3; omega
      simp only at hu hfz
      clear hh h3 h2
      go_wp2_with fail
      go_region_held3 (fun W => W.cell? ⟨H, 0, none⟩ = some (.slice (some ⟨b, 0, none⟩) n c) ∧ W.cell? ⟨H, 2, none⟩ = some (.int .i64 (m : Nat))) (first | ((try dsimp only); (repeat' apply And.intro); all_goals (first | (with_reducible assumption) | (go_keep; done) | (simp [*, go_sem]; done)))) ((go_at_call 140; (with_reducible refine (Nh _ m hmm).mono ?_); rintro e w' ⟨rfl, rfl⟩))
      go_wp2_with fail
      have hin := HINH.out hc0
      have hd : Below (wr.setCell ⟨b, k, none⟩ (.int .u32 (1000 + (m : Int)))).heap.size (wr.setCell ⟨b, k, none⟩ (.int .u32 (1000 + (m : Int)))) (wr.setCell ⟨b, k, none⟩ (.int .u32 (1000 + (m : Int)))).drew := (Ac _ _).drew
      have hF' : Hid (∀ p ∈ Rl.take i, C0 (wr.setCell ⟨b, k, none⟩ (.int .u32 (1000 + (m : Int)))).drew 1 mkL p.1.b p.1.n p.1.m) := Ae fun p hp => by
       refine C0.keep (s := 1) (mk := mkL) ((hF.out p hp).other _ ?_) hd (by simp [mkL]) qB
       by_cases hp0 : p.1.c = 0
       ·have := (hBk.hl p (List.mem_of_mem_take hp)).le
        exact .inl qB
       ·exact .inr (HAP.out p hp hp0 hc0)
      have hF1' : Hid (C0 (wr.setCell ⟨b, k, none⟩ (.int .u32 (1000 + (m : Int)))).drew 1 mkL b (k + 1) m) := Ae (C0.keep (s := 1) (mk := mkL) (hF1.out.next hu) hd (by simp [mkL]) qB)
      have c0' : (wr.setCell ⟨b, k, none⟩ (.int .u32 (1000 + (m : Int)))).drew.cell? ⟨H, 0, none⟩ = some (.slice (some ⟨b, 0, none⟩) n c) := Au hd ((Hk _ b0 (by show H ≠ b; omega)))
      have c2' : (wr.setCell ⟨b, k, none⟩ (.int .u32 (1000 + (m : Int)))).drew.cell? ⟨H, 2, none⟩ = some (.int .i64 (m : Nat)) := Au hd ((Hk _ b2 (by show H ≠ b; omega)))
      have hS' := Em (Dk hS b k (.int .u32 (1000 + (m : Int))) hin) hd
      have hBk' := (hBk.setL k (.int .u32 (1000 + (m : Int))) (.inl hin)).keep hd
      exact qDv
    ·obtain rfl : k = n := by omega
     have hF' := Ae (show ∀ p ∈ Rl.take (i + 1), C0 wr 1 mkL p.1.b p.1.n p.1.m from fun p hp => by
      rw [HNX.out] at hp
      rcases List.mem_append.1 hp with hp | hp
      ·exact hF.out p hp
      ·simp only [Ao] at hp
       subst hp
       exact hF1.out)
     exact qDr
  ·obtain rfl : i = Rl.length := by omega
   obtain ⟨ao, co, rfl⟩ := Hg hown
   have hF' := hF.out
   rw [As (Ad _)] at hF'
   clear hF
   have HF := Ae hF'
   clear hF'
   go_wp2_with fail
   exact bodyPost_end (v := .tuple #[]) (by simp [results, Tryz.results56, go_sem]) rfl ⟨rfl, hBk, HF.out, hS⟩
end Go.Proofs.YtdamegaedmckbaaGreatDoor
end
