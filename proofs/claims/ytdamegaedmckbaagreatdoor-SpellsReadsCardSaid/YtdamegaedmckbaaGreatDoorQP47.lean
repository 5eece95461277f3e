/- A sum whose lists lie apart, as a book keeps it. -/
import Derived.Test.YtdamegaedmckbaaGreatDoorQP46
set_option linter.unusedSimpArgs false
set_option linter.unusedVariables false
set_option maxRecDepth 100000
set_option maxHeartbeats 4000000
section
namespace Go.Proofs.YtdamegaedmckbaaGreatDoor
open Go.RowKit
theorem Yx {w : World} {a : Option Addr} {n c : Nat} {p q : Nat → Tm} (hp : RdP w a n c p) (hq : RdP w a n c q) {i : Nat} (hi : i < n) : (p i).n1 = (q i).n1 ∧ (p i).n2 = (q i).n2 := by
 rcases hp.cell with h0 | ⟨b, o, ha, hc⟩
 ·omega
 ·rcases hq.cell with h0 | ⟨b', o', ha', hc'⟩
  ·omega
  ·rw [ha] at ha'
   simp only [Option.some.injEq, Addr.mk.injEq, and_true] at ha'
   obtain ⟨rfl, rfl⟩ := ha'
   have h1 := (hc i hi).e1
   have h3 := (hc i hi).e3
   rw [(hc' i hi).e1] at h1
   rw [(hc' i hi).e3] at h3
   simp only [Option.some.injEq, Value.slice.injEq] at h1 h3
   exact ⟨h1.2.1.symm, h3.2.1.symm⟩
theorem Nm {w w' : World} {B0 B : Nat} {a : Option Addr} {n c m : Nat} {d : List Nat} (h : RdL w a n c d) (hf : Av B0 w a c) (hn : n ≤ 1000000) (hb : Below w.heap.size w w') (hB : w.heap.size ≤ B) : Cx w' 112 1 B0 B (Fa a n c m) := by
 refine ⟨h.cap, hn, by have := h.top; unfold maxLen; show c ≤ _; omega, ?_⟩
 rcases hf with h0 | ⟨b, cur, rfl, h2, h3, h4⟩
 ·exact .inl h0
 ·have hlt := (Ar.1 h3).1
  exact .inr ⟨rfl, h2, by show b < B; omega, cur, (hb.block b hlt).trans h3, by show c * 1 ≤ _; omega⟩
theorem cP {w : World} {B0 : Nat} {a a' : Option Addr} {n c m n' c' m' : Nat} (hf : Av B0 w a c) (hf' : Av B0 w a' c') (h : Ap2 a c a' c') : C6 (hv (Fa a n c m)) (hv (Fa a' n' c' m')) := fun h1 h2 e => by
 rcases hf with h0 | ⟨b, _, rfl, _⟩
 ·exact h1 h0
 ·rcases hf' with h0 | ⟨b', _, rfl, _⟩
  ·exact h2 h0
  ·rcases h with h | h | h
   ·exact h1 h
   ·exact h2 h
   ·exact h (by rw [show b = b' from e])
theorem Qd {w : World} {B0 : Nat} {o : Nat → Nat} {a a' : Option Addr} {n c m n' c' m' t t' : Nat} (hf : Av B0 w a c) (hf' : Av B0 w a' c') (h : Mk o a c t) (h' : Mk o a' c' t') (hne : t ≠ t') : C6 (hv (Fa a n c m)) (hv (Fa a' n' c' m')) := fun h1 h2 e => by
 rcases hf with h0 | ⟨b, _, rfl, _⟩
 ·exact h1 h0
 ·rcases hf' with h0 | ⟨b', _, rfl, _⟩
  ·exact h2 h0
  ·have e1 := h.resolve_left h1 _ rfl
   have e2 := h'.resolve_left h2 _ rfl
   have e3 : b = b' := e
   subst e3
   exact hne (e1.symm.trans e2)
theorem Jf {p : Nat → Tm} {N k : Nat} {q : Hl × Value} (h : q ∈ Cn p N k) : ∃ i, i < k ∧ (q = hv (Fa (p i).a1 (p i).n1 (p i).c1 (N + 2 * i + 1)) ∨ q = hv (Fa (p i).a2 (p i).n2 (p i).c2 (N + 2 * i + 2))) := by
 induction k with
 | zero => simp [Cn] at h
 | succ k ih =>
  rw [Cn] at h
  rcases List.mem_append.1 h with h | h
  ·obtain ⟨i, hi, hq⟩ := ih h
   exact ⟨i, by omega, hq⟩
  ·simp only [List.mem_cons, List.not_mem_nil, or_false] at h
   exact ⟨k, by omega, h⟩
structure fH (w' : World) (B0 B B1 : Nat) (a : Option Addr) (n c : Nat) (p : Nat → Tm) : Prop where
 rd : RdP w' a n c p
 hl : ∀ i m, i < n → Cx w' 112 1 B0 B (Fa (p i).a1 (p i).n1 (p i).c1 m) ∧ Cx w' 112 1 B0 B (Fa (p i).a2 (p i).n2 (p i).c2 m)
 ap : ∀ N k, k ≤ n → (Cn p N k).Pairwise C6
 row : ∀ m, Cx w' 68 8 B0 B (Fa a n c m)
 lo : ∀ N k q, q ∈ Cn p N k → k ≤ n → q.1.c ≠ 0 → B0 ≤ q.1.b ∧ q.1.b < B1
 rlo : c ≠ 0 → B0 ≤ (Fa a n c 0).b ∧ (Fa a n c 0).b < B1
theorem Pm {w w' : World} {B0 B0' B K : Nat} {a : Option Addr} {n c : Nat} {l : List PT} (hP : Bk w B0' a n c l) (hO : Cb w B0 a n c) (hK : Da K l) (hK6 : K ≤ 1000000) (hl : l.length ≤ 1000000) (hb : Below w.heap.size w w') (hB : w.heap.size ≤ B) : ∃ p, fH w' B0 B w.heap.size a n c p := by
 obtain ⟨p', hp', hx⟩ := hP.ts
 obtain ⟨p, o, t, hp, hinj, hL⟩ := hO.ts
 have hn : n ≤ 1000000 := by have := hP.len; omega
 have hfew : ∀ i, i < n → (p i).n1 ≤ 1000000 ∧ (p i).n2 ≤ 1000000 := fun i hi => by
  have h1 := Yx hp hp' hi
  have h2 := hP.few hK hp' hx i hi
  omega
 have hap : ∀ N k, k ≤ n → (Cn p N k).Pairwise C6 := fun N k => by
  induction k with
  | zero => intro _; simp [Cn]
  | succ k ih =>
   intro hk
   rw [Cn]
   have hLk := hL k qB
   refine List.pairwise_append.2 ⟨ih qB, ?_, fun q hq u hu => ?_⟩
   ·simp only [List.pairwise_cons, List.mem_cons, List.not_mem_nil, or_false, forall_eq, List.Pairwise.nil, and_true, false_implies, implies_true]
    exact cP hLk.top hLk.low hLk.ap
   ·obtain ⟨i, hi, hq⟩ := Jf hq
    have hLi := hL i qB
    have hne : t i ≠ t k := fun e => by have := hinj i k qB qB e; omega
    simp only [List.mem_cons, List.not_mem_nil, or_false] at hu
    rcases hq with rfl | rfl <;> rcases hu with rfl | rfl
    ·exact Qd hLi.top hLk.top hLi.m1 hLk.m1 hne
    ·exact Qd hLi.top hLk.low hLi.m1 hLk.m2 hne
    ·exact Qd hLi.low hLk.top hLi.m2 hLk.m1 hne
    ·exact Qd hLi.low hLk.low hLi.m2 hLk.m2 hne
 have hfl : ∀ {a : Option Addr} {n c m : Nat}, Av B0 w a c → c ≠ 0 → B0 ≤ (Fa a n c m).b ∧ (Fa a n c m).b < w.heap.size := fun hf h0 => by
  rcases hf with h1 | ⟨b, cur, rfl, h2, h3, _⟩
  ·exact absurd h1 h0
  ·exact ⟨h2, (Ar.1 h3).1⟩
 refine ⟨p, hp.keep hb, fun i m hi => ⟨Nm (hp.tm i hi).top (hL i hi).top (hfew i hi).1 hb hB, Nm (hp.tm i hi).low (hL i hi).low (hfew i hi).2 hb hB⟩, hap, fun m => ?_, fun N k q hq hk h0 => ?_, fun h0 => ?_⟩
 ·refine ⟨hp.cap, hn, by have := hp.top; unfold maxLen; show c ≤ _; omega, ?_⟩
  rcases hO.row with h0 | ⟨b, cur, rfl, h2, h3, h4⟩
  ·exact .inl h0
  ·have hlt := (Ar.1 h3).1
   exact .inr ⟨rfl, h2, by show b < B; omega, cur, (hb.block b hlt).trans h3, h4⟩
 ·obtain ⟨i, hi, hq⟩ := Jf hq
  rcases hq with rfl | rfl
  ·exact hfl (hL i qB).top h0
  ·exact hfl (hL i qB).low h0
 ·rcases hO.row with h1 | ⟨b, cur, rfl, h2, h3, h4⟩
  ·exact absurd h1 h0
  ·exact ⟨h2, (Ar.1 h3).1⟩
theorem Cx.lower {w : World} {e : TypeId} {s B0 B1 B : Nat} {h : Hl} (hh : Cx w e s B0 B h) (hB : B1 ≤ B0) : Cx w e s B1 B h :=
 ⟨hh.le, hh.few, hh.top, hh.lies.imp id fun ⟨h1, h2, h3⟩ => ⟨h1, Ah hB h2, h3⟩⟩
theorem aM {w : World} {B0 : Nat} : Bx (w.alloc (.cells #[.int .i64 0, .slice none 0 0, .slice none 0 0, .slice none 0 0, .slice none 0 0, .slice none 0 0, .slice none 0 0, .slice none 0 0, .slice none 0 0, .slice none 0 0, .slice none 0 0, .slice none 0 0, .slice none 0 0] 45)) B0 w.heap.size 0 [] [] := by
 refine ⟨by simp [go_sem], fun j hj => ?_, fun j => by simp [go_sem], ⟨.slice none 0 0, by simp [go_sem], World.ownsRow_nil _ _ _ _⟩, ⟨.slice none 0 0, by simp [go_sem], World.ownsRow_nil _ _ _ _⟩, by simp, by simp, by simp, by simp⟩
 have : j = 1 ∨ j = 3 ∨ j = 4 ∨ j = 5 ∨ j = 7 ∨ j = 8 ∨ j = 9 ∨ j = 10 ∨ j = 11 ∨ j = 12 := by omega
 rcases this with rfl | rfl | rfl | rfl | rfl | rfl | rfl | rfl | rfl | rfl <;> simp [go_sem]
theorem Gj {p : Nat → Tm} {N k : Nat} (hN : N + 2 * k < 1000000000) : ∀ q ∈ Cn p N k, q.2 = .slice none 0 0 ∧ q.1.m < 1000000000 := fun q hq => by
 obtain ⟨i, hi, hq⟩ := Jf hq
 rcases hq with rfl | rfl
 ·exact ⟨rfl, by show N + 2 * i + 1 < _; omega⟩
 ·exact ⟨rfl, by show N + 2 * i + 2 < _; omega⟩
theorem Yg (w w1 w2 W : World) (B0 : Nat) (h01 : B0 ≤ w1.heap.size) (a1 : Option Addr) (n1 c1 : Nat) (a2 : Option Addr) (n2 c2 : Nat) (l : List PT) (K : Nat) (hK : Da K l) (hK6 : K ≤ 1000000) (hl : l.length ≤ 1000000)
  (P1 : Bk w1 B0 a1 n1 c1 l) (O1 : Cb w1 B0 a1 n1 c1) (P2 : Bk w2 w1.heap.size a2 n2 c2 l) (O2 : Cb w2 w1.heap.size a2 n2 c2) (h12 : Below w1.heap.size w1 w2) (B : Nat) (hB : w2.heap.size ≤ B) (hb : Below w2.heap.size w2 W) (hBk : Bx W B0 B 0 [] []) :
  Calls Tryz.prog 20 #[.pointer (some ⟨B, 0, none⟩), .slice a1 n1 c1] W fun e W1 => e = .returned (.tuple #[]) ∧ Dy B W W1 ∧ Calls Tryz.prog 20 #[.pointer (some ⟨B, 0, none⟩), .slice a2 n2 c2] W1 fun e W2 => e = .returned (.tuple #[]) ∧ Dy B W1 W2 ∧ Calls Tryz.prog 21 #[.pointer (some ⟨B, 0, none⟩)] W2 fun e W3 => e = .returned (.bool true) ∧ Dd (fun g => B0 ≤ g) W2 W3 := by
 have hs12 := h12.size
 have hb1 : Below w1.heap.size w1 W := h12.trans (hb.mono hs12)
 obtain ⟨p1, K1⟩ := Pm P1 O1 hK hK6 hl hb1 (Ah hs12 hB)
 have hn1 : n1 ≤ 1000000 := by have := P1.len; omega
 have hn2 : n2 ≤ 1000000 := by have := P2.len; omega
 refine (Wn W B0 B 0 [] [] hBk a1 n1 c1 p1 K1.rd (fun i hi => ⟨(K1.hl i _ hi).1, (K1.hl i _ hi).2⟩) (fun k hk => by simpa using K1.ap 0 k hk) (K1.row _) qH qB qH qH).mono ?_
 rintro e W1 ⟨rfl, hB1, hk1⟩
 refine ⟨rfl, hk1, ?_⟩
 have hb2 : Below w2.heap.size w2 W1 := hb.trans (hk1.b.mono hB)
 obtain ⟨p2, K2⟩ := Pm P2 O2 hK hK6 hl hb2 hB
 simp only [List.nil_append] at hB1
 refine (Wn W1 B0 B (0 + 2 * n1 + 1) _ _ hB1 a2 n2 c2 p2 K2.rd (fun i hi => ⟨(K2.hl i _ hi).1.lower h01, (K2.hl i _ hi).2.lower h01⟩) (fun k hk => ?_) ((K2.row _).lower h01) (fun q hq => ?_) qB (by rw [Et]; omega) qH).mono ?_
 ·refine List.pairwise_append.2 ⟨K1.ap 0 n1 (Ad _), K2.ap _ k hk, fun q hq u hu h1 h2 e => ?_⟩
  have e1 := K1.lo 0 n1 q hq (Ad _) h1
  have e2 := K2.lo _ k u hu hk h2
  omega
 ·simp only [Ao] at hq
  subst hq
  intro h1 h2 e
  have e1 := K1.rlo h1
  have e2 := K2.rlo h2
  have e3 : (Fa a1 n1 c1 0).b = (Fa a2 n2 c2 0).b := e
  omega
 ·rintro e W2 ⟨rfl, hB2, hk2⟩
  refine ⟨rfl, hk2, ?_⟩
  refine dQ W2 B0 B _ _ _ hB2 (fun q hq => ?_) (fun q hq => ?_) (fun q hq => ?_) (fun q hq => ?_) (by rw [List.length_append, Et, Et]; omega) qH qB
  ·rcases List.mem_append.1 hq with hq | hq
   ·exact (Gj qB q hq).1
   ·exact (Gj qB q hq).1
  ·rcases List.mem_append.1 hq with hq | hq
   ·simp only [Ao] at hq; subst hq; rfl
   ·simp only [Ao] at hq; subst hq; rfl
  ·rcases List.mem_append.1 hq with hq | hq
   ·exact (Gj qB q hq).2
   ·exact (Gj qB q hq).2
  ·rcases List.mem_append.1 hq with hq | hq
   ·simp only [Ao] at hq; subst hq; show 0 + 2 * n1 + 1 < _; omega
   ·simp only [Ao] at hq; subst hq; show 0 + 2 * n1 + 1 + 2 * n2 + 1 < _; omega
theorem Oo (w : World) (s : List UInt8) (hs : s.length ≤ 9223372036854775807) (hV : Kr w) (h7 : 7 < w.heap.size) :
  Calls Tryz.prog 4 #[.string ⟨s.toArray⟩] w fun e w' => e = .returned (.bool true) ∧ Dd (fun g => w.heap.size ≤ g) w w' := by
 go_enter Tryz.func4, Tryz.ntmps4
 by_cases h1 : 3000 < (s.length : Int)
 ·go_wp2_with fail
  go_ret
  exact ⟨rfl, Fg _ _⟩
 ·obtain ⟨hpw, hK, hl⟩ := Sg (L := s) (l := (Cs s).1) (e := (Cs s).2) rfl
  have hls : s.length < 1000000000 := by omega
  have HK := Ae hK
  have HL := Ae hl
  clear hpw hK hl
  go_wp2_with fail
  refine (V2 w s hls hV h7).mono ?_
  rintro e w1 ⟨a1, n1, c1, rfl, P1, O1, hb1⟩
  have hV1 : Kr w1 := hV.grown (Az hb1 none) qH
  have h71 : 7 < w1.heap.size := by have := hb1.size; omega
  go_wp2_with fail
  refine (V2 w1 s hls hV1 h71).mono ?_
  rintro e w2 ⟨a2, n2, c2, rfl, P2, O2, hb2⟩
  have B2 := hb1.trans (hb2.mono hb1.size)
  go_wp2_with fail
  refine (Tu w2 s hls).mono ?_
  rintro e w3 ⟨a3, n3, c3, rfl, P3, hb3⟩
  have B3 := B2.trans (hb3.mono B2.size)
  generalize (Cs s).2 = er at *
  generalize (Cs s).1 = lr at *
  have hz2 := hb2.size
  have hz3 := hb3.size
  have hz1 := hb1.size
  clear hV hV1 h7 h71
  go_wp2_with fail
  refine (Nj w3 _ a1 n1 c1 lr ((P1.keep hb2).keep hb3) _ a3 n3 c3 P3).mono ?_
  rintro e w4 ⟨rfl, hb4⟩
  have P24 := (P2.keep hb3).keep hb4
  have P34 := P3.keep hb4
  clear P3
  go_wp2_with fail
  refine (Nj w4 _ a2 n2 c2 lr P24 _ a3 n3 c3 P34).mono ?_
  rintro e w5 ⟨rfl, hb5⟩
  have B5 := (B3.trans (hb4.mono B3.size)).trans (hb5.mono (by have := B3.size; have := hb4.size; omega))
  have hb25 := (hb3.trans (hb4.mono hz3)).trans (hb5.mono (by have := hb4.size; omega))
  clear P24 P34
  go_wp2_with fail
  have hz5 := B5.size
  have hW : Below w2.heap.size w2 (w5.alloc (.cells #[.int .i64 0, .slice none 0 0, .slice none 0 0, .slice none 0 0, .slice none 0 0, .slice none 0 0, .slice none 0 0, .slice none 0 0, .slice none 0 0, .slice none 0 0, .slice none 0 0, .slice none 0 0, .slice none 0 0] 45)) := hb25.alloc hb25.size _
  have hX := Yg w w1 w2 _ w.heap.size hz1 a1 n1 c1 a2 n2 c2 lr _ HK.out qB (by have := HL.out; omega) P1 O1 P2 O2 hb2 w5.heap.size hb25.size hW aM
  have BW := B5.alloc B5.size (.cells #[.int .i64 0, .slice none 0 0, .slice none 0 0, .slice none 0 0, .slice none 0 0, .slice none 0 0, .slice none 0 0, .slice none 0 0, .slice none 0 0, .slice none 0 0, .slice none 0 0, .slice none 0 0, .slice none 0 0] 45)
  clear hb1 hb2 hb3 hb4 hb5 B2 B3 P1 O1 P2 O2 hW hb25
  refine hX.mono ?_
  rintro e W1 ⟨rfl, hk1, hX1⟩
  go_wp2_with fail
  refine hX1.mono ?_
  rintro e W2 ⟨rfl, hk2, hX2⟩
  go_wp2_with fail
  refine hX2.mono ?_
  rintro e W3 ⟨rfl, hS⟩
  go_wp2_with fail
  go_ret
  refine ⟨rfl, (Ey ?_ _).trans hS⟩
  exact (BW.trans (hk1.b.mono hz5)).trans (hk2.b.mono hz5)
end Go.Proofs.YtdamegaedmckbaaGreatDoor
end
section
namespace Go.Proofs.YtdamegaedmckbaaGreatDoor
open Go.ChangeShapes Go.WideShapes Go.RowKit Go.Deep
variable {H : Type} {enc : TypeId × Value → H} {W : World} {sp : Nat → Bool} {held : Bool}
theorem W6 : reachBytes = 140737488351232 := rfl
instance : Inhabited Tm := ⟨⟨false, none, 0, 0, [], false, none, 0, 0, [], 0, 0, 0, 0⟩⟩
end Go.Proofs.YtdamegaedmckbaaGreatDoor
end
section
namespace Go.Proofs.YtdamegaedmckbaaGreatDoor
open Go.RowKit Go.ChangeShapes
theorem gER : Tryz.prog.globalNamed "strconv.ErrRange" = some 7 := by kernel_rfl
theorem bX : (Tryz.prog.globals[7]?).map (·.type) = some 108 := by kernel_rfl
theorem Wg : "*" ++ "errors.errorString" = "*errors.errorString" := by decide
theorem fN (u : TypeId) (h : Tryz.prog.typeName? 3 u = some "*errors.errorString") : u = 347 :=
 typeName_ptr_named (nm := "errors.errorString") (by rw [Wg]; kernel_rfl) qG qC u (by rw [Wg]; exact h)
theorem gV : Tryz.prog.cellsOf 349 = 1 := by kernel_rfl
theorem c9 : Tryz.prog.cellsOf 9 = 1 := by kernel_rfl
theorem Si {W : World} {x1 x2 x3 x4 : String × DataW Unit} {r : List (String × DataW Unit)} (h : laidMet Tryz.prog (x1 :: x2 :: x3 :: x4 :: ("strconv.ErrRange", (Rows.laid_strconv_ErrRange : DataW Unit)) :: r) W) : Kr W ∧ 7 < W.heap.size := by
 obtain ⟨a1, s1, hv1, -, -, -⟩ := laid_sentinel h.tail.tail.tail.tail gER bX Tryz.underlying108 fN Tryz.underlying347 Tryz.underlying349 rfl rfl Tryz.underlying9 gV c9
 have hc : W.cell? ⟨7, 0, none⟩ = some (.iface 347 (.pointer (some a1))) := by have h0 := World.var?_cell gER hv1 0; simpa using h0
 exact ⟨⟨_, hc, .inr ⟨_, _, rfl⟩⟩, Aa _ _ hc⟩
end Go.Proofs.YtdamegaedmckbaaGreatDoor
end
section
namespace Go.Proofs.YtdamegaedmckbaaGreatDoor
open Go.ChangeShapes Go.WideShapes Go.ChangeAt Go.RowKit Go.Deep
theorem gR : ownKnob Tryz.prog.godebug = none := by kernel_rfl
theorem gM : Tryz.prog.globalNamed "internal/strconv.uint64pow10" = some 0 := by kernel_rfl
theorem Ye : (Tryz.prog.globals[0]?).map (·.type) = some 284 := by kernel_rfl
theorem Ub : Tryz.prog.cellsOf 284 = 20 := by kernel_rfl
theorem Tt : Tryz.prog.cellsOf 111 = 1 := by kernel_rfl
theorem gC : (Rows.laid_internal_strconv_uint64pow10 : DataW Unit) = Lib.tabData .u64 Lib.pow10Tab := by kernel_rfl
theorem P0 {P : Program} {W : World} {x1 x2 : String × DataW Unit} {r : List (String × DataW Unit)} {name : String} {k : IntKind} {zs : List Int} {g : Nat} {t e : TypeId} {n : Nat}
  (hg : P.globalNamed name = some g) (hty : (P.globals[g]?).map (·.type) = some t) (ht : P.underlying t = some (.array n e)) (he : P.underlying e = some (.int k)) (hce : P.cellsOf e = 1) (hct : P.cellsOf t = n)
  (h : laidMet P (x1 :: x2 :: (name, Lib.tabData k zs) :: r) W) : Lib.TabIs P W name k zs := by
 obtain ⟨ps, ⟨_, _, _, _, _, _, _, _, _, _, ⟨_, _, _, _, _, _, _, _, _, _, ⟨g', t', cs, fuel, p, q, hg', ht', hvar, hd, _, _⟩, _⟩, _⟩, _⟩ := h
 obtain rfl := Option.some.inj (hg.symm.trans hg')
 obtain rfl := Option.some.inj (hty.symm.trans ht')
 unfold Lib.TabIs
 rw [hvar, ← Lib.cells_of_tab ht he hce hct hd]
theorem Th {W : World} {x1 x2 : String × DataW Unit} {r : List (String × DataW Unit)} (h : laidMet Tryz.prog (x1 :: x2 :: ("internal/strconv.uint64pow10", (Rows.laid_internal_strconv_uint64pow10 : DataW Unit)) :: r) W) : Tab W := by
 rw [gC] at h
 exact P0 gM Ye Tryz.underlying284 Tryz.underlying111 Tt Ub h
section
variable {H : Type} {enc : TypeId × Value → H} {P : Program}
end
theorem Yd : laidOutB Tryz.prog = true := by kernel_rfl
def fV : Obj → Obj
 | .cells _ t frozen => .cells #[.int .u64 1, .int .u64 10, .int .u64 100, .int .u64 1000, .int .u64 10000, .int .u64 100000, .int .u64 1000000, .int .u64 10000000, .int .u64 100000000, .int .u64 1000000000, .int .u64 10000000000, .int .u64 100000000000, .int .u64 1000000000000, .int .u64 10000000000000, .int .u64 100000000000000, .int .u64 1000000000000000, .int .u64 10000000000000000, .int .u64 100000000000000000, .int .u64 1000000000000000000, .int .u64 10000000000000000000] t frozen
 | o => o
def fS : Obj → Obj
 | .cells _ t frozen => .cells #[.int .u8 0, .int .u8 1, .int .u8 28, .int .u8 2, .int .u8 29, .int .u8 14, .int .u8 24, .int .u8 3, .int .u8 30, .int .u8 22, .int .u8 20, .int .u8 15, .int .u8 25, .int .u8 17, .int .u8 4, .int .u8 8, .int .u8 31, .int .u8 27, .int .u8 13, .int .u8 23, .int .u8 21, .int .u8 19, .int .u8 16, .int .u8 7, .int .u8 26, .int .u8 12, .int .u8 18, .int .u8 6, .int .u8 11, .int .u8 5, .int .u8 10, .int .u8 9] t frozen
 | o => o
def fY : Obj → Obj
 | .cells _ t frozen => .cells #[.int .u8 0, .int .u8 1, .int .u8 56, .int .u8 2, .int .u8 57, .int .u8 49, .int .u8 28, .int .u8 3, .int .u8 61, .int .u8 58, .int .u8 42, .int .u8 50, .int .u8 38, .int .u8 29, .int .u8 17, .int .u8 4, .int .u8 62, .int .u8 47, .int .u8 59, .int .u8 36, .int .u8 45, .int .u8 43, .int .u8 51, .int .u8 22, .int .u8 53, .int .u8 39, .int .u8 33, .int .u8 30, .int .u8 24, .int .u8 18, .int .u8 12, .int .u8 5, .int .u8 63, .int .u8 55, .int .u8 48, .int .u8 27, .int .u8 60, .int .u8 41, .int .u8 37, .int .u8 16, .int .u8 46, .int .u8 35, .int .u8 44, .int .u8 21, .int .u8 52, .int .u8 32, .int .u8 23, .int .u8 11, .int .u8 54, .int .u8 26, .int .u8 40, .int .u8 15, .int .u8 34, .int .u8 20, .int .u8 31, .int .u8 10, .int .u8 25, .int .u8 14, .int .u8 19, .int .u8 9, .int .u8 13, .int .u8 8, .int .u8 7, .int .u8 6] t frozen
 | o => o
def fI : Obj → Obj
 | .cells _ t frozen => .cells (Pinned.utf8FirstZ.map fun (n : Nat) => Value.int .u8 (n : Int)).toArray t frozen
 | o => o
def fC : Obj → Obj
 | .cells _ t frozen => .cells #[.int .u8 128, .int .u8 191, .int .u8 160, .int .u8 191, .int .u8 128, .int .u8 159, .int .u8 144, .int .u8 191, .int .u8 128, .int .u8 143, .int .u8 0, .int .u8 0, .int .u8 0, .int .u8 0, .int .u8 0, .int .u8 0, .int .u8 0, .int .u8 0, .int .u8 0, .int .u8 0, .int .u8 0, .int .u8 0, .int .u8 0, .int .u8 0, .int .u8 0, .int .u8 0, .int .u8 0, .int .u8 0, .int .u8 0, .int .u8 0, .int .u8 0, .int .u8 0] t frozen
 | o => o
def aL (b : Nat) : Obj → Obj
 | .cells _ t frozen => .cells #[.iface 347 (.pointer (some ⟨b, 0, none⟩))] t frozen
 | o => o
noncomputable def Qs (os : Os) : World :=
 { World.holding Tryz.prog os ⟨#[], #[], []⟩ with heap := ((((((((((World.holding Tryz.prog os ⟨#[], #[], []⟩).heap.modify 0 fV).modify 2 fS).modify 3 fY).modify 4 fI).modify 5 fC).modify 6 (aL (World.holding Tryz.prog os ⟨#[], #[], []⟩).heap.size)).modify 7 (aL ((World.holding Tryz.prog os ⟨#[], #[], []⟩).heap.size + 1))).push (.cells #[.string ⟨#[105, 110, 118, 97, 108, 105, 100, 32, 115, 121, 110, 116, 97, 120]⟩] 349)).push (.cells #[.string ⟨#[118, 97, 108, 117, 101, 32, 111, 117, 116, 32, 111, 102, 32, 114, 97, 110, 103, 101]⟩] 349)) }
end Go.Proofs.YtdamegaedmckbaaGreatDoor
end
section
namespace Go.Proofs.YtdamegaedmckbaaGreatDoor
open Go.ChangeShapes Go.WideShapes Go.ChangeAt Go.RowKit
section
theorem Xb {W W' : World} (h : Dd (fun g => W.heap.size ≤ g) W W') {p : MemPlace} (hp : p.block < W.heap.size) : W.sameAt W' p := by
 have hb := h.block p.block hp (fun e => by omega)
 cases p with
 | cell b o => exact Af (w := W) hb
 | map b => exact hb
theorem Tq {W W' : World} (h : Dd (fun g => W.heap.size ≤ g) W W') (may : MemPlace → Prop) : W.keptBut W' may := by
 refine ⟨h.os, h.output, fun i hi => ?_⟩
 rw [h.block i hi (fun e => by omega)]
 split <;> simp_all
variable {H : Type} {enc : TypeId × Value → H} {P : Program}
theorem Vr {f : Func} {s : ChangeSpec} {apart fresh handsOn again : Bool} {W W' : World} {args : Array Value} {v : Value} {ds gs : List (DataW H)} {before pa pv : List MemPlace}
  (hW : DataW.Whole enc P f.params.toList s.vars apart W args.toList ds gs before)
  (hres : ∀ (b : Nat) (sp : Nat → Bool) (hd : Bool), DataW.TrodAll enc P W' b sp hd f.resultTypes.toList (v.resultList f.resultTypes.size) (s.fn H (ds ++ gs)).results [])
  (hargs : ∀ sp : Nat → Bool, (∀ p ∈ before, sp p.block = true) → DataW.TrodAll enc P W' 0 sp true f.params.toList args.toList (s.fn H (ds ++ gs)).args pa)
  (hvars : ∀ sp : Nat → Bool, (∀ p ∈ before, sp p.block = true) → DataW.TrodVars enc P W' sp s.vars (s.fn H (ds ++ gs)).vars pv)
  (hps : before = pa ++ pv) (hb : Dd (fun g => W.heap.size ≤ g) W W')
  (hok : ∀ (j : Nat) (t : TypeId) (r : Value), f.resultTypes[j]? = some t → (v.resultList f.resultTypes.size)[j]? = some r → Value.okWide P W' .any 0 t r) :
  s.post enc P f apart fresh handsOn again W args v W' := by
 have hlt : ∀ p ∈ before, p.block < W.heap.size := fun p hp => hW.lt p hp
 have hold : ∀ p ∈ before, (fun b => decide (b < W.heap.size)) p.block = true := fun p hp => by simpa using hlt p hp
 refine ⟨ds, gs, before, [], pa, pv, hW, hres _ _ _, hargs _ hold, hvars _ hold, World.keptBut_mono (fun p hp => ⟨hp, ?_⟩) (Tq hb (· ∈ before)), fun _ => ?_⟩
 ·rw [hps, List.mem_append] at hp
  exact Or.inr hp
 ·obtain ⟨_, _, _, _, _, hz, hn⟩ := hW
  refine ⟨hok, _, _, ([] ++ pa) ++ pv, ⟨[] ++ pa, pv, trodAll_append (hargs _ (fun _ _ => rfl)) (hres _ _ _), hvars _ (fun _ _ => rfl), rfl, ?_, ?_⟩, ?_⟩
  ·intro b off hp
   have hin : MemPlace.cell b off ∈ before := by rw [hps]; simpa using hp
   rw [World.frozen?_of_block (a := ⟨b, off, none⟩) (hb.block b (hlt _ hin) (fun e => by have h1 : b < W.heap.size := hlt _ hin; omega))]
   exact hz b off hin
  ·intro ha
   have := hn ha
   rw [hps] at this
   simpa using this
  ·intro p hp _
   rw [hps]
   simpa using hp
end
theorem Ta (H : Type) (enc : TypeId × Value → H) (W : World) (base : Nat) (args : Array Value) (ds gs : List (DataW H)) (before : List MemPlace)
  (hval : ∀ (j : Nat) t v, Tryz.f4.params[j]? = some t → args[j]? = some v → Value.okWide Tryz.prog W .any base t v)
  (hW : DataW.Whole enc Tryz.prog Tryz.f4.params.toList Rows.spellsReadsSpec.vars false W args.toList ds gs before)
  (hreach : (DataW.weightsEach Tryz.prog (Tryz.f4.params.toList ++ (OpenSpec.ofChange Rows.spellsReadsSpec).bare.plain.varTypes Tryz.prog) (ds ++ gs)).all (· ≤ reachBytes) = true)
  (hL : laidMetH Tryz.prog Rows.spellsReadsRow.laid W) :
  Calls Tryz.prog 4 args W fun e W' => ∃ v, e = .returned v ∧ Rows.spellsReadsSpec.post enc Tryz.prog Tryz.f4 false true false false W args v W' := by
 have hW' := hW
 obtain ⟨p, q, hA0, hV, rfl, hfz, hnd⟩ := hW
 have hA : DataW.TrodAll enc Tryz.prog W 0 (fun _ => true) true Tryz.f4.params.toList args.toList ds p := hA0
 rw [Tryz.params4] at hA hval hreach
 obtain ⟨v0, vs0, d0, ds0, p0, q0, hargs, rfl, rfl, t0, r0⟩ := trodAll_cons hA
 obtain ⟨rfl, rfl, rfl⟩ := trodAll_nil r0
 obtain rfl : args = #[v0] := by cases args; simp_all
 obtain ⟨rfl, rfl⟩ := trodVars_none hV
 clear hA0
 have fit0 : ∀ x ∈ d0.weights Tryz.prog 9, x ≤ reachBytes := fun x hx => by
  have := List.all_eq_true.1 hreach x (DataW.weights_mem_each (j := 0) (t := 9) rfl rfl x hx)
  simpa using this
 obtain ⟨b0, rfl⟩ := okWide_string Tryz.underlying9 (hval 0 9 v0 rfl rfl)
 have s0 := t0
 obtain ⟨f0, hf0⟩ := t0
 obtain ⟨b', hcs, hd, _⟩ := DataW.trod_string Tryz.underlying9 hf0
 have hcs' : [Value.string b0] = [Value.string b'] := hcs
 simp only [List.cons.injEq, Value.string.injEq, and_true] at hcs'
 subst hcs'
 clear hcs
 obtain ⟨x0, rfl⟩ : ∃ x : List UInt8, b0 = ⟨x.toArray⟩ := ⟨b0.data.toList, by cases b0; rfl⟩
 have hd' : d0 = .lit (.string x0) := congrArg Prod.fst hd
 have h0 : x0.length ≤ 140737488351232 := by
  have := fit0 x0.length (by rw [hd', DataW.weights]; exact Ao.2 rfl)
  rw [W6] at this
  exact this
 clear hd hd'
 have hT := Th (r := [("unicode/utf8.acceptRanges", Rows.laid_unicode_utf8_acceptRanges), ("strconv.ErrRange", Rows.laid_strconv_ErrRange), ("strconv.ErrSyntax", Rows.laid_strconv_ErrSyntax), ("unicode/utf8.first", Rows.laid_unicode_utf8_first)]) hL
 obtain ⟨hV, h7⟩ := Si (r := [("strconv.ErrSyntax", Rows.laid_strconv_ErrSyntax), ("unicode/utf8.first", Rows.laid_unicode_utf8_first)]) hL
 simp only [List.append_nil] at hW'
 refine (Oo W x0 qB hV h7).mono fun e W' ⟨he, hb⟩ => ?_
 subst he
 refine ⟨_, rfl, Vr (pa := p0) (pv := []) hW' (fun _ _ _ => trodAll_cons_mk (shut_bool Tryz.underlying4 _) trodAll_mk0) (fun sp hsp => ?_) (fun _ _ => rfl) qH hb (ok_one qG rfl (okWide_bool_mk Tryz.underlying4 _))⟩
 have hlt : ∀ x ∈ p0, x.block < W.heap.size := fun x hx => hW'.lt x (by simpa using hx)
 have k0 := WideElems.Trod_stays (P := Tryz.prog) Yd qG (of_decide_eq_true qG) s0 (fun x hx => Xb hb (hlt x (by simp [hx]))) (fun x hx => hsp x (by simp [hx]))
 have := trodAll_cons_mk k0 (trodAll_mk0)
 rw [List.append_nil] at this
 exact this
theorem eD (os : Os) : laidMet Tryz.prog Rows.spellsReadsRow.laid ((Qs os).forCall (fun _ _ => 0) ⟨#[], #[.string ⟨#[]⟩], []⟩).memory :=
 laidMet_of_run' 8 qG qG
theorem Zy (os : Os) {H : Type} (enc : TypeId × Value → H) : ∃ places, DataW.whole enc Tryz.prog ((Qs os).forCall (fun _ _ => 0) ⟨#[], #[.string ⟨#[]⟩], []⟩).memory Tryz.f4.params.toList Rows.spellsReadsSpec.vars false #[Value.string ⟨#[]⟩].toList 8 = some ([.lit (.string [])], [], places) :=
 ⟨[], by kernel_rfl⟩
theorem W8 (os : Os) (started : os.Started) (H : Type) (enc : TypeId × Value → H) (F : Stop.Interp) :
  ReturnsInHanded {} Tryz.checked os 4 .any ((OpenSpec.ofChange Rows.spellsReadsSpec).preRow enc Tryz.prog Tryz.f4 Rows.spellsReadsRow.domain false Rows.spellsReadsRow.laid) (((OpenSpec.ofChange Rows.spellsReadsSpec).at F).post enc Tryz.prog Tryz.f4 false true false false) := by
 obtain ⟨places, hx⟩ := Zy os enc
 refine returnsInHanded_of_row (C := Tryz.checked) (s := OpenSpec.ofChange Rows.spellsReadsSpec) gR started qG Tryz.func4
  (witness_row_at (enc := enc) (C := Tryz.checked) false (Qs os) #[.string ⟨#[]⟩] rfl qG qG qG
   (OpenSpec.preRow_of_cond 8 hx qG (fun k hk => by cases hk) qG (eD os))) ?_
 intro W base args ds gs before hval hW _ _ hreach hL _ _
 exact Ta H enc W base args ds gs before hval hW hreach hL
end Go.Proofs.YtdamegaedmckbaaGreatDoor
end
