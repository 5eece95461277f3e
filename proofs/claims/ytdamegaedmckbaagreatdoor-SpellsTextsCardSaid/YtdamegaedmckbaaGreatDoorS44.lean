/- A sum that came in, read as data, is one in memory. -/
import Derived.Test.YtdamegaedmckbaaGreatDoorS0
import Derived.Deep.Slices
import Derived.ChangeSame
import Derived.OpenShut
import Derived.Laws.IdiomArrays
import Derived.SizedLaws
set_option linter.unusedSimpArgs false
set_option linter.unusedVariables false
set_option linter.unusedSimpArgs false
set_option linter.unusedVariables false
namespace Go.Proofs.YtdamegaedmckbaaGreatDoor
open Go.ChangeShapes Go.WideShapes Go.RowKit Go.Deep

variable {H : Type} {enc : TypeId × Value → H} {W : World} {sp : Nat → Bool} {held : Bool}

/-- Nothing in a datum takes up more than the form's reach. -/
def Fits (t : TypeId) (d : DataW H) : Prop := ∀ x ∈ d.weights Tryz.prog t, x ≤ reachBytes

theorem reach_val : reachBytes = 140737488351232 := rfl

theorem weightsAll_mem {e : TypeId} : ∀ {l : List (DataW H)} {d : DataW H}, d ∈ l → ∀ n ∈ d.weights Tryz.prog e, n ∈ DataW.weightsAll Tryz.prog e l := by
  intro l
  induction l with
  | nil => intro d hd; cases hd
  | cons x l ih =>
    intro d hd n hn
    rw [DataW.weightsAll, List.mem_append]
    rcases List.mem_cons.1 hd with rfl | hd
    · exact .inl hn
    · exact .inr (ih hd n hn)

theorem fits_part {t : TypeId} {fs : Array Field} {parts : List (DataW H)} (ht : Tryz.prog.underlying t = some (.struct fs)) (h : Fits t (.agg parts)) {j : Nat} {f : Field} {d : DataW H} (hf : fs[j]? = some f) (hd : parts[j]? = some d) : Fits f.type d := by
  intro x hx
  refine h x ?_
  rw [DataW.weights, ht]
  refine DataW.weights_mem_each (j := j) (t := f.type) ?_ hd x hx
  rw [List.getElem?_map, Array.getElem?_toList, hf]
  rfl

theorem fits_elem {t e : TypeId} {elems spare : List (DataW H)} (ht : Tryz.prog.underlying t = some (.slice e)) (h : Fits t (.slice elems spare)) {d : DataW H} (hd : d ∈ elems) : Fits e d := by
  intro x hx
  refine h x ?_
  rw [DataW.weights, ht]
  exact List.mem_cons_of_mem _ (List.mem_append_left _ (weightsAll_mem hd x hx))

theorem fits_size {t e : TypeId} {elems spare : List (DataW H)} (ht : Tryz.prog.underlying t = some (.slice e)) (h : Fits t (.slice elems spare)) : (elems.length + spare.length) * Tryz.prog.bytesOf e ≤ 140737488351232 := by
  refine h _ ?_
  rw [DataW.weights, ht]
  exact List.mem_cons_self ..

theorem addr_none {a : Addr} {v : Value} (h : W.cell? a = some v) : ∃ b o, a = ⟨b, o, none⟩ := by
  obtain ⟨b, o, s⟩ := a
  cases s with
  | none => exact ⟨b, o, rfl⟩
  | some i =>
    simp only [World.cell?] at h
    split at h <;> cases h

theorem cellsOf112 : Tryz.prog.cellsOf 112 = 1 := by kernel_rfl
theorem bytesOf112 : Tryz.prog.bytesOf 112 = 4 := by kernel_rfl
theorem cellsOf68 : Tryz.prog.cellsOf 68 = 8 := by kernel_rfl
theorem bytesOf68 : Tryz.prog.bytesOf 68 = 72 := by kernel_rfl

theorem open_limbs {fuel : Nat} {cs : List Value} {x : DataW H × List MemPlace} (h : DataW.trod enc Tryz.prog W 0 (fun _ => true) held fuel 57 cs = some x) (hw : Fits 57 x.1) :
    ∃ a n c d, cs = [.slice a n c] ∧ RdL W a n c d := by
  rcases open_ints (k := .u32) Tryz.underlying57 (by kernel_rfl) cellsOf112 h with ⟨rfl, _⟩ | ⟨a, len, cap, zs, rfl, _, hl, hm, hzl, rfl, hcell, hwf⟩
  · exact ⟨none, 0, 0, [], rfl, rfl, Nat.le_refl _, by omega, by omega, fun i => by simp [lim], .inl rfl⟩
  · simp only [if_true] at hzl
    have hsz := fits_size Tryz.underlying57 hw
    rw [bytesOf112] at hsz
    have hcl : cap * 4 ≤ 140737488351232 := by
      simp only [lits, List.length_map, List.length_take, List.length_drop] at hsz
      omega
    have hr : ∀ z ∈ zs, 0 ≤ z ∧ z < 4294967296 := fun z hz => by
      have := hwf z hz
      simp [Lit.wf, IntKind.min, IntKind.max, IntKind.signed, IntKind.bits] at this
      omega
    have hgd : ∀ i, 0 ≤ zs.getD i 0 ∧ zs.getD i 0 < 4294967296 := fun i => by
      by_cases hi : i < zs.length
      · simp only [List.getD, List.getElem?_eq_getElem hi, Option.getD_some]; exact hr _ (List.getElem_mem hi)
      · simp [List.getD, List.getElem?_eq_none (Nat.le_of_not_lt hi)]
    have hlim : ∀ i, i < len → lim ((zs.take len).map Int.toNat) i = zs.getD i 0 := fun i hi => by
      have h1 := hgd i
      simp only [lim, List.getD, List.getElem?_map, List.getElem?_take_of_lt hi, List.getElem?_eq_getElem (show i < zs.length by omega), Option.map_some, Option.getD_some] at h1 ⊢
      omega
    refine ⟨some a, len, cap, (zs.take len).map Int.toNat, rfl, ?_, hl, by omega, by unfold maxLen at hm; omega, fun i => ?_, ?_⟩
    · rw [List.length_map, List.length_take]; omega
    · by_cases hi : i < len
      · rw [hlim i hi]; exact hgd i
      · rw [show lim ((zs.take len).map Int.toNat) i = 0 by simp only [lim, List.getD]; rw [List.getElem?_eq_none (by rw [List.length_map, List.length_take]; omega)]; rfl]; omega
    · rcases Nat.eq_zero_or_pos len with h0 | h0
      · exact .inl h0
      · right
        have h1 := hcell 0 (by omega)
        rw [show a.add 0 = a from rfl] at h1
        obtain ⟨b, o, rfl⟩ := addr_none h1
        refine ⟨b, o, rfl, fun i hi => ?_⟩
        have h2 := hcell i (by omega)
        have hadd : (⟨b, o, none⟩ : Addr).add i = ⟨b, o + i, none⟩ := by unfold Addr.add; split <;> simp_all
        rw [hadd] at h2
        rw [h2, hlim i hi]

set_option maxRecDepth 100000 in
theorem open_num {fuel : Nat} {c0 c1 : Value} {x : DataW H × List MemPlace} (h : DataW.trod enc Tryz.prog W 0 (fun _ => true) held fuel 59 [c0, c1] = some x) (hw : Fits 59 x.1) :
    ∃ g a n c d, c0 = .bool g ∧ c1 = .slice a n c ∧ RdL W a n c d := by
  obtain ⟨xs, n, _, rfl, _, hlen, hf⟩ := DataW.trod_struct Tryz.underlying59 h
  match xs, hlen with
  | [y0, y1], _ =>
    have h0 := hf 0 _ rfl
    have h1 := hf 1 _ rfl
    have f1 := fits_part Tryz.underlying59 hw (j := 1) (d := y1.1) rfl rfl
    obtain ⟨g, hg, _⟩ := DataW.trod_bool (P := Tryz.prog) (t := 4) (by kernel_rfl) (show DataW.trod enc Tryz.prog W 0 (fun _ => true) held n 4 [c0] = some y0 from h0)
    obtain ⟨a, m, c, d, hc, hr⟩ := open_limbs (show DataW.trod enc Tryz.prog W 0 (fun _ => true) held n 57 [c1] = some y1 from h1) f1
    simp only [List.cons.injEq, and_true] at hg hc
    exact ⟨g, a, m, c, d, hg, hc, hr⟩

set_option maxRecDepth 100000 in
theorem open_u16 {fuel : Nat} {c0 : Value} {x : DataW H × List MemPlace} (h : DataW.trod enc Tryz.prog W 0 (fun _ => true) held fuel 55 [c0] = some x) : ∃ m : Nat, c0 = .int .u16 m ∧ m < 65536 := by
  obtain ⟨z, hz, _, hwf⟩ := DataW.trod_int (k := .u16) u55 h
  simp only [List.cons.injEq, and_true] at hz
  have hr : 0 ≤ z ∧ z < 65536 := by
    simp [Lit.wf, IntKind.min, IntKind.max, IntKind.signed, IntKind.bits] at hwf
    omega
  exact ⟨z.toNat, by rw [hz, Int.toNat_of_nonneg hr.1], by omega⟩

set_option maxRecDepth 100000 in
theorem open_term {fuel : Nat} {cs : List Value} {x : DataW H × List MemPlace} (h : DataW.trod enc Tryz.prog W 0 (fun _ => true) held fuel 68 cs = some x) (hw : Fits 68 x.1) :
    ∃ t : Tm, cs = [.bool t.g1, .slice t.a1 t.n1 t.c1, .bool t.g2, .slice t.a2 t.n2 t.c2, .int .u16 t.m0, .int .u16 t.m1, .int .u16 t.m2, .int .u16 t.m3] ∧ RdTm W t := by
  obtain ⟨xs, n, _, rfl, hcl, hlen, hf⟩ := DataW.trod_struct Tryz.underlying68 h
  rw [cellsOf68] at hcl
  match cs, hcl, xs, hlen with
  | [c0, c1, c2, c3, c4, c5, c6, c7], _, [y0, y1], _ =>
    have h0 := hf 0 _ rfl
    have h1 := hf 1 _ rfl
    have f0 := fits_part Tryz.underlying68 hw (j := 0) (d := y0.1) rfl rfl
    replace h0 : DataW.trod enc Tryz.prog W 0 (fun _ => true) held n 64 [c0, c1, c2, c3] = some y0 := h0
    replace h1 : DataW.trod enc Tryz.prog W 0 (fun _ => true) held n 66 [c4, c5, c6, c7] = some y1 := h1
    obtain ⟨ys, n', _, rfl, _, hylen, hg⟩ := DataW.trod_struct Tryz.underlying64 h0
    match ys, hylen with
    | [z0, z1], _ =>
      have g0 := hg 0 _ rfl
      have g1 := hg 1 _ rfl
      have e0 := fits_part Tryz.underlying64 f0 (j := 0) (d := z0.1) rfl rfl
      have e1 := fits_part Tryz.underlying64 f0 (j := 1) (d := z1.1) rfl rfl
      replace g0 : DataW.trod enc Tryz.prog W 0 (fun _ => true) held n' 59 [c0, c1] = some z0 := g0
      replace g1 : DataW.trod enc Tryz.prog W 0 (fun _ => true) held n' 59 [c2, c3] = some z1 := g1
      obtain ⟨q1, a1, n1, k1, d1, rfl, rfl, r1⟩ := open_num g0 e0
      obtain ⟨q2, a2, n2, k2, d2, rfl, rfl, r2⟩ := open_num g1 e1
      obtain ⟨u0, u1, u2, u3, n3, _, t0, t1, t2, t3⟩ := trod_array4 Tryz.underlying66 c55 h1
      obtain ⟨m0, rfl, b0⟩ := open_u16 t0
      obtain ⟨m1, rfl, b1⟩ := open_u16 t1
      obtain ⟨m2, rfl, b2⟩ := open_u16 t2
      obtain ⟨m3, rfl, b3⟩ := open_u16 t3
      exact ⟨⟨q1, a1, n1, k1, d1, q2, a2, n2, k2, d2, m0, m1, m2, m3⟩, rfl, r1, r2, b0, b1, b2, b3⟩

instance : Inhabited Tm := ⟨⟨false, none, 0, 0, [], false, none, 0, 0, [], 0, 0, 0, 0⟩⟩

set_option maxRecDepth 100000 in
theorem open_poly {fuel : Nat} {cs : List Value} {x : DataW H × List MemPlace} (h : DataW.trod enc Tryz.prog W 0 (fun _ => true) held fuel 23 cs = some x) (hw : Fits 23 x.1) :
    ∃ a n c p, cs = [.slice a n c] ∧ RdP W a n c p := by
  rcases open_slice Tryz.underlying23 h with ⟨rfl, _⟩ | ⟨a, len, cap, m, n, D, Pl, rfl, _, hl, hm, hmm, rfl, hx⟩
  · exact ⟨none, 0, 0, fun _ => ⟨false, none, 0, 0, [], false, none, 0, 0, [], 0, 0, 0, 0⟩, rfl, Nat.le_refl _, by omega, by omega, fun i hi => absurd hi (Nat.not_lt_zero _), .inl rfl⟩
  · simp only [if_true] at hmm
    have hsz := fits_size Tryz.underlying23 hw
    rw [bytesOf68] at hsz
    simp only [List.length_map, List.length_range] at hsz
    rw [cellsOf68] at hx
    have key : ∀ i, i < len → ∃ t : Tm, RdTm W t ∧ ∀ j u, [Value.bool t.g1, .slice t.a1 t.n1 t.c1, .bool t.g2, .slice t.a2 t.n2 t.c2, .int .u16 t.m0, .int .u16 t.m1, .int .u16 t.m2, .int .u16 t.m3][j]? = some u → W.cell? ((a.add (i * 8)).add j) = some u := fun i hi => by
      obtain ⟨cs', hc, ht⟩ := hx i (by omega)
      have hd : Fits 68 (D i) := fits_elem Tryz.underlying23 hw (List.mem_map.2 ⟨i, List.mem_range.2 hi, rfl⟩)
      obtain ⟨t, rfl, hr⟩ := open_term ht hd
      obtain ⟨_, _, hat⟩ := World.cells?_some hc
      refine ⟨t, hr, fun j u hu => ?_⟩
      have hj : j < 8 := by
        rcases Nat.lt_or_ge j 8 with h1 | h1
        · exact h1
        · rw [List.getElem?_eq_none (by simpa using h1)] at hu; cases hu
      rw [hat j hj]; exact hu
    obtain ⟨p, hp⟩ := choose_lt (α := Tm) (p := fun i t => RdTm W t ∧ ∀ j u, [Value.bool t.g1, .slice t.a1 t.n1 t.c1, .bool t.g2, .slice t.a2 t.n2 t.c2, .int .u16 t.m0, .int .u16 t.m1, .int .u16 t.m2, .int .u16 t.m3][j]? = some u → W.cell? ((a.add (i * 8)).add j) = some u) key
    refine ⟨some a, len, cap, p, rfl, hl, by omega, by unfold maxLen at hm; omega, fun i hi => (hp i hi).1, ?_⟩
    rcases Nat.eq_zero_or_pos len with h0 | h0
    · exact .inl h0
    · right
      have h1 := (hp 0 h0).2 0 _ rfl
      obtain ⟨b, o, rfl⟩ := addr_none (a := a) h1
      refine ⟨b, o, rfl, fun i hi => ?_⟩
      have h2 := (hp i hi).2
      have hadd : ∀ j, ((⟨b, o, none⟩ : Addr).add (i * 8)).add j = ⟨b, o + i * 8 + j, none⟩ := fun j => by
        unfold Addr.add; split <;> split <;> simp_all
      simp only [hadd] at h2
      exact ⟨h2 0 _ rfl, h2 1 _ rfl, h2 2 _ rfl, h2 3 _ rfl, h2 4 _ rfl, h2 5 _ rfl, h2 6 _ rfl, h2 7 _ rfl⟩
end Go.Proofs.YtdamegaedmckbaaGreatDoor
