/- A region that draws its order, and at whose end stand stores into cells that it has read: the condition on the world is asked only till the first of these stores. No program. -/
import Derived.Test.YtdamegaedmckbaaGreatDoorQT0
import Derived.Deep.RegionHeld3
import Derived.Test.YtdamegaedmckbaaGreatDoorQTZ
set_option linter.unusedSimpArgs false
set_option linter.unusedVariables false
set_option maxRecDepth 100000
set_option maxHeartbeats 4000000
section
namespace Go.Proofs.YtdamegaedmckbaaGreatDoor
open Go.RowKit
section
variable {P : Program} {ops : Array Oper} {Q : Exit → Act → World → Prop} {md : Region.Mode} {C : World → Prop} {s : Nat}
def AnyC (P : Program) (md : Region.Mode) (ops : Array Oper) (Q : Exit → Act → World → Prop) (C : World → Prop) (s : Nat) : Nat → Array Bool → Act → World → Prop
 | 0, l, a, w => Region.ready md ops l = [] ∧ Q .normal a w
 | f + 1, l, a, w => (Region.ready md ops l = [] → Q .normal a w) ∧
   ∀ i ∈ Region.ready md ops l, wpOp P ops Q i (fun a' w' => ((l.setIfInBounds i true).getD s true = false → C w') ∧ AnyC P md ops Q C s f (l.setIfInBounds i true) a' w') a w
theorem AnyC.any : ∀ (f : Nat) (l : Array Bool) (a : Act) (w : World), AnyC P md ops Q C s f l a w → wpAny P md ops Q f l a w
 | 0, _, _, _, h => h
 | f + 1, _, _, _, h => ⟨h.1, fun i hi => wpOp_mono (fun a' w' h' => AnyC.any f _ a' w' h'.2) (h.2 i hi)⟩
def waitsFor (md : Region.Mode) (ops : Array Oper) (s i : Nat) : Bool :=
 match ops[s]? with
 | none => false
 | some o => o.after.any fun e => Region.binds md e && e.on == i
theorem waits_not {s i : Nat} {l : Array Bool} (hw : waitsFor md ops s i = true) (h0 : l.getD i true = false) : s ∉ Region.ready md ops l := by
 intro hs
 obtain ⟨_, o, ho, hall⟩ := mem_ready.1 hs
 rw [waitsFor, ho] at hw
 obtain ⟨e, he, hb⟩ := Array.any_eq_true'.1 hw
 rw [Bool.and_eq_true, beq_iff_eq] at hb
 have h1 := hall e he hb.1
 rw [hb.2] at h1
 rcases Nat.lt_or_ge i l.size with h' | h'
 ·simp [h'] at h0 h1; rw [h0] at h1; cases h1
 ·simp [Array.getElem?_eq_none h'] at h1
theorem AnyC.first {i : Nat} {oi : Oper} {v : Value} (hi : ops[i]? = some oi) (hsel : ∀ (j : Nat) (o : Oper) cs b, ops[j]? = some o → o.op ≠ .select cs b)
  (hQ : ∀ c a w, Q (.panic c) (a.put oi.dst v) w → Q (.panic c) a w) {k : Nat} (hwk : waitsFor md ops k i = true) (hws : k = s ∨ waitsFor md ops s k = true) (hik : i ≠ k) (his : i ≠ s) :
  ∀ (f : Nat) (l : Array Bool) (a : Act) (w : World),
   (∀ j oj, ops[j]? = some oj → j ≠ i → l.getD j true = false → (∀ e ∈ oj.after, Region.binds md e = true → e.on ≠ i) → oi.apart ops oj = true) →
   i ∈ Region.ready md ops l → l.getD k true = false → l.getD s true = false → YieldsIf P ops C oi v a → C w →
   AnyC P md ops Q C s f (l.setIfInBounds i true) (a.put oi.dst v) w → AnyC P md ops Q C s (f + 1) l a w := by
 intro f
 induction f with
 | zero =>
  intro l a w _ hr _ _ hy hC H
  refine ⟨fun h => (by rw [h] at hr; cases hr), fun j hj => ?_⟩
  rcases Decidable.em (j = i) with rfl | hji
  ·exact hy.wpOp hi hC ⟨fun _ => hC, H⟩
  ·have := ready_mono hj hji
   rw [H.1] at this
   cases this
 | succ f ih =>
  intro l a w hfree hr hk hs hy hC H
  refine ⟨fun h => (by rw [h] at hr; cases hr), fun j hj => ?_⟩
  rcases Decidable.em (j = i) with rfl | hji
  ·exact hy.wpOp hi hC ⟨fun _ => hC, H⟩
  ·have hi0 := (mem_ready.1 hr).1
   have hjk : j ≠ k := fun h => waits_not hwk hi0 (h ▸ hj)
   have hjs : j ≠ s := fun h => hws.elim (fun e => hjk (h.trans e.symm)) (fun e => waits_not e hk (h ▸ hj))
   obtain ⟨hjun, oj, hoj, hall⟩ := mem_ready.1 hj
   have hnot : ∀ e ∈ oj.after, Region.binds md e = true → e.on ≠ i := fun e he hb heq => by
    have hw2 : waitsFor md ops j i = true := by
     rw [waitsFor, hoj]
     exact Array.any_eq_true'.2 ⟨e, he, by rw [Bool.and_eq_true, beq_iff_eq]; exact ⟨hb, heq⟩⟩
    exact waits_not hw2 hi0 hj
   have h2 := wpOp_putIf hoj (hfree j oj hoj hji hjun hnot) (fun cs b => hsel i oi cs b hi) (fun cs b => hsel j oj cs b hoj) hQ hy (H.2 j (ready_mono hj hji))
   have hk' : (l.setIfInBounds j true).getD k true = false := by rw [getD_set_ne true hjk]; exact hk
   have hs' : (l.setIfInBounds j true).getD s true = false := by rw [getD_set_ne true hjs]; exact hs
   have hsi : ((l.setIfInBounds i true).setIfInBounds j true).getD s true = false := by rw [getD_set_ne true hjs, getD_set_ne true his]; exact hs
   have hfree' : ∀ k ok, ops[k]? = some ok → k ≠ i → (l.setIfInBounds j true).getD k true = false →
     (∀ e ∈ ok.after, Region.binds md e = true → e.on ≠ i) → oi.apart ops ok = true := fun m om hm hmi hun hno => by
    refine hfree m om hm hmi ?_ hno
    rcases Decidable.em (j = m) with rfl | hjm
    ·exact hjun
    ·rw [getD_set_ne true hjm] at hun; exact hun
   refine wpOp_mono (fun a' w' h3 => ⟨fun _ => h3.2.1 hsi, ih (l.setIfInBounds j true) a' w' hfree' (ready_mono hr (Ne.symm hji)) hk' hs' h3.1 (h3.2.1 hsi) ?_⟩) h2
   rw [Array.setIfInBounds_comm _ _ hji]
   exact h3.2.2
theorem AnyC.take {i : Nat} (k : Nat) {oi : Oper} {v : Value} {f : Nat} {l : Array Bool} {a : Act} {w : World} (hi : ops[i]? = some oi)
  (hk : (Region.noSelect ops && Region.free md ops l i && (Region.ready md ops l).contains i && waitsFor md ops k i && (k == s || waitsFor md ops s k) && !(i == k) && !(i == s) && !(l.getD k true) && !(l.getD s true)) = true)
  (hQ : ∀ c a w, Q (.panic c) (a.put oi.dst v) w → Q (.panic c) a w) (hy : YieldsIf P ops C oi v a) (hC : C w)
  (h : AnyC P md ops Q C s f (l.setIfInBounds i true) (a.put oi.dst v) w) : AnyC P md ops Q C s (f + 1) l a w := by
 simp only [Bool.and_eq_true, Bool.or_eq_true, Bool.not_eq_true', beq_eq_false_iff_ne, beq_iff_eq] at hk
 obtain ⟨⟨⟨⟨⟨⟨⟨⟨h1, h2⟩, h3⟩, h4⟩, h5⟩, h6⟩, h7⟩, h8⟩, h9⟩ := hk
 exact AnyC.first hi (Region.noSelect_spec h1) hQ h4 h5 h6 h7 f l a w (Region.free_spec hi h2) (by simpa using h3) h8 h9 hy hC h
theorem AnyC.one {i : Nat} {o : Oper} {f : Nat} {l : Array Bool} {a : Act} {w : World} (ho : ops[i]? = some o) (hr : Region.ready md ops l = [i])
  (h : ∀ K' : Act → World → Prop, Shut (∀ a w, ((l.setIfInBounds i true).getD s true = false → C w) → AnyC P md ops Q C s f (l.setIfInBounds i true) a w → K' a w) → if Region.wanted o (yielded ops a.tmps) = true then Oper.wp P o a w K' Q else K' (a.put o.dst undef) w) :
  AnyC P md ops Q C s (f + 1) l a w := by
 refine ⟨fun h0 => (by rw [hr] at h0; cases h0), ?_⟩
 rw [hr]
 intro j hj
 rw [List.mem_singleton] at hj
 subst hj
 exact wpOp_step ho (fun K' hK => h K' (fun a w h1 h2 => hK a w ⟨h1, h2⟩))
theorem AnyC.done {l : Array Bool} {a : Act} {w : World} (hr : Region.ready md ops l = []) (h : Q .normal a w) : ∀ f, AnyC P md ops Q C s f l a w
 | 0 => ⟨hr, h⟩
 | _ + 1 => ⟨fun _ => h, by rw [hr]; simp⟩
theorem wp_region_C {id : Nat} {a : Act} {w : World} (C : World → Prop) (s : Nat) (hm : P.follows .mixedOrders = true) (hC : C w.drew)
  (h : C w.drew → AnyC P .any ops Q C s ops.size (Array.replicate ops.size false) a w.drew) : (Code.region id ops true).wp P Q a w :=
 wp_region_any hm (AnyC.any _ _ _ _ (h hC))
end
end Go.Proofs.YtdamegaedmckbaaGreatDoor
end
