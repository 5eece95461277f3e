/- A book's lists of kinds of which it holds none: filled, grown, looked at. -/
import Derived.Test.YtdamegaedmckbaaGreatDoorQP45
set_option linter.unusedSimpArgs false
set_option linter.unusedVariables false
set_option maxRecDepth 100000
set_option maxHeartbeats 4000000
section
namespace Go.Proofs.YtdamegaedmckbaaGreatDoor
open Go.RowKit
theorem Vz (w : World) (K : Nat) (h : w.cell? ⟨K, 1, none⟩ = some (.slice none 0 0)) : Calls Tryz.prog 55 #[.pointer (some ⟨K, 0, none⟩)] w fun e w' => e = .returned (.tuple #[]) ∧ Below w.heap.size w w' := by
 go_enter Tryz.func55, Tryz.ntmps55
 go_wp2_with fail
 go_loopw [2] (fun v wr => v = .int .i64 0 ∧ Below w.heap.size w wr ∧ wr.cell? ⟨K, 1, none⟩ = some (.slice none 0 0)) (fun _ _ => 0)
 case atStart => exact ⟨rfl, by go_grown, by assumption⟩
 case round =>
  obtain ⟨rfl, HB, hc⟩ := hrel
  go_wp2_with fail
  exact bodyPost_end (v := .tuple #[]) (by simp [results, Tryz.results55, go_sem]) rfl ⟨rfl, HB⟩
theorem Uz (w : World) (K : Nat) (h : w.cell? ⟨K, 1, none⟩ = some (.slice none 0 0)) : Calls Tryz.prog 67 #[.pointer (some ⟨K, 0, none⟩)] w fun e w' => e = .returned (.tuple #[]) ∧ Below w.heap.size w w' := by
 go_enter Tryz.func67, Tryz.ntmps67
 go_wp2_with fail
 go_loopw [2] (fun v wr => v = .int .i64 0 ∧ Below w.heap.size w wr ∧ wr.cell? ⟨K, 1, none⟩ = some (.slice none 0 0)) (fun _ _ => 0)
 case atStart => exact ⟨rfl, by go_grown, by assumption⟩
 case round =>
  obtain ⟨rfl, HB, hc⟩ := hrel
  go_wp2_with fail
  exact bodyPost_end (v := .tuple #[]) (by simp [results, Tryz.results67, go_sem]) rfl ⟨rfl, HB⟩
theorem Tl (w : World) (K : Nat) (h : w.cell? ⟨K, 1, none⟩ = some (.slice none 0 0)) : Calls Tryz.prog 79 #[.pointer (some ⟨K, 0, none⟩)] w fun e w' => e = .returned (.bool true) ∧ Below w.heap.size w w' := by
 go_enter Tryz.func79, Tryz.ntmps79
 go_wp2_with fail
 go_loopw [3] (fun v wr => v = .int .i64 0 ∧ Below w.heap.size w wr ∧ wr.cell? ⟨K, 1, none⟩ = some (.slice none 0 0)) (fun _ _ => 0)
 case atStart => exact ⟨rfl, by go_grown, by assumption⟩
 case round =>
  exact qBr
theorem Ul (w : World) (K : Nat) (h : w.cell? ⟨K, 3, none⟩ = some (.slice none 0 0)) : Calls Tryz.prog 57 #[.pointer (some ⟨K, 0, none⟩)] w fun e w' => e = .returned (.tuple #[]) ∧ Below w.heap.size w w' := by
 go_enter Tryz.func57, Tryz.ntmps57
 go_wp2_with fail
 go_loopw [2] (fun v wr => v = .int .i64 0 ∧ Below w.heap.size w wr ∧ wr.cell? ⟨K, 3, none⟩ = some (.slice none 0 0)) (fun _ _ => 0)
 case atStart => exact ⟨rfl, by go_grown, by assumption⟩
 case round =>
  obtain ⟨rfl, HB, hc⟩ := hrel
  go_wp2_with fail
  exact bodyPost_end (v := .tuple #[]) (by simp [results, Tryz.results57, go_sem]) rfl ⟨rfl, HB⟩
theorem Uv (w : World) (K : Nat) (h : w.cell? ⟨K, 3, none⟩ = some (.slice none 0 0)) : Calls Tryz.prog 69 #[.pointer (some ⟨K, 0, none⟩)] w fun e w' => e = .returned (.tuple #[]) ∧ Below w.heap.size w w' := by
 go_enter Tryz.func69, Tryz.ntmps69
 go_wp2_with fail
 go_loopw [2] (fun v wr => v = .int .i64 0 ∧ Below w.heap.size w wr ∧ wr.cell? ⟨K, 3, none⟩ = some (.slice none 0 0)) (fun _ _ => 0)
 case atStart => exact ⟨rfl, by go_grown, by assumption⟩
 case round =>
  obtain ⟨rfl, HB, hc⟩ := hrel
  go_wp2_with fail
  exact bodyPost_end (v := .tuple #[]) (by simp [results, Tryz.results69, go_sem]) rfl ⟨rfl, HB⟩
theorem Vp (w : World) (K : Nat) (h : w.cell? ⟨K, 3, none⟩ = some (.slice none 0 0)) : Calls Tryz.prog 81 #[.pointer (some ⟨K, 0, none⟩)] w fun e w' => e = .returned (.bool true) ∧ Below w.heap.size w w' := by
 go_enter Tryz.func81, Tryz.ntmps81
 go_wp2_with fail
 go_loopw [3] (fun v wr => v = .int .i64 0 ∧ Below w.heap.size w wr ∧ wr.cell? ⟨K, 3, none⟩ = some (.slice none 0 0)) (fun _ _ => 0)
 case atStart => exact ⟨rfl, by go_grown, by assumption⟩
 case round =>
  exact qBr
theorem Rd (w : World) (K : Nat) (h : w.cell? ⟨K, 4, none⟩ = some (.slice none 0 0)) : Calls Tryz.prog 58 #[.pointer (some ⟨K, 0, none⟩)] w fun e w' => e = .returned (.tuple #[]) ∧ Below w.heap.size w w' := by
 go_enter Tryz.func58, Tryz.ntmps58
 go_wp2_with fail
 go_loopw [2] (fun v wr => v = .int .i64 0 ∧ Below w.heap.size w wr ∧ wr.cell? ⟨K, 4, none⟩ = some (.slice none 0 0)) (fun _ _ => 0)
 case atStart => exact ⟨rfl, by go_grown, by assumption⟩
 case round =>
  obtain ⟨rfl, HB, hc⟩ := hrel
  go_wp2_with fail
  exact bodyPost_end (v := .tuple #[]) (by simp [results, Tryz.results58, go_sem]) rfl ⟨rfl, HB⟩
theorem Td (w : World) (K : Nat) (h : w.cell? ⟨K, 4, none⟩ = some (.slice none 0 0)) : Calls Tryz.prog 70 #[.pointer (some ⟨K, 0, none⟩)] w fun e w' => e = .returned (.tuple #[]) ∧ Below w.heap.size w w' := by
 go_enter Tryz.func70, Tryz.ntmps70
 go_wp2_with fail
 go_loopw [2] (fun v wr => v = .int .i64 0 ∧ Below w.heap.size w wr ∧ wr.cell? ⟨K, 4, none⟩ = some (.slice none 0 0)) (fun _ _ => 0)
 case atStart => exact ⟨rfl, by go_grown, by assumption⟩
 case round =>
  obtain ⟨rfl, HB, hc⟩ := hrel
  go_wp2_with fail
  exact bodyPost_end (v := .tuple #[]) (by simp [results, Tryz.results70, go_sem]) rfl ⟨rfl, HB⟩
theorem Rn (w : World) (K : Nat) (h : w.cell? ⟨K, 4, none⟩ = some (.slice none 0 0)) : Calls Tryz.prog 82 #[.pointer (some ⟨K, 0, none⟩)] w fun e w' => e = .returned (.bool true) ∧ Below w.heap.size w w' := by
 go_enter Tryz.func82, Tryz.ntmps82
 go_wp2_with fail
 go_loopw [3] (fun v wr => v = .int .i64 0 ∧ Below w.heap.size w wr ∧ wr.cell? ⟨K, 4, none⟩ = some (.slice none 0 0)) (fun _ _ => 0)
 case atStart => exact ⟨rfl, by go_grown, by assumption⟩
 case round =>
  exact qBr
theorem Yi (w : World) (K : Nat) (h : w.cell? ⟨K, 5, none⟩ = some (.slice none 0 0)) : Calls Tryz.prog 59 #[.pointer (some ⟨K, 0, none⟩)] w fun e w' => e = .returned (.tuple #[]) ∧ Below w.heap.size w w' := by
 go_enter Tryz.func59, Tryz.ntmps59
 go_wp2_with fail
 go_loopw [2] (fun v wr => v = .int .i64 0 ∧ Below w.heap.size w wr ∧ wr.cell? ⟨K, 5, none⟩ = some (.slice none 0 0)) (fun _ _ => 0)
 case atStart => exact ⟨rfl, by go_grown, by assumption⟩
 case round =>
  obtain ⟨rfl, HB, hc⟩ := hrel
  go_wp2_with fail
  exact bodyPost_end (v := .tuple #[]) (by simp [results, Tryz.results59, go_sem]) rfl ⟨rfl, HB⟩
theorem Yl (w : World) (K : Nat) (h : w.cell? ⟨K, 5, none⟩ = some (.slice none 0 0)) : Calls Tryz.prog 71 #[.pointer (some ⟨K, 0, none⟩)] w fun e w' => e = .returned (.tuple #[]) ∧ Below w.heap.size w w' := by
 go_enter Tryz.func71, Tryz.ntmps71
 go_wp2_with fail
 go_loopw [2] (fun v wr => v = .int .i64 0 ∧ Below w.heap.size w wr ∧ wr.cell? ⟨K, 5, none⟩ = some (.slice none 0 0)) (fun _ _ => 0)
 case atStart => exact ⟨rfl, by go_grown, by assumption⟩
 case round =>
  obtain ⟨rfl, HB, hc⟩ := hrel
  go_wp2_with fail
  exact bodyPost_end (v := .tuple #[]) (by simp [results, Tryz.results71, go_sem]) rfl ⟨rfl, HB⟩
theorem Xv (w : World) (K : Nat) (h : w.cell? ⟨K, 5, none⟩ = some (.slice none 0 0)) : Calls Tryz.prog 83 #[.pointer (some ⟨K, 0, none⟩)] w fun e w' => e = .returned (.bool true) ∧ Below w.heap.size w w' := by
 go_enter Tryz.func83, Tryz.ntmps83
 go_wp2_with fail
 go_loopw [3] (fun v wr => v = .int .i64 0 ∧ Below w.heap.size w wr ∧ wr.cell? ⟨K, 5, none⟩ = some (.slice none 0 0)) (fun _ _ => 0)
 case atStart => exact ⟨rfl, by go_grown, by assumption⟩
 case round =>
  exact qBr
theorem Qk (w : World) (K : Nat) (h : w.cell? ⟨K, 7, none⟩ = some (.slice none 0 0)) : Calls Tryz.prog 61 #[.pointer (some ⟨K, 0, none⟩)] w fun e w' => e = .returned (.tuple #[]) ∧ Below w.heap.size w w' := by
 go_enter Tryz.func61, Tryz.ntmps61
 go_wp2_with fail
 go_loopw [2] (fun v wr => v = .int .i64 0 ∧ Below w.heap.size w wr ∧ wr.cell? ⟨K, 7, none⟩ = some (.slice none 0 0)) (fun _ _ => 0)
 case atStart => exact ⟨rfl, by go_grown, by assumption⟩
 case round =>
  obtain ⟨rfl, HB, hc⟩ := hrel
  go_wp2_with fail
  exact bodyPost_end (v := .tuple #[]) (by simp [results, Tryz.results61, go_sem]) rfl ⟨rfl, HB⟩
theorem Qr (w : World) (K : Nat) (h : w.cell? ⟨K, 7, none⟩ = some (.slice none 0 0)) : Calls Tryz.prog 73 #[.pointer (some ⟨K, 0, none⟩)] w fun e w' => e = .returned (.tuple #[]) ∧ Below w.heap.size w w' := by
 go_enter Tryz.func73, Tryz.ntmps73
 go_wp2_with fail
 go_loopw [2] (fun v wr => v = .int .i64 0 ∧ Below w.heap.size w wr ∧ wr.cell? ⟨K, 7, none⟩ = some (.slice none 0 0)) (fun _ _ => 0)
 case atStart => exact ⟨rfl, by go_grown, by assumption⟩
 case round =>
  obtain ⟨rfl, HB, hc⟩ := hrel
  go_wp2_with fail
  exact bodyPost_end (v := .tuple #[]) (by simp [results, Tryz.results73, go_sem]) rfl ⟨rfl, HB⟩
theorem Qv (w : World) (K : Nat) (h : w.cell? ⟨K, 7, none⟩ = some (.slice none 0 0)) : Calls Tryz.prog 85 #[.pointer (some ⟨K, 0, none⟩)] w fun e w' => e = .returned (.bool true) ∧ Below w.heap.size w w' := by
 go_enter Tryz.func85, Tryz.ntmps85
 go_wp2_with fail
 go_loopw [3] (fun v wr => v = .int .i64 0 ∧ Below w.heap.size w wr ∧ wr.cell? ⟨K, 7, none⟩ = some (.slice none 0 0)) (fun _ _ => 0)
 case atStart => exact ⟨rfl, by go_grown, by assumption⟩
 case round =>
  exact qBr
theorem U8 (w : World) (K : Nat) (h : w.cell? ⟨K, 8, none⟩ = some (.slice none 0 0)) : Calls Tryz.prog 62 #[.pointer (some ⟨K, 0, none⟩)] w fun e w' => e = .returned (.tuple #[]) ∧ Below w.heap.size w w' := by
 go_enter Tryz.func62, Tryz.ntmps62
 go_wp2_with fail
 go_loopw [2] (fun v wr => v = .int .i64 0 ∧ Below w.heap.size w wr ∧ wr.cell? ⟨K, 8, none⟩ = some (.slice none 0 0)) (fun _ _ => 0)
 case atStart => exact ⟨rfl, by go_grown, by assumption⟩
 case round =>
  obtain ⟨rfl, HB, hc⟩ := hrel
  go_wp2_with fail
  exact bodyPost_end (v := .tuple #[]) (by simp [results, Tryz.results62, go_sem]) rfl ⟨rfl, HB⟩
theorem Vl (w : World) (K : Nat) (h : w.cell? ⟨K, 8, none⟩ = some (.slice none 0 0)) : Calls Tryz.prog 74 #[.pointer (some ⟨K, 0, none⟩)] w fun e w' => e = .returned (.tuple #[]) ∧ Below w.heap.size w w' := by
 go_enter Tryz.func74, Tryz.ntmps74
 go_wp2_with fail
 go_loopw [2] (fun v wr => v = .int .i64 0 ∧ Below w.heap.size w wr ∧ wr.cell? ⟨K, 8, none⟩ = some (.slice none 0 0)) (fun _ _ => 0)
 case atStart => exact ⟨rfl, by go_grown, by assumption⟩
 case round =>
  obtain ⟨rfl, HB, hc⟩ := hrel
  go_wp2_with fail
  exact bodyPost_end (v := .tuple #[]) (by simp [results, Tryz.results74, go_sem]) rfl ⟨rfl, HB⟩
theorem Ui (w : World) (K : Nat) (h : w.cell? ⟨K, 8, none⟩ = some (.slice none 0 0)) : Calls Tryz.prog 86 #[.pointer (some ⟨K, 0, none⟩)] w fun e w' => e = .returned (.bool true) ∧ Below w.heap.size w w' := by
 go_enter Tryz.func86, Tryz.ntmps86
 go_wp2_with fail
 go_loopw [3] (fun v wr => v = .int .i64 0 ∧ Below w.heap.size w wr ∧ wr.cell? ⟨K, 8, none⟩ = some (.slice none 0 0)) (fun _ _ => 0)
 case atStart => exact ⟨rfl, by go_grown, by assumption⟩
 case round =>
  exact qBr
theorem Uq (w : World) (K : Nat) (h : w.cell? ⟨K, 9, none⟩ = some (.slice none 0 0)) : Calls Tryz.prog 63 #[.pointer (some ⟨K, 0, none⟩)] w fun e w' => e = .returned (.tuple #[]) ∧ Below w.heap.size w w' := by
 go_enter Tryz.func63, Tryz.ntmps63
 go_wp2_with fail
 go_loopw [2] (fun v wr => v = .int .i64 0 ∧ Below w.heap.size w wr ∧ wr.cell? ⟨K, 9, none⟩ = some (.slice none 0 0)) (fun _ _ => 0)
 case atStart => exact ⟨rfl, by go_grown, by assumption⟩
 case round =>
  obtain ⟨rfl, HB, hc⟩ := hrel
  go_wp2_with fail
  exact bodyPost_end (v := .tuple #[]) (by simp [results, Tryz.results63, go_sem]) rfl ⟨rfl, HB⟩
theorem Us (w : World) (K : Nat) (h : w.cell? ⟨K, 9, none⟩ = some (.slice none 0 0)) : Calls Tryz.prog 75 #[.pointer (some ⟨K, 0, none⟩)] w fun e w' => e = .returned (.tuple #[]) ∧ Below w.heap.size w w' := by
 go_enter Tryz.func75, Tryz.ntmps75
 go_wp2_with fail
 go_loopw [2] (fun v wr => v = .int .i64 0 ∧ Below w.heap.size w wr ∧ wr.cell? ⟨K, 9, none⟩ = some (.slice none 0 0)) (fun _ _ => 0)
 case atStart => exact ⟨rfl, by go_grown, by assumption⟩
 case round =>
  obtain ⟨rfl, HB, hc⟩ := hrel
  go_wp2_with fail
  exact bodyPost_end (v := .tuple #[]) (by simp [results, Tryz.results75, go_sem]) rfl ⟨rfl, HB⟩
theorem Ts (w : World) (K : Nat) (h : w.cell? ⟨K, 9, none⟩ = some (.slice none 0 0)) : Calls Tryz.prog 87 #[.pointer (some ⟨K, 0, none⟩)] w fun e w' => e = .returned (.bool true) ∧ Below w.heap.size w w' := by
 go_enter Tryz.func87, Tryz.ntmps87
 go_wp2_with fail
 go_loopw [3] (fun v wr => v = .int .i64 0 ∧ Below w.heap.size w wr ∧ wr.cell? ⟨K, 9, none⟩ = some (.slice none 0 0)) (fun _ _ => 0)
 case atStart => exact ⟨rfl, by go_grown, by assumption⟩
 case round =>
  exact qBr
theorem Q5 (w : World) (K : Nat) (h : w.cell? ⟨K, 10, none⟩ = some (.slice none 0 0)) : Calls Tryz.prog 64 #[.pointer (some ⟨K, 0, none⟩)] w fun e w' => e = .returned (.tuple #[]) ∧ Below w.heap.size w w' := by
 go_enter Tryz.func64, Tryz.ntmps64
 go_wp2_with fail
 go_loopw [2] (fun v wr => v = .int .i64 0 ∧ Below w.heap.size w wr ∧ wr.cell? ⟨K, 10, none⟩ = some (.slice none 0 0)) (fun _ _ => 0)
 case atStart => exact ⟨rfl, by go_grown, by assumption⟩
 case round =>
  obtain ⟨rfl, HB, hc⟩ := hrel
  go_wp2_with fail
  exact bodyPost_end (v := .tuple #[]) (by simp [results, Tryz.results64, go_sem]) rfl ⟨rfl, HB⟩
theorem Tk (w : World) (K : Nat) (h : w.cell? ⟨K, 10, none⟩ = some (.slice none 0 0)) : Calls Tryz.prog 76 #[.pointer (some ⟨K, 0, none⟩)] w fun e w' => e = .returned (.tuple #[]) ∧ Below w.heap.size w w' := by
 go_enter Tryz.func76, Tryz.ntmps76
 go_wp2_with fail
 go_loopw [2] (fun v wr => v = .int .i64 0 ∧ Below w.heap.size w wr ∧ wr.cell? ⟨K, 10, none⟩ = some (.slice none 0 0)) (fun _ _ => 0)
 case atStart => exact ⟨rfl, by go_grown, by assumption⟩
 case round =>
  obtain ⟨rfl, HB, hc⟩ := hrel
  go_wp2_with fail
  exact bodyPost_end (v := .tuple #[]) (by simp [results, Tryz.results76, go_sem]) rfl ⟨rfl, HB⟩
theorem S6 (w : World) (K : Nat) (h : w.cell? ⟨K, 10, none⟩ = some (.slice none 0 0)) : Calls Tryz.prog 88 #[.pointer (some ⟨K, 0, none⟩)] w fun e w' => e = .returned (.bool true) ∧ Below w.heap.size w w' := by
 go_enter Tryz.func88, Tryz.ntmps88
 go_wp2_with fail
 go_loopw [3] (fun v wr => v = .int .i64 0 ∧ Below w.heap.size w wr ∧ wr.cell? ⟨K, 10, none⟩ = some (.slice none 0 0)) (fun _ _ => 0)
 case atStart => exact ⟨rfl, by go_grown, by assumption⟩
 case round =>
  exact qBr
theorem S9 (w : World) (K : Nat) (h : w.cell? ⟨K, 11, none⟩ = some (.slice none 0 0)) : Calls Tryz.prog 65 #[.pointer (some ⟨K, 0, none⟩)] w fun e w' => e = .returned (.tuple #[]) ∧ Below w.heap.size w w' := by
 go_enter Tryz.func65, Tryz.ntmps65
 go_wp2_with fail
 go_loopw [2] (fun v wr => v = .int .i64 0 ∧ Below w.heap.size w wr ∧ wr.cell? ⟨K, 11, none⟩ = some (.slice none 0 0)) (fun _ _ => 0)
 case atStart => exact ⟨rfl, by go_grown, by assumption⟩
 case round =>
  obtain ⟨rfl, HB, hc⟩ := hrel
  go_wp2_with fail
  exact bodyPost_end (v := .tuple #[]) (by simp [results, Tryz.results65, go_sem]) rfl ⟨rfl, HB⟩
theorem Q6 (w : World) (K : Nat) (h : w.cell? ⟨K, 11, none⟩ = some (.slice none 0 0)) : Calls Tryz.prog 77 #[.pointer (some ⟨K, 0, none⟩)] w fun e w' => e = .returned (.tuple #[]) ∧ Below w.heap.size w w' := by
 go_enter Tryz.func77, Tryz.ntmps77
 go_wp2_with fail
 go_loopw [2] (fun v wr => v = .int .i64 0 ∧ Below w.heap.size w wr ∧ wr.cell? ⟨K, 11, none⟩ = some (.slice none 0 0)) (fun _ _ => 0)
 case atStart => exact ⟨rfl, by go_grown, by assumption⟩
 case round =>
  obtain ⟨rfl, HB, hc⟩ := hrel
  go_wp2_with fail
  exact bodyPost_end (v := .tuple #[]) (by simp [results, Tryz.results77, go_sem]) rfl ⟨rfl, HB⟩
theorem S3 (w : World) (K : Nat) (h : w.cell? ⟨K, 11, none⟩ = some (.slice none 0 0)) : Calls Tryz.prog 89 #[.pointer (some ⟨K, 0, none⟩)] w fun e w' => e = .returned (.bool true) ∧ Below w.heap.size w w' := by
 go_enter Tryz.func89, Tryz.ntmps89
 go_wp2_with fail
 go_loopw [3] (fun v wr => v = .int .i64 0 ∧ Below w.heap.size w wr ∧ wr.cell? ⟨K, 11, none⟩ = some (.slice none 0 0)) (fun _ _ => 0)
 case atStart => exact ⟨rfl, by go_grown, by assumption⟩
 case round =>
  exact qBr
theorem Sr (w : World) (K : Nat) (h : w.cell? ⟨K, 12, none⟩ = some (.slice none 0 0)) : Calls Tryz.prog 66 #[.pointer (some ⟨K, 0, none⟩)] w fun e w' => e = .returned (.tuple #[]) ∧ Below w.heap.size w w' := by
 go_enter Tryz.func66, Tryz.ntmps66
 go_wp2_with fail
 go_loopw [2] (fun v wr => v = .int .i64 0 ∧ Below w.heap.size w wr ∧ wr.cell? ⟨K, 12, none⟩ = some (.slice none 0 0)) (fun _ _ => 0)
 case atStart => exact ⟨rfl, by go_grown, by assumption⟩
 case round =>
  obtain ⟨rfl, HB, hc⟩ := hrel
  go_wp2_with fail
  exact bodyPost_end (v := .tuple #[]) (by simp [results, Tryz.results66, go_sem]) rfl ⟨rfl, HB⟩
theorem Rx (w : World) (K : Nat) (h : w.cell? ⟨K, 12, none⟩ = some (.slice none 0 0)) : Calls Tryz.prog 78 #[.pointer (some ⟨K, 0, none⟩)] w fun e w' => e = .returned (.tuple #[]) ∧ Below w.heap.size w w' := by
 go_enter Tryz.func78, Tryz.ntmps78
 go_wp2_with fail
 go_loopw [2] (fun v wr => v = .int .i64 0 ∧ Below w.heap.size w wr ∧ wr.cell? ⟨K, 12, none⟩ = some (.slice none 0 0)) (fun _ _ => 0)
 case atStart => exact ⟨rfl, by go_grown, by assumption⟩
 case round =>
  obtain ⟨rfl, HB, hc⟩ := hrel
  go_wp2_with fail
  exact bodyPost_end (v := .tuple #[]) (by simp [results, Tryz.results78, go_sem]) rfl ⟨rfl, HB⟩
theorem Ro (w : World) (K : Nat) (h : w.cell? ⟨K, 12, none⟩ = some (.slice none 0 0)) : Calls Tryz.prog 90 #[.pointer (some ⟨K, 0, none⟩)] w fun e w' => e = .returned (.bool true) ∧ Below w.heap.size w w' := by
 go_enter Tryz.func90, Tryz.ntmps90
 go_wp2_with fail
 go_loopw [3] (fun v wr => v = .int .i64 0 ∧ Below w.heap.size w wr ∧ wr.cell? ⟨K, 12, none⟩ = some (.slice none 0 0)) (fun _ _ => 0)
 case atStart => exact ⟨rfl, by go_grown, by assumption⟩
 case round =>
  exact qBr
structure BkF (w0 w : World) (B0 B N : Nat) (Rl Rt : List (Hl × Value)) (l t : Bool) : Prop where
 bk : Bx w B0 B N Rl Rt
 bs : Dd (fun g => B0 ≤ g) w0 w
 fl : l = true → ∀ p ∈ Rl, C0 w 1 mkL p.1.b p.1.n p.1.m
 ft : t = true → ∀ p ∈ Rt, C0 w 8 mkT p.1.b p.1.n p.1.m
theorem BkF.keep {w0 w w' : World} {B0 B N : Nat} {Rl Rt : List (Hl × Value)} {l t : Bool} (h : BkF w0 w B0 B N Rl Rt l t) (hb : Below w.heap.size w w') : BkF w0 w' B0 B N Rl Rt l t :=
 ⟨h.bk.keep hb, Em h.bs hb, fun e p hp => (h.fl e p hp).keep hb (by simp [mkL]) qB, fun e p hp => (h.ft e p hp).keep hb (by simp [mkT]) qB⟩
theorem Py {w : World} {e : TypeId} {s B0 B : Nat} {R : List (Hl × Value)} (hR : ∀ p ∈ R, Cx w e s B0 B p.1) (g : Nat) (h : inR R g) : B0 ≤ g := by
 obtain ⟨p, hp, hc, rfl⟩ := h
 rcases (hR p hp).lies with h0 | ⟨_, h2, _⟩
 ·exact absurd h0 hc
 ·exact h2
theorem BkF.limbs {w0 w w' : World} {B0 B N : Nat} {Rl Rt : List (Hl × Value)} {t : Bool} (h : BkF w0 w B0 B N Rl Rt false t) (hB : Bx w' B0 B N Rl Rt) (hF : ∀ p ∈ Rl, C0 w' 1 mkL p.1.b p.1.n p.1.m) (hS : Dd (inR Rl) w w') : BkF w0 w' B0 B N Rl Rt true t :=
 ⟨hB, h.bs.trans (hS.wide (Py h.bk.hl)), fun _ => hF, fun e p hp => (h.ft e p hp).congr ((h.bk.ht p hp).nb.imp id fun h1 => hS.block _ (by have h2 : B < w.heap.size := Aa _ _ h.bk.c0; have := h1.2; omega) ((h.bk.ht p hp).other h.bk.hl qC h1.1))⟩
theorem BkF.terms {w0 w w' : World} {B0 B N : Nat} {Rl Rt : List (Hl × Value)} {l : Bool} (h : BkF w0 w B0 B N Rl Rt l false) (hB : Bx w' B0 B N Rl Rt) (hF : ∀ p ∈ Rt, C0 w' 8 mkT p.1.b p.1.n p.1.m) (hS : Dd (inR Rt) w w') : BkF w0 w' B0 B N Rl Rt l true :=
 ⟨hB, h.bs.trans (hS.wide (Py h.bk.ht)), fun e p hp => (h.fl e p hp).congr ((h.bk.hl p hp).nb.imp id fun h1 => hS.block _ (by have h2 : B < w.heap.size := Aa _ _ h.bk.c0; have := h1.2; omega) ((h.bk.hl p hp).other h.bk.ht qC h1.1)), fun _ => hF⟩
structure BkB (w0 w : World) (H B0 B : Nat) (vl vt : Value) (R' Rt : List (Hl × Value)) : Prop where
 nl : ∀ j, j = 1 ∨ (3 ≤ j ∧ j ≤ 5) ∨ (7 ≤ j ∧ j ≤ 12) → w.cell? ⟨B, j, none⟩ = some (.slice none 0 0)
 c2 : w.cell? ⟨B, 2, none⟩ = some vl
 ol : w.ownsRow (B + 1) 144 3 vl R'.length (Cw R')
 gl : ∀ p ∈ R', E5 w 1 mkL H p.1 p.2
 c6 : w.cell? ⟨B, 6, none⟩ = some vt
 ot : w.ownsRow (B + 1) 139 3 vt Rt.length (Cw Rt)
 ht : ∀ p ∈ Rt, Cx w 68 8 B0 B p.1
 ft : ∀ p ∈ Rt, C0 w 8 mkT p.1.b p.1.n p.1.m
 bs : Dd (fun g => B0 ≤ g) w0 w
 hH : B < H ∧ H ≤ w.heap.size
 vH : ∀ k, vt.ownBlock = some k → k < H
 nb : ∀ p ∈ R', p.1.n = 0 ∨ (p.1.c ≠ 0 ∧ p.1.b < B)
 lb : ∀ p ∈ R', p.1.c ≠ 0 → p.1.b < B
 ap : ∀ p ∈ R', p.1.c ≠ 0 → ¬ inR Rt p.1.b
theorem BkB.keep {w0 w w' : World} {H B0 B : Nat} {vl vt : Value} {R' Rt : List (Hl × Value)} (h : BkB w0 w H B0 B vl vt R' Rt) (hb : Below w.heap.size w w') : BkB w0 w' H B0 B vl vt R' Rt :=
 ⟨fun j hj => Au hb (h.nl j hj), Au hb h.c2, Bm h.ol hb, fun p hp => (h.gl p hp).keepS (Ey hb (fun _ => False)) ((h.nb p hp).imp id fun h1 => ⟨by have := h.hH; have := h1.2; omega, id⟩) (fun _ => id) (fun _ _ _ => id), Au hb h.c6, Bm h.ot hb, fun p hp => (h.ht p hp).keep hb, fun p hp => (h.ft p hp).keep hb (by simp [mkT]) qB, Em h.bs hb, ⟨h.hH.1, Ah h.hH.2 hb.size⟩, h.vH, h.nb, h.lb, h.ap⟩
structure BkC (w0 w : World) (H H' B0 B : Nat) (vl vt : Value) (R' R'' : List (Hl × Value)) : Prop where
 nl : ∀ j, j = 1 ∨ (3 ≤ j ∧ j ≤ 5) ∨ (7 ≤ j ∧ j ≤ 12) → w.cell? ⟨B, j, none⟩ = some (.slice none 0 0)
 c2 : w.cell? ⟨B, 2, none⟩ = some vl
 ol : w.ownsRow (B + 1) 144 3 vl R'.length (Cw R')
 gl : ∀ p ∈ R', E5 w 1 mkL H p.1 p.2
 c6 : w.cell? ⟨B, 6, none⟩ = some vt
 ot : w.ownsRow (B + 1) 139 3 vt R''.length (Cw R'')
 gt : ∀ p ∈ R'', E5 w 8 mkT H' p.1 p.2
 bs : Dd (fun g => B0 ≤ g) w0 w
 hB : B < w.heap.size
 nb : ∀ p ∈ R', p.1.n = 0 ∨ (p.1.c ≠ 0 ∧ p.1.b < B)
 nb' : ∀ p ∈ R'', p.1.n = 0 ∨ (p.1.c ≠ 0 ∧ p.1.b < B)
theorem N6 {w w' : World} {s H B : Nat} {mk : Nat → List Value} {R : List (Hl × Value)} (h : ∀ p ∈ R, E5 w s mk H p.1 p.2) (hb : Below w.heap.size w w') (hB : B < w.heap.size) (nb : ∀ p ∈ R, p.1.n = 0 ∨ (p.1.c ≠ 0 ∧ p.1.b < B)) : ∀ p ∈ R, E5 w' s mk H p.1 p.2 := fun p hp =>
 (h p hp).keepS (Ey hb (fun _ => False)) ((nb p hp).imp id fun h1 => ⟨by have := h1.2; omega, id⟩) (fun _ => id) (fun _ _ _ => id)
theorem BkC.keep {w0 w w' : World} {H H' B0 B : Nat} {vl vt : Value} {R' R'' : List (Hl × Value)} (h : BkC w0 w H H' B0 B vl vt R' R'') (hb : Below w.heap.size w w') : BkC w0 w' H H' B0 B vl vt R' R'' :=
 ⟨fun j hj => Au hb (h.nl j hj), Au hb h.c2, Bm h.ol hb, N6 h.gl hb h.hB h.nb, Au hb h.c6, Bm h.ot hb, N6 h.gt hb h.hB h.nb', Em h.bs hb, Nat.lt_of_lt_of_le h.hB hb.size, h.nb, h.nb'⟩
theorem Pt {w w' : World} {S : Nat → Prop} {base : Nat} {e : TypeId} {s n : Nat} {v : Value} {xs : List Value} (h : w.ownsRow base e s v n xs) (hb : Dd S w w') (hS : ∀ g, v.ownBlock = some g → ¬ S g) : w'.ownsRow base e s v n xs := by
 refine ⟨h.1, h.2.imp id fun ⟨g, cap, cur, h1, h2, h3, h4⟩ => ⟨g, cap, cur, h1, h2, ?_, h4⟩⟩
 rw [hb.block g (Ar.1 h3).1 (hS g (by rw [h1]; rfl))]
 exact h3
theorem H1 {w : World} {s H : Nat} {mk : Nat → List Value} {R R0 : List (Hl × Value)} (hm : R.map (·.1) = R0.map (·.1)) (hg : ∀ p ∈ R, E5 w s mk H p.1 p.2) (h0 : ∀ p ∈ R0, p.1.n ≤ 1000000 ∧ (p.1.n = 0 ∨ p.1.a = some ⟨p.1.b, 0, none⟩) ∧ p.1.m < 1000000000) :
  ∀ p ∈ R, ∃ g c, p.2 = .slice (some ⟨g, 0, none⟩) (p.1.n + 40) c ∧ Tx w s mk p.1 g c := fun p hp => by
 obtain ⟨hF, g, c, hv, _, hF2, _⟩ := hg p hp
 have hx : p.1 ∈ R0.map (·.1) := by rw [← hm]; exact List.mem_map.2 ⟨p, hp, rfl⟩
 obtain ⟨q, hq, e⟩ := List.mem_map.1 hx
 have := h0 q hq
 rw [e] at this
 exact ⟨g, c, hv, this.1, this.2.1, this.2.2, hF, hF2⟩
theorem Cx.addr {w : World} {e : TypeId} {s B0 B : Nat} {h : Hl} (hh : Cx w e s B0 B h) : h.n = 0 ∨ h.a = some ⟨h.b, 0, none⟩ := by
 rcases hh.lies with h0 | ⟨h1, _⟩
 ·have := hh.le; exact .inl qB
 ·exact .inr h1
theorem Mz {R R0 : List (Hl × Value)} (hm : R.map (·.1) = R0.map (·.1)) {P : Hl → Prop} (h : ∀ p ∈ R0, P p.1) : ∀ p ∈ R, P p.1 := fun p hp => by
 have hx : p.1 ∈ R0.map (·.1) := by rw [← hm]; exact List.mem_map.2 ⟨p, hp, rfl⟩
 obtain ⟨q, hq, e⟩ := List.mem_map.1 hx
 rw [← e]
 exact h q hq
theorem dQ (w : World) (B0 B N : Nat) (Rl Rt : List (Hl × Value)) (h : Bx w B0 B N Rl Rt) (hzl : ∀ p ∈ Rl, p.2 = .slice none 0 0) (hzt : ∀ p ∈ Rt, p.2 = .slice none 0 0) (hml : ∀ p ∈ Rl, p.1.m < 1000000000) (hmt : ∀ p ∈ Rt, p.1.m < 1000000000) (hkl : Rl.length < 1000000000) (hkt : Rt.length < 1000000000) (hB0 : B0 ≤ B) :
  Calls Tryz.prog 21 #[.pointer (some ⟨B, 0, none⟩)] w fun e w' => e = .returned (.bool true) ∧ Dd (fun g => B0 ≤ g) w w' := by
 have hA : Hid (BkF w w B0 B N Rl Rt false false) := Ae ⟨h, Fg _ _, fun e => (by cases e), fun e => (by cases e)⟩
 have HZL := Ae hzl
 have HZT := Ae hzt
 have HML := Ae hml
 have HMT := Ae hmt
 clear h hzl hzt hml hmt
 go_enter Tryz.func21, Tryz.ntmps21
 go_wp2_with (first
  | (go_at_call 55; refine (Vz _ B (hA.out.bk.nl 1 qB)).mono ?_; rintro e w1 ⟨rfl, hb⟩; replace hA := Ae (hA.out.keep hb))
  | (go_at_call 56; refine (Tw _ B0 B N Rl Rt hA.out.bk HZL.out HML.out hkl).mono ?_; rintro e w1 ⟨rfl, hb1, hb2, hb3⟩; replace hA := Ae (hA.out.limbs hb1 hb2 hb3); clear hb1 hb2 hb3)
  | (go_at_call 57; refine (Ul _ B (hA.out.bk.nl 3 qB)).mono ?_; rintro e w1 ⟨rfl, hb⟩; replace hA := Ae (hA.out.keep hb))
  | (go_at_call 58; refine (Rd _ B (hA.out.bk.nl 4 qB)).mono ?_; rintro e w1 ⟨rfl, hb⟩; replace hA := Ae (hA.out.keep hb))
  | (go_at_call 59; refine (Yi _ B (hA.out.bk.nl 5 qB)).mono ?_; rintro e w1 ⟨rfl, hb⟩; replace hA := Ae (hA.out.keep hb))
  | (go_at_call 60; refine (Ua _ B0 B N Rl Rt hA.out.bk HZT.out HMT.out hkt).mono ?_; rintro e w1 ⟨rfl, hb1, hb2, hb3⟩; replace hA := Ae (hA.out.terms hb1 hb2 hb3); clear hb1 hb2 hb3)
  | (go_at_call 61; refine (Qk _ B (hA.out.bk.nl 7 qB)).mono ?_; rintro e w1 ⟨rfl, hb⟩; replace hA := Ae (hA.out.keep hb))
  | (go_at_call 62; refine (U8 _ B (hA.out.bk.nl 8 qB)).mono ?_; rintro e w1 ⟨rfl, hb⟩; replace hA := Ae (hA.out.keep hb))
  | (go_at_call 63; refine (Uq _ B (hA.out.bk.nl 9 qB)).mono ?_; rintro e w1 ⟨rfl, hb⟩; replace hA := Ae (hA.out.keep hb))
  | (go_at_call 64; refine (Q5 _ B (hA.out.bk.nl 10 qB)).mono ?_; rintro e w1 ⟨rfl, hb⟩; replace hA := Ae (hA.out.keep hb))
  | (go_at_call 65; refine (S9 _ B (hA.out.bk.nl 11 qB)).mono ?_; rintro e w1 ⟨rfl, hb⟩; replace hA := Ae (hA.out.keep hb))
  | (go_at_call 66; refine (Sr _ B (hA.out.bk.nl 12 qB)).mono ?_; rintro e w1 ⟨rfl, hb⟩; replace hA := Ae (hA.out.keep hb))
  | (go_at_call 67; refine (Uz _ B (hA.out.bk.nl 1 qB)).mono ?_; rintro e w1 ⟨rfl, hb⟩; replace hA := Ae (hA.out.keep hb)))
 obtain ⟨vl, c2, ol⟩ := hA.out.bk.l
 obtain ⟨vt, c6, ot⟩ := hA.out.bk.t
 have hBw : B < w1.heap.size := Aa _ _ c2
 have HAT := Ae hA.out.bk.at'
 have HA := hA.out.bk
 refine (Vt w1 B0 B Rl HA.hl HA.al (hA.out.fl rfl) HZL.out HML.out hkl vl c2 ol).mono ?_
 rintro e w2 ⟨rfl, R', hm', ol', gl', hs'⟩
 have hml' : R'.length = Rl.length := by have := congrArg List.length hm'; simpa using this
 have hB : Hid (BkB w w2 w1.heap.size B0 B vl vt R' Rt) := Ae (by
  have gv := I0 ol
  have nB : ¬ (inR Rl B ∨ vl.ownBlock = some B) := fun e => e.elim (Ie HA.hl B (Ad _)) (fun e => by have := gv _ e; omega)
  have hc : ∀ j, w2.cell? ⟨B, j, none⟩ = w1.cell? ⟨B, j, none⟩ := fun j => Af (a := ⟨B, j, none⟩) (hs'.block B hBw nB)
  have nt : ∀ p ∈ Rt, p.1.c ≠ 0 → ¬ (inR Rl p.1.b ∨ vl.ownBlock = some p.1.b) := fun p hp h0 e => e.elim ((HA.ht p hp).other HA.hl qC h0) (fun e => by have := gv _ e; have := (HA.ht p hp).lt h0; omega)
  refine ⟨fun j hj => (hc j).trans (HA.nl j hj), (hc 2).trans c2, by rw [hml']; exact ol', gl', (hc 6).trans c6, Pt ot hs' (fun g hg e => e.elim (Ie HA.hl g (Nat.le_of_lt (I0 ot g hg))) (fun e => ?_)), fun p hp => (HA.ht p hp).kept fun h0 => hs'.block _ (by have := (HA.ht p hp).lt h0; omega) (nt p hp h0), fun p hp => (hA.out.ft rfl p hp).congr ((HA.ht p hp).nb.imp id fun h1 => hs'.block _ (by have := h1.2; omega) (nt p hp h1.1)), hA.out.bs.trans (hs'.wide fun g e => e.elim (Py HA.hl g) (fun e => by have := gv _ e; omega)), ⟨hBw, hs'.size⟩, fun k hk => (ot.lt k hk).2, Mz hm' (P := fun q => q.n = 0 ∨ (q.c ≠ 0 ∧ q.b < B)) (fun p hp => (HA.hl p hp).nb), Mz hm' (P := fun q => q.c ≠ 0 → q.b < B) (fun p hp h0 => (HA.hl p hp).lt h0), Mz hm' (P := fun q => q.c ≠ 0 → ¬ inR Rt q.b) (fun p hp h0 => (HA.hl p hp).other HA.ht qC h0)⟩
  rcases J0 ot ol qC with h1 | h1
  ·rw [hg] at h1; cases h1
  ·rw [hg] at h1; exact h1 e.symm)
 have HL0 := Ae (H1 (R := R') (R0 := Rl) (w := w2) hm' gl' (fun p hp => ⟨(HA.hl p hp).few, (HA.hl p hp).addr, HML.out p hp⟩))
 have HM' := Ae hm'
 have HN' := Ae (fun p hp => (⟨(HA.hl p hp).few, (HA.hl p hp).addr, HML.out p hp⟩ : p.1.n ≤ 1000000 ∧ (p.1.n = 0 ∨ p.1.a = some ⟨p.1.b, 0, none⟩) ∧ p.1.m < 1000000000) : ∀ p ∈ Rl, _)
 clear ol' gl' hs' hm' c2 ol c6 ot HA hA HL0
 go_wp2_with (first
  | (go_at_call 69; refine (Uv _ B (hB.out.nl 3 qB)).mono ?_; rintro e w3 ⟨rfl, hb⟩; replace hB := Ae (hB.out.keep hb))
  | (go_at_call 70; refine (Td _ B (hB.out.nl 4 qB)).mono ?_; rintro e w3 ⟨rfl, hb⟩; replace hB := Ae (hB.out.keep hb))
  | (go_at_call 71; refine (Yl _ B (hB.out.nl 5 qB)).mono ?_; rintro e w3 ⟨rfl, hb⟩; replace hB := Ae (hB.out.keep hb)))
 have hBw3 : B < w3.heap.size := Aa _ _ hB.out.c6
 have HT0 := Ae (fun p hp => (⟨(hB.out.ht p hp).few, (hB.out.ht p hp).addr, HMT.out p hp⟩ : p.1.n ≤ 1000000 ∧ (p.1.n = 0 ∨ p.1.a = some ⟨p.1.b, 0, none⟩) ∧ p.1.m < 1000000000) : ∀ p ∈ Rt, _)
 refine (Vq w3 B0 B Rt hB.out.ht HAT.out hB.out.ft HZT.out HMT.out hkt vt hB.out.c6 hB.out.ot).mono ?_
 rintro e w4 ⟨rfl, R'', hm'', ot'', gt'', hs''⟩
 have hmt' : R''.length = Rt.length := by have := congrArg List.length hm''; simpa using this
 have hC : Hid (BkC w w4 w1.heap.size w3.heap.size B0 B vl vt R' R'') := Ae (by
  have hb := hB.out
  have gv := I0 hb.ot
  have nB : ¬ (inR Rt B ∨ vt.ownBlock = some B) := fun e => e.elim (Ie hb.ht B (Ad _)) (fun e => by have := gv _ e; omega)
  have hc : ∀ j, w4.cell? ⟨B, j, none⟩ = w3.cell? ⟨B, j, none⟩ := fun j => Af (a := ⟨B, j, none⟩) (hs''.block B hBw3 nB)
  have nl : ∀ p ∈ R', p.1.c ≠ 0 → ¬ (inR Rt p.1.b ∨ vt.ownBlock = some p.1.b) := fun p hp h0 e => e.elim (hb.ap p hp h0) (fun e => by have := gv _ e; have := hb.lb p hp h0; omega)
  refine ⟨fun j hj => (hc j).trans (hb.nl j hj), (hc 2).trans hb.c2, Pt hb.ol hs'' (fun g hg e => e.elim (Ie hb.ht g (Nat.le_of_lt (I0 hb.ol g hg))) (fun e => ?_)), fun p hp => (hb.gl p hp).keepS hs'' ((hb.nb p hp).imp id fun h1 => ⟨by have := h1.2; omega, nl p hp h1.1⟩) (nl p hp) (fun g hg _ e => e.elim (fun e => by have h9 := Ie hb.ht g; have := hb.hH.1; exact h9 qB e) (fun e => by have := hb.vH g e; omega)), (hc 6).trans hb.c6, by rw [hmt']; exact ot'', gt'', hb.bs.trans (hs''.wide fun g e => e.elim (Py hb.ht g) (fun e => by have := gv _ e; omega)), Nat.lt_of_lt_of_le hBw3 hs''.size, hb.nb, Mz hm'' (P := fun q => q.n = 0 ∨ (q.c ≠ 0 ∧ q.b < B)) (fun p hp => (hb.ht p hp).nb)⟩
  rcases J0 hb.ol hb.ot qC with h1 | h1
  ·rw [hg] at h1; cases h1
  ·rw [hg] at h1; exact h1 e.symm)
 have HM'' := Ae hm''
 clear ot'' gt'' hs'' hm'' hB
 go_wp2_with (first
  | (go_at_call 73; refine (Qr _ B (hC.out.nl 7 qB)).mono ?_; rintro e w5 ⟨rfl, hb⟩; replace hC := Ae (hC.out.keep hb))
  | (go_at_call 74; refine (Vl _ B (hC.out.nl 8 qB)).mono ?_; rintro e w5 ⟨rfl, hb⟩; replace hC := Ae (hC.out.keep hb))
  | (go_at_call 75; refine (Us _ B (hC.out.nl 9 qB)).mono ?_; rintro e w5 ⟨rfl, hb⟩; replace hC := Ae (hC.out.keep hb))
  | (go_at_call 76; refine (Tk _ B (hC.out.nl 10 qB)).mono ?_; rintro e w5 ⟨rfl, hb⟩; replace hC := Ae (hC.out.keep hb))
  | (go_at_call 77; refine (Q6 _ B (hC.out.nl 11 qB)).mono ?_; rintro e w5 ⟨rfl, hb⟩; replace hC := Ae (hC.out.keep hb))
  | (go_at_call 78; refine (Rx _ B (hC.out.nl 12 qB)).mono ?_; rintro e w5 ⟨rfl, hb⟩; replace hC := Ae (hC.out.keep hb)))
 have hl1 : R'.length < 1000000000 := by have := congrArg List.length HM'.out; simp at this; omega
 have hl2 : R''.length < 1000000000 := by omega
 go_wp2_with (first
  | (go_at_call 79; refine (Tl _ B (hC.out.nl 1 qB)).mono ?_; rintro e w5 ⟨rfl, hb⟩; replace hC := Ae (hC.out.keep hb))
  | (go_at_call 80; refine (Vo _ B 0 vl R' hC.out.c2 hC.out.ol hl1 (H1 HM'.out hC.out.gl HN'.out)).mono ?_; rintro e w5 ⟨rfl, hb⟩; replace hC := Ae (hC.out.keep hb))
  | (go_at_call 81; refine (Vp _ B (hC.out.nl 3 qB)).mono ?_; rintro e w5 ⟨rfl, hb⟩; replace hC := Ae (hC.out.keep hb))
  | (go_at_call 82; refine (Rn _ B (hC.out.nl 4 qB)).mono ?_; rintro e w5 ⟨rfl, hb⟩; replace hC := Ae (hC.out.keep hb))
  | (go_at_call 83; refine (Xv _ B (hC.out.nl 5 qB)).mono ?_; rintro e w5 ⟨rfl, hb⟩; replace hC := Ae (hC.out.keep hb))
  | (go_at_call 84; refine (Uo _ B 0 vt R'' hC.out.c6 hC.out.ot hl2 (H1 HM''.out hC.out.gt HT0.out)).mono ?_; rintro e w5 ⟨rfl, hb⟩; replace hC := Ae (hC.out.keep hb))
  | (go_at_call 85; refine (Qv _ B (hC.out.nl 7 qB)).mono ?_; rintro e w5 ⟨rfl, hb⟩; replace hC := Ae (hC.out.keep hb))
  | (go_at_call 86; refine (Ui _ B (hC.out.nl 8 qB)).mono ?_; rintro e w5 ⟨rfl, hb⟩; replace hC := Ae (hC.out.keep hb))
  | (go_at_call 87; refine (Ts _ B (hC.out.nl 9 qB)).mono ?_; rintro e w5 ⟨rfl, hb⟩; replace hC := Ae (hC.out.keep hb))
  | (go_at_call 88; refine (S6 _ B (hC.out.nl 10 qB)).mono ?_; rintro e w5 ⟨rfl, hb⟩; replace hC := Ae (hC.out.keep hb))
  | (go_at_call 89; refine (S3 _ B (hC.out.nl 11 qB)).mono ?_; rintro e w5 ⟨rfl, hb⟩; replace hC := Ae (hC.out.keep hb))
  | (go_at_call 90; refine (Ro _ B (hC.out.nl 12 qB)).mono ?_; rintro e w5 ⟨rfl, hb⟩; replace hC := Ae (hC.out.keep hb)))
 go_ret
 exact ⟨rfl, hC.out.bs⟩
end Go.Proofs.YtdamegaedmckbaaGreatDoor
end
