/-
  THE WALKS of the law FnExactCodeName, a code at a time: it answers true. Conditions: what the table's cells hold.
-/
import Derived.Test.YtocllgippcpgcaaDoorProg
import Derived.WalkKit
import Derived.Below
import Derived.Handy
namespace Go.Proofs.YtocllgippcpgcaaDoor
open Go.RowKit
set_option maxRecDepth 100000
abbrev s0 : ByteArray := { data := #[111, 107] }
abbrev s1 : ByteArray := { data := #[105, 110, 118, 97, 108, 105, 100] }
abbrev s2 : ByteArray := { data := #[114, 97, 110, 103, 101] }
abbrev s3 : ByteArray := { data := #[108, 105, 109, 105, 116] }
abbrev s4 : ByteArray := { data := #[115, 116, 97, 116, 101] }
abbrev s5 : ByteArray := { data := #[115, 121, 110, 116, 97, 120] }
abbrev s6 : ByteArray := { data := #[110, 111, 116, 102, 111, 117, 110, 100] }
abbrev s7 : ByteArray := { data := #[98, 117, 100, 103, 101, 116] }
abbrev s8 : ByteArray := { data := #[112, 114, 111, 111, 102] }
theorem w0 (w : World) (hc : w.cell? ⟨0, 0, none⟩ = some (.string s0)) (hz : 0 < w.heap.size) : Calls Tryd.prog 3 #[.int .i64 0] w fun e w' => e = .returned (.bool true) ∧ Below w.heap.size w w' := by
  go_enter Tryd.func3, Tryd.ntmps3
  go_wp2
  go_ret
  refine ⟨rfl, ?_⟩
  go_grown
theorem w1 (w : World) (hc : w.cell? ⟨0, 1, none⟩ = some (.string s1)) (hz : 0 < w.heap.size) : Calls Tryd.prog 3 #[.int .i64 1] w fun e w' => e = .returned (.bool true) ∧ Below w.heap.size w w' := by
  go_enter Tryd.func3, Tryd.ntmps3
  go_wp2
  go_ret
  refine ⟨rfl, ?_⟩
  go_grown
theorem w2 (w : World) (hc : w.cell? ⟨0, 2, none⟩ = some (.string s2)) (hz : 0 < w.heap.size) : Calls Tryd.prog 3 #[.int .i64 2] w fun e w' => e = .returned (.bool true) ∧ Below w.heap.size w w' := by
  go_enter Tryd.func3, Tryd.ntmps3
  go_wp2
  go_ret
  refine ⟨rfl, ?_⟩
  go_grown
theorem w3 (w : World) (hc : w.cell? ⟨0, 3, none⟩ = some (.string s3)) (hz : 0 < w.heap.size) : Calls Tryd.prog 3 #[.int .i64 3] w fun e w' => e = .returned (.bool true) ∧ Below w.heap.size w w' := by
  go_enter Tryd.func3, Tryd.ntmps3
  go_wp2
  go_ret
  refine ⟨rfl, ?_⟩
  go_grown
theorem w4 (w : World) (hc : w.cell? ⟨0, 4, none⟩ = some (.string s4)) (hz : 0 < w.heap.size) : Calls Tryd.prog 3 #[.int .i64 4] w fun e w' => e = .returned (.bool true) ∧ Below w.heap.size w w' := by
  go_enter Tryd.func3, Tryd.ntmps3
  go_wp2
  go_ret
  refine ⟨rfl, ?_⟩
  go_grown
theorem w5 (w : World) (hc : w.cell? ⟨0, 5, none⟩ = some (.string s5)) (hz : 0 < w.heap.size) : Calls Tryd.prog 3 #[.int .i64 5] w fun e w' => e = .returned (.bool true) ∧ Below w.heap.size w w' := by
  go_enter Tryd.func3, Tryd.ntmps3
  go_wp2
  go_ret
  refine ⟨rfl, ?_⟩
  go_grown
theorem w6 (w : World) (hc : w.cell? ⟨0, 6, none⟩ = some (.string s6)) (hz : 0 < w.heap.size) : Calls Tryd.prog 3 #[.int .i64 6] w fun e w' => e = .returned (.bool true) ∧ Below w.heap.size w w' := by
  go_enter Tryd.func3, Tryd.ntmps3
  go_wp2
  go_ret
  refine ⟨rfl, ?_⟩
  go_grown
theorem w7 (w : World) (hc : w.cell? ⟨0, 7, none⟩ = some (.string s7)) (hz : 0 < w.heap.size) : Calls Tryd.prog 3 #[.int .i64 7] w fun e w' => e = .returned (.bool true) ∧ Below w.heap.size w w' := by
  go_enter Tryd.func3, Tryd.ntmps3
  go_wp2
  go_ret
  refine ⟨rfl, ?_⟩
  go_grown
theorem w8 (w : World) (hc : w.cell? ⟨0, 8, none⟩ = some (.string s8)) (hz : 0 < w.heap.size) : Calls Tryd.prog 3 #[.int .i64 8] w fun e w' => e = .returned (.bool true) ∧ Below w.heap.size w w' := by
  go_enter Tryd.func3, Tryd.ntmps3
  go_wp2
  go_ret
  refine ⟨rfl, ?_⟩
  go_grown
theorem wlow (n : Int) (h : n < 0) (w : World) : Calls Tryd.prog 3 #[.int .i64 n] w fun e w' => e = .returned (.bool true) ∧ Below w.heap.size w w' := by
  have h1 : ¬ (0 ≤ n) := by omega
  go_enter Tryd.func3, Tryd.ntmps3
  go_wp2
  go_ret
  refine ⟨rfl, ?_⟩
  go_grown
theorem whigh (n : Int) (h : 8 < n) (w : World) : Calls Tryd.prog 3 #[.int .i64 n] w fun e w' => e = .returned (.bool true) ∧ Below w.heap.size w w' := by
  have h1 : 0 ≤ n := by omega
  have h2 : ¬ (n ≤ 8) := by omega
  go_enter Tryd.func3, Tryd.ntmps3
  go_wp2
  go_ret
  refine ⟨rfl, ?_⟩
  go_grown
end Go.Proofs.YtocllgippcpgcaaDoor
