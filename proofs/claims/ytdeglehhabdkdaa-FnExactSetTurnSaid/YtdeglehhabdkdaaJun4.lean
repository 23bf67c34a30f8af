/-
  WHAT THE TEST OF A JUNCTION COMES TO, for each number of ins and outs (ins: 4), each a summary proved by a walk. Conditions: none.
-/
import Derived.Test.YtdeglehhabdkdaaSums
set_option maxRecDepth 100000
namespace Go.Proofs.Ytdeglehhabdkdaa
open Go.Sx
def sJunI41 : Summ := ⟨27, [.p (.agg (junAt 4 1))], [], sB (okJun 4 1)⟩
theorem sJunI41Ok : SumOk Try.prog sJunI41 := sum_of hN (deep_ok hN hX baseOk 6) (deep_facts Try.prog ext baseS 6) (fuel := 40) (by kernel_rfl)
def sJunS41 : Summ := ⟨55, [.p (.one (.ptr 0 0))], [junAt 4 1], sB (okJun 4 1)⟩
theorem sJunS41Ok : SumOk Try.prog sJunS41 := sum_of hN (deep_ok hN hX baseOk 6) (deep_facts Try.prog ext baseS 6) (fuel := 40) (by kernel_rfl)
def sJunI42 : Summ := ⟨27, [.p (.agg (junAt 4 2))], [], sB (okJun 4 2)⟩
theorem sJunI42Ok : SumOk Try.prog sJunI42 := sum_of hN (deep_ok hN hX baseOk 6) (deep_facts Try.prog ext baseS 6) (fuel := 40) (by kernel_rfl)
def sJunS42 : Summ := ⟨55, [.p (.one (.ptr 0 0))], [junAt 4 2], sB (okJun 4 2)⟩
theorem sJunS42Ok : SumOk Try.prog sJunS42 := sum_of hN (deep_ok hN hX baseOk 6) (deep_facts Try.prog ext baseS 6) (fuel := 40) (by kernel_rfl)
def sJunI43 : Summ := ⟨27, [.p (.agg (junAt 4 3))], [], sB (okJun 4 3)⟩
theorem sJunI43Ok : SumOk Try.prog sJunI43 := sum_of hN (deep_ok hN hX baseOk 6) (deep_facts Try.prog ext baseS 6) (fuel := 40) (by kernel_rfl)
def sJunS43 : Summ := ⟨55, [.p (.one (.ptr 0 0))], [junAt 4 3], sB (okJun 4 3)⟩
theorem sJunS43Ok : SumOk Try.prog sJunS43 := sum_of hN (deep_ok hN hX baseOk 6) (deep_facts Try.prog ext baseS 6) (fuel := 40) (by kernel_rfl)
def sJunI44 : Summ := ⟨27, [.p (.agg (junAt 4 4))], [], sB (okJun 4 4)⟩
theorem sJunI44Ok : SumOk Try.prog sJunI44 := sum_of hN (deep_ok hN hX baseOk 6) (deep_facts Try.prog ext baseS 6) (fuel := 40) (by kernel_rfl)
def sJunS44 : Summ := ⟨55, [.p (.one (.ptr 0 0))], [junAt 4 4], sB (okJun 4 4)⟩
theorem sJunS44Ok : SumOk Try.prog sJunS44 := sum_of hN (deep_ok hN hX baseOk 6) (deep_facts Try.prog ext baseS 6) (fuel := 40) (by kernel_rfl)
end Go.Proofs.Ytdeglehhabdkdaa
