/-
  WHAT THE TEST OF A JUNCTION COMES TO, for each number of ins and outs (ins: 1), each a summary proved by a walk. Conditions: none.
-/
import Derived.Test.YtdeglehhabdkdaaSums
set_option maxRecDepth 100000
namespace Go.Proofs.Ytdeglehhabdkdaa
open Go.Sx
def sJunI11 : Summ := ⟨27, [.p (.agg (junAt 1 1))], [], sB (okJun 1 1)⟩
theorem sJunI11Ok : SumOk Try.prog sJunI11 := sum_of hN (deep_ok hN hX baseOk 6) (deep_facts Try.prog ext baseS 6) (fuel := 40) (by kernel_rfl)
def sJunS11 : Summ := ⟨55, [.p (.one (.ptr 0 0))], [junAt 1 1], sB (okJun 1 1)⟩
theorem sJunS11Ok : SumOk Try.prog sJunS11 := sum_of hN (deep_ok hN hX baseOk 6) (deep_facts Try.prog ext baseS 6) (fuel := 40) (by kernel_rfl)
def sJunI12 : Summ := ⟨27, [.p (.agg (junAt 1 2))], [], sB (okJun 1 2)⟩
theorem sJunI12Ok : SumOk Try.prog sJunI12 := sum_of hN (deep_ok hN hX baseOk 6) (deep_facts Try.prog ext baseS 6) (fuel := 40) (by kernel_rfl)
def sJunS12 : Summ := ⟨55, [.p (.one (.ptr 0 0))], [junAt 1 2], sB (okJun 1 2)⟩
theorem sJunS12Ok : SumOk Try.prog sJunS12 := sum_of hN (deep_ok hN hX baseOk 6) (deep_facts Try.prog ext baseS 6) (fuel := 40) (by kernel_rfl)
def sJunI13 : Summ := ⟨27, [.p (.agg (junAt 1 3))], [], sB (okJun 1 3)⟩
theorem sJunI13Ok : SumOk Try.prog sJunI13 := sum_of hN (deep_ok hN hX baseOk 6) (deep_facts Try.prog ext baseS 6) (fuel := 40) (by kernel_rfl)
def sJunS13 : Summ := ⟨55, [.p (.one (.ptr 0 0))], [junAt 1 3], sB (okJun 1 3)⟩
theorem sJunS13Ok : SumOk Try.prog sJunS13 := sum_of hN (deep_ok hN hX baseOk 6) (deep_facts Try.prog ext baseS 6) (fuel := 40) (by kernel_rfl)
def sJunI14 : Summ := ⟨27, [.p (.agg (junAt 1 4))], [], sB (okJun 1 4)⟩
theorem sJunI14Ok : SumOk Try.prog sJunI14 := sum_of hN (deep_ok hN hX baseOk 6) (deep_facts Try.prog ext baseS 6) (fuel := 40) (by kernel_rfl)
def sJunS14 : Summ := ⟨55, [.p (.one (.ptr 0 0))], [junAt 1 4], sB (okJun 1 4)⟩
theorem sJunS14Ok : SumOk Try.prog sJunS14 := sum_of hN (deep_ok hN hX baseOk 6) (deep_facts Try.prog ext baseS 6) (fuel := 40) (by kernel_rfl)
end Go.Proofs.Ytdeglehhabdkdaa
