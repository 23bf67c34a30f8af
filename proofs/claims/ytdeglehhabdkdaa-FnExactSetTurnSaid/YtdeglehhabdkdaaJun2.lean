/-
  WHAT THE TEST OF A JUNCTION COMES TO, for each number of ins and outs (ins: 2), each a summary proved by a walk. Conditions: none.
-/
import Derived.Test.YtdeglehhabdkdaaSums
set_option maxRecDepth 100000
namespace Go.Proofs.Ytdeglehhabdkdaa
open Go.Sx
def sJunI21 : Summ := ⟨27, [.p (.agg (junAt 2 1))], [], sB (okJun 2 1)⟩
theorem sJunI21Ok : SumOk Try.prog sJunI21 := sum_of hN (deep_ok hN hX baseOk 6) (deep_facts Try.prog ext baseS 6) (fuel := 40) (by kernel_rfl)
def sJunS21 : Summ := ⟨55, [.p (.one (.ptr 0 0))], [junAt 2 1], sB (okJun 2 1)⟩
theorem sJunS21Ok : SumOk Try.prog sJunS21 := sum_of hN (deep_ok hN hX baseOk 6) (deep_facts Try.prog ext baseS 6) (fuel := 40) (by kernel_rfl)
def sJunI22 : Summ := ⟨27, [.p (.agg (junAt 2 2))], [], sB (okJun 2 2)⟩
theorem sJunI22Ok : SumOk Try.prog sJunI22 := sum_of hN (deep_ok hN hX baseOk 6) (deep_facts Try.prog ext baseS 6) (fuel := 40) (by kernel_rfl)
def sJunS22 : Summ := ⟨55, [.p (.one (.ptr 0 0))], [junAt 2 2], sB (okJun 2 2)⟩
theorem sJunS22Ok : SumOk Try.prog sJunS22 := sum_of hN (deep_ok hN hX baseOk 6) (deep_facts Try.prog ext baseS 6) (fuel := 40) (by kernel_rfl)
def sJunI23 : Summ := ⟨27, [.p (.agg (junAt 2 3))], [], sB (okJun 2 3)⟩
theorem sJunI23Ok : SumOk Try.prog sJunI23 := sum_of hN (deep_ok hN hX baseOk 6) (deep_facts Try.prog ext baseS 6) (fuel := 40) (by kernel_rfl)
def sJunS23 : Summ := ⟨55, [.p (.one (.ptr 0 0))], [junAt 2 3], sB (okJun 2 3)⟩
theorem sJunS23Ok : SumOk Try.prog sJunS23 := sum_of hN (deep_ok hN hX baseOk 6) (deep_facts Try.prog ext baseS 6) (fuel := 40) (by kernel_rfl)
def sJunI24 : Summ := ⟨27, [.p (.agg (junAt 2 4))], [], sB (okJun 2 4)⟩
theorem sJunI24Ok : SumOk Try.prog sJunI24 := sum_of hN (deep_ok hN hX baseOk 6) (deep_facts Try.prog ext baseS 6) (fuel := 40) (by kernel_rfl)
def sJunS24 : Summ := ⟨55, [.p (.one (.ptr 0 0))], [junAt 2 4], sB (okJun 2 4)⟩
theorem sJunS24Ok : SumOk Try.prog sJunS24 := sum_of hN (deep_ok hN hX baseOk 6) (deep_facts Try.prog ext baseS 6) (fuel := 40) (by kernel_rfl)
end Go.Proofs.Ytdeglehhabdkdaa
