/-
  WHAT THE TEST OF A JUNCTION COMES TO, for each number of ins and outs (ins: 3), each a summary proved by a walk. Conditions: none.
-/
import Derived.Test.YtdeglehhabdkdaaSums
set_option maxRecDepth 100000
namespace Go.Proofs.Ytdeglehhabdkdaa
open Go.Sx
def sJunI31 : Summ := ⟨27, [.p (.agg (junAt 3 1))], [], sB (okJun 3 1)⟩
theorem sJunI31Ok : SumOk Try.prog sJunI31 := sum_of hN (deep_ok hN hX baseOk 6) (deep_facts Try.prog ext baseS 6) (fuel := 40) (by kernel_rfl)
def sJunS31 : Summ := ⟨55, [.p (.one (.ptr 0 0))], [junAt 3 1], sB (okJun 3 1)⟩
theorem sJunS31Ok : SumOk Try.prog sJunS31 := sum_of hN (deep_ok hN hX baseOk 6) (deep_facts Try.prog ext baseS 6) (fuel := 40) (by kernel_rfl)
def sJunI32 : Summ := ⟨27, [.p (.agg (junAt 3 2))], [], sB (okJun 3 2)⟩
theorem sJunI32Ok : SumOk Try.prog sJunI32 := sum_of hN (deep_ok hN hX baseOk 6) (deep_facts Try.prog ext baseS 6) (fuel := 40) (by kernel_rfl)
def sJunS32 : Summ := ⟨55, [.p (.one (.ptr 0 0))], [junAt 3 2], sB (okJun 3 2)⟩
theorem sJunS32Ok : SumOk Try.prog sJunS32 := sum_of hN (deep_ok hN hX baseOk 6) (deep_facts Try.prog ext baseS 6) (fuel := 40) (by kernel_rfl)
def sJunI33 : Summ := ⟨27, [.p (.agg (junAt 3 3))], [], sB (okJun 3 3)⟩
theorem sJunI33Ok : SumOk Try.prog sJunI33 := sum_of hN (deep_ok hN hX baseOk 6) (deep_facts Try.prog ext baseS 6) (fuel := 40) (by kernel_rfl)
def sJunS33 : Summ := ⟨55, [.p (.one (.ptr 0 0))], [junAt 3 3], sB (okJun 3 3)⟩
theorem sJunS33Ok : SumOk Try.prog sJunS33 := sum_of hN (deep_ok hN hX baseOk 6) (deep_facts Try.prog ext baseS 6) (fuel := 40) (by kernel_rfl)
def sJunI34 : Summ := ⟨27, [.p (.agg (junAt 3 4))], [], sB (okJun 3 4)⟩
theorem sJunI34Ok : SumOk Try.prog sJunI34 := sum_of hN (deep_ok hN hX baseOk 6) (deep_facts Try.prog ext baseS 6) (fuel := 40) (by kernel_rfl)
def sJunS34 : Summ := ⟨55, [.p (.one (.ptr 0 0))], [junAt 3 4], sB (okJun 3 4)⟩
theorem sJunS34Ok : SumOk Try.prog sJunS34 := sum_of hN (deep_ok hN hX baseOk 6) (deep_facts Try.prog ext baseS 6) (fuel := 40) (by kernel_rfl)
end Go.Proofs.Ytdeglehhabdkdaa
