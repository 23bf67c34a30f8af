/-
  WHAT THE SMALL FUNCTIONS OF THIS SEAT COME TO, each a summary proved by a walk. Conditions: none.
-/
import Derived.Test.YtfeaddbehmodmaaDoorSxC
import Derived.Test.YtfeaddbehmodmaaDoorProg
set_option maxRecDepth 100000
namespace Go.Proofs.YtfeaddbehmodmaaDoor
open Go.Sx
def ext : List (Nat × Ext) := [(36, .f32bits), (84, .f64bits)]
theorem hN : NoNum Tryd.prog := noNum_of (by kernel_rfl)
theorem hX : ExtOk Tryd.prog ext := by
  refine extOk_of ?_ rfl
  intro p hp _
  rcases List.mem_cons.1 hp with rfl | hp
  · exact ⟨Tryd.f36, Tryd.func36, by kernel_rfl, by kernel_rfl, by kernel_rfl, by kernel_rfl⟩
  rcases List.mem_cons.1 hp with rfl | hp
  · exact ⟨Tryd.f84, Tryd.func84, by kernel_rfl, by kernel_rfl, by kernel_rfl, by kernel_rfl⟩
  cases hp
def sBits : Summ := ⟨20, [sF 0], [], .p (.one (.s (.i .u32) (.at 0)))⟩
def sBitss : List Summ := sBits :: []
theorem sBitsOk : AllOk Tryd.prog sBitss := .tree hN hX (.nil _) (n := 3) (T := tBits) (by kernel_rfl) hand_bits
def sAmtS : Summ := ⟨67, [sF 0], [], sB (.u .amt (.at 0))⟩
def sAmtSs : List Summ := sAmtS :: sBitss
theorem sAmtSOk : AllOk Tryd.prog sAmtSs := .tree hN hX sBitsOk (n := 3) (T := tAmtS) (by kernel_rfl) hand_amtS
def sAmtI : Summ := ⟨48, [sF 0], [], sB (.u .amt (.at 0))⟩
def sAmtIs : List Summ := sAmtI :: sAmtSs
theorem sAmtIOk : AllOk Tryd.prog sAmtIs := .tree hN hX sAmtSOk (n := 3) (T := tAmtI) (by kernel_rfl) hand_amtI
def sShrS : Summ := ⟨45, [sF 0], [], sB (.u .shr (.at 0))⟩
def sShrSs : List Summ := sShrS :: sAmtIs
theorem sShrSOk : AllOk Tryd.prog sShrSs := .add hN hX sAmtIOk (n := 3) (by kernel_rfl)
def sShrI : Summ := ⟨47, [sF 0], [], sB (.u .shr (.at 0))⟩
def sShrIs : List Summ := sShrI :: sShrSs
theorem sShrIOk : AllOk Tryd.prog sShrIs := .add hN hX sShrSOk (n := 3) (by kernel_rfl)
def sFloat : Summ := ⟨11, [sD 0, sD 0], [], sB (.n 1)⟩
def sFloats : List Summ := sFloat :: sShrIs
theorem sFloatOk : AllOk Tryd.prog sFloats := .add hN hX sShrIOk (n := 3) (by kernel_rfl)
def sToRoad : Summ := ⟨13, [fAgg 0 19], [], fAgg 0 19⟩
def sToRoads : List Summ := sToRoad :: sFloats
theorem sToRoadOk : AllOk Tryd.prog sToRoads := .add hN hX sFloatOk (n := 6) (by kernel_rfl)
def sEqRoad : Summ := ⟨17, [fAgg 0 19, fAgg 0 19], [], sB (.n 1)⟩
def sEqRoads : List Summ := sEqRoad :: sToRoads
theorem sEqRoadOk : AllOk Tryd.prog sEqRoads := .add hN hX sToRoadOk (n := 6) (by kernel_rfl)
def sRoadI : Summ := ⟨28, [fAgg 0 19], [], sB (okRoad 0)⟩
def sRoadIs : List Summ := sRoadI :: sEqRoads
theorem sRoadIOk : AllOk Tryd.prog sRoadIs := .add hN hX sEqRoadOk (n := 5) (by kernel_rfl)
def sRoadS : Summ := ⟨25, [.p (.one (.ptr 0 0))], [fls 0 19], sB (okRoad 0)⟩
def sRoadSs : List Summ := sRoadS :: sRoadIs
theorem sRoadSOk : AllOk Tryd.prog sRoadSs := .add hN hX sRoadIOk (n := 5) (by kernel_rfl)
def allS : List Summ := sRoadSs
theorem allOk : AllOk Tryd.prog allS := sRoadSOk
end Go.Proofs.YtfeaddbehmodmaaDoor
