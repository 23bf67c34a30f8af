/-
  WHAT THE SMALL FUNCTIONS OF THIS SEAT COME TO, each a summary proved by a walk. Conditions: none.
-/
import Derived.Test.YtocllgippcpgcaaSxC
import Derived.Test.YtocllgippcpgcaaProg
set_option maxRecDepth 100000
namespace Go.Proofs.Ytocllgippcpgcaa
open Go.Sx
def ext : List (Nat × Ext) := [(26, .f32bits), (27, .f64bits)]
theorem hN : NoNum Try.prog := noNum_of (by kernel_rfl)
theorem hX : ExtOk Try.prog ext := by
  intro p hp
  rcases List.mem_cons.1 hp with rfl | hp
  · exact ⟨Try.f26, Try.func26, by kernel_rfl, by kernel_rfl, by kernel_rfl, by kernel_rfl⟩
  rcases List.mem_cons.1 hp with rfl | hp
  · exact ⟨Try.f27, Try.func27, by kernel_rfl, by kernel_rfl, by kernel_rfl, by kernel_rfl⟩
  cases hp
def sBits : Summ := ⟨23, [sF 0], [], .p (.one (.s (.i .u32) (.at 0)))⟩
def sBitss : List Summ := sBits :: []
theorem sBitsOk : AllOk Try.prog sBitss := .tree hN hX (.nil _) (n := 3) (T := tBits) (by kernel_rfl) hand_bits
def sSameS : Summ := ⟨22, [sF 0, sF 1], [], sB (.b (.ic .eq) (.at 0) (.at 1))⟩
def sSameSs : List Summ := sSameS :: sBitss
theorem sSameSOk : AllOk Try.prog sSameSs := .tree hN hX sBitsOk (n := 3) (T := tSame) (by kernel_rfl) hand_same
def sSameI : Summ := ⟨13, [sF 0, sF 1], [], sB (.b (.ic .eq) (.at 0) (.at 1))⟩
def sSameIs : List Summ := sSameI :: sSameSs
theorem sSameIOk : AllOk Try.prog sSameIs := .add hN hX sSameSOk (n := 3) (by kernel_rfl)
def sAmtS : Summ := ⟨18, [sF 0], [], sB (.u .amt (.at 0))⟩
def sAmtSs : List Summ := sAmtS :: sSameIs
theorem sAmtSOk : AllOk Try.prog sAmtSs := .tree hN hX sSameIOk (n := 3) (T := tAmtS) (by kernel_rfl) hand_amtS
def sAmtI : Summ := ⟨9, [sF 0], [], sB (.u .amt (.at 0))⟩
def sAmtIs : List Summ := sAmtI :: sAmtSs
theorem sAmtIOk : AllOk Try.prog sAmtIs := .tree hN hX sAmtSOk (n := 3) (T := tAmtI) (by kernel_rfl) hand_amtI
def sShrS : Summ := ⟨21, [sF 0], [], sB (.u .shr (.at 0))⟩
def sShrSs : List Summ := sShrS :: sAmtIs
theorem sShrSOk : AllOk Try.prog sShrSs := .add hN hX sAmtIOk (n := 3) (by kernel_rfl)
def sShrI : Summ := ⟨11, [sF 0], [], sB (.u .shr (.at 0))⟩
def sShrIs : List Summ := sShrI :: sShrSs
theorem sShrIOk : AllOk Try.prog sShrIs := .add hN hX sShrSOk (n := 3) (by kernel_rfl)
def sFloat : Summ := ⟨17, [sD 0, sD 0], [], sB (.n 1)⟩
def sFloats : List Summ := sFloat :: sShrIs
theorem sFloatOk : AllOk Try.prog sFloats := .add hN hX sShrIOk (n := 3) (by kernel_rfl)
def allS : List Summ := sFloats
theorem allOk : AllOk Try.prog allS := sFloatOk
end Go.Proofs.Ytocllgippcpgcaa
