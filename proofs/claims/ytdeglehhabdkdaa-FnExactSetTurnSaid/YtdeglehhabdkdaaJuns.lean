/-
  THE SEAT'S SUMMARIES, all. Conditions: none.
-/
import Derived.Test.YtdeglehhabdkdaaJun1
import Derived.Test.YtdeglehhabdkdaaJun2
import Derived.Test.YtdeglehhabdkdaaJun3
import Derived.Test.YtdeglehhabdkdaaJun4
namespace Go.Proofs.Ytdeglehhabdkdaa
open Go.Sx
def allS : List Summ := sJunI11 :: sJunS11 :: sJunI12 :: sJunS12 :: sJunI13 :: sJunS13 :: sJunI14 :: sJunS14 :: sJunI21 :: sJunS21 :: sJunI22 :: sJunS22 :: sJunI23 :: sJunS23 :: sJunI24 :: sJunS24 :: sJunI31 :: sJunS31 :: sJunI32 :: sJunS32 :: sJunI33 :: sJunS33 :: sJunI34 :: sJunS34 :: sJunI41 :: sJunS41 :: sJunI42 :: sJunS42 :: sJunI43 :: sJunS43 :: sJunI44 :: sJunS44 :: baseS
theorem allOk : AllOk Try.prog allS := (.cons sJunI11Ok (.cons sJunS11Ok (.cons sJunI12Ok (.cons sJunS12Ok (.cons sJunI13Ok (.cons sJunS13Ok (.cons sJunI14Ok (.cons sJunS14Ok (.cons sJunI21Ok (.cons sJunS21Ok (.cons sJunI22Ok (.cons sJunS22Ok (.cons sJunI23Ok (.cons sJunS23Ok (.cons sJunI24Ok (.cons sJunS24Ok (.cons sJunI31Ok (.cons sJunS31Ok (.cons sJunI32Ok (.cons sJunS32Ok (.cons sJunI33Ok (.cons sJunS33Ok (.cons sJunI34Ok (.cons sJunS34Ok (.cons sJunI41Ok (.cons sJunS41Ok (.cons sJunI42Ok (.cons sJunS42Ok (.cons sJunI43Ok (.cons sJunS43Ok (.cons sJunI44Ok (.cons sJunS44Ok baseOk))))))))))))))))))))))))))))))))
end Go.Proofs.Ytdeglehhabdkdaa
