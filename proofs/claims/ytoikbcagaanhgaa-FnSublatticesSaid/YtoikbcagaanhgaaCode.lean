/-
 All of the small code.
-/
import Derived.Test.YtoikbcagaanhgaaCode1
import Derived.Test.YtoikbcagaanhgaaCode2
import Derived.Test.YtoikbcagaanhgaaTypes
