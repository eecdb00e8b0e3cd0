/-
 All of the small code.
-/
import Derived.Test.YtiakjbigaaanhaaCode1
import Derived.Test.YtiakjbigaaanhaaCode2
import Derived.Test.YtiakjbigaaanhaaTypes
