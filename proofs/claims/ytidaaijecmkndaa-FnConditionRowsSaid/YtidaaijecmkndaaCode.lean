/-
 All of the small code.
-/
import Derived.Test.YtidaaijecmkndaaCode1
import Derived.Test.YtidaaijecmkndaaCode2
import Derived.Test.YtidaaijecmkndaaTypes
