/-
 All of the small code.
-/
import Derived.Test.YtjinhobffbppbaaCode1
import Derived.Test.YtjinhobffbppbaaCode2
import Derived.Test.YtjinhobffbppbaaTypes
