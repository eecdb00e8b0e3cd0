/-
 All of the small code.
-/
import Derived.Test.YtjcekpmojnnmbaaCode1
import Derived.Test.YtjcekpmojnnmbaaCode2
import Derived.Test.YtjcekpmojnnmbaaTypes
