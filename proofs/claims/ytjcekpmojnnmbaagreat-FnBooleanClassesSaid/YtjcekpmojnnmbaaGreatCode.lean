/-
 All of the small code.
-/
import Derived.Test.YtjcekpmojnnmbaaGreatCode1
import Derived.Test.YtjcekpmojnnmbaaGreatCode2
import Derived.Test.YtjcekpmojnnmbaaGreatTypes
