/-
 All of the small code.
-/
import Derived.Test.YtmmcfdfdacpjgaaCode1
import Derived.Test.YtmmcfdfdacpjgaaCode2
import Derived.Test.YtmmcfdfdacpjgaaTypes
