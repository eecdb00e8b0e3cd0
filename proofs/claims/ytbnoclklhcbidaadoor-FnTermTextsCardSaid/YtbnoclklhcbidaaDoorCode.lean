/-
 All of the small code.
-/
import Derived.Test.YtbnoclklhcbidaaDoorCode1
import Derived.Test.YtbnoclklhcbidaaDoorCode2
import Derived.Test.YtbnoclklhcbidaaDoorTypes
