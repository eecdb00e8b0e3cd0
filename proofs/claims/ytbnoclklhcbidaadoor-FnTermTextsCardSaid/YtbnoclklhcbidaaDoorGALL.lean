/-
 All of the functions but the laws.
-/
import Derived.Test.YtbnoclklhcbidaaDoorG1
import Derived.Test.YtbnoclklhcbidaaDoorG2
import Derived.Test.YtbnoclklhcbidaaDoorG3
import Derived.Test.YtbnoclklhcbidaaDoorG4
import Derived.Test.YtbnoclklhcbidaaDoorG5
import Derived.Test.YtbnoclklhcbidaaDoorG6
import Derived.Test.YtbnoclklhcbidaaDoorG7
import Derived.Test.YtbnoclklhcbidaaDoorG8
import Derived.Test.YtbnoclklhcbidaaDoorG9
import Derived.Test.YtbnoclklhcbidaaDoorG10
import Derived.Test.YtbnoclklhcbidaaDoorG11
