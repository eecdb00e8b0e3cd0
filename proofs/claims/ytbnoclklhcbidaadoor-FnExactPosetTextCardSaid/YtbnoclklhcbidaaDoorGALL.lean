/-
  All of the functions but the laws.
-/
import Derived.Test.YtbnoclklhcbidaaDoorG1
import Derived.Test.YtbnoclklhcbidaaDoorG2
import Derived.Test.YtbnoclklhcbidaaDoorG3
import Derived.Test.YtbnoclklhcbidaaDoorG4
