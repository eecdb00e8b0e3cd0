/-
 All of the functions but the laws.
-/
import Derived.Test.YtjcekpmojnnmbaaG1
import Derived.Test.YtjcekpmojnnmbaaG2
import Derived.Test.YtjcekpmojnnmbaaG3
import Derived.Test.YtjcekpmojnnmbaaG4
import Derived.Test.YtjcekpmojnnmbaaG5
import Derived.Test.YtjcekpmojnnmbaaG6
import Derived.Test.YtjcekpmojnnmbaaG7
import Derived.Test.YtjcekpmojnnmbaaG8
import Derived.Test.YtjcekpmojnnmbaaG9
import Derived.Test.YtjcekpmojnnmbaaG10
import Derived.Test.YtjcekpmojnnmbaaG11
import Derived.Test.YtjcekpmojnnmbaaG12
