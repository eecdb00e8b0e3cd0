/-
 All of the functions but the laws.
-/
import Derived.Test.YtjcekpmojnnmbaaGreatG1
import Derived.Test.YtjcekpmojnnmbaaGreatG2
import Derived.Test.YtjcekpmojnnmbaaGreatG3
import Derived.Test.YtjcekpmojnnmbaaGreatG4
import Derived.Test.YtjcekpmojnnmbaaGreatG5
import Derived.Test.YtjcekpmojnnmbaaGreatG6
import Derived.Test.YtjcekpmojnnmbaaGreatG7
import Derived.Test.YtjcekpmojnnmbaaGreatG8
import Derived.Test.YtjcekpmojnnmbaaGreatG9
import Derived.Test.YtjcekpmojnnmbaaGreatG10
