/-
 All of the functions but the laws.
-/
import Derived.Test.YtidaaijecmkndaaG1
import Derived.Test.YtidaaijecmkndaaG2
import Derived.Test.YtidaaijecmkndaaG3
import Derived.Test.YtidaaijecmkndaaG4
import Derived.Test.YtidaaijecmkndaaG5
import Derived.Test.YtidaaijecmkndaaG6
import Derived.Test.YtidaaijecmkndaaG7
import Derived.Test.YtidaaijecmkndaaG8
import Derived.Test.YtidaaijecmkndaaG9
import Derived.Test.YtidaaijecmkndaaG10
