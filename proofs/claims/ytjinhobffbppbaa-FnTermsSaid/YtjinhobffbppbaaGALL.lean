/-
 All of the functions but the laws.
-/
import Derived.Test.YtjinhobffbppbaaG1
import Derived.Test.YtjinhobffbppbaaG2
import Derived.Test.YtjinhobffbppbaaG3
import Derived.Test.YtjinhobffbppbaaG4
import Derived.Test.YtjinhobffbppbaaG5
import Derived.Test.YtjinhobffbppbaaG6
import Derived.Test.YtjinhobffbppbaaG7
import Derived.Test.YtjinhobffbppbaaG8
import Derived.Test.YtjinhobffbppbaaG9
import Derived.Test.YtjinhobffbppbaaG10
