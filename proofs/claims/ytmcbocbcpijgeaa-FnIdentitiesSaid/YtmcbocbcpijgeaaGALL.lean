/-
 All of the functions but the laws.
-/
import Derived.Test.YtmcbocbcpijgeaaG1
import Derived.Test.YtmcbocbcpijgeaaG2
import Derived.Test.YtmcbocbcpijgeaaG3
import Derived.Test.YtmcbocbcpijgeaaG4
import Derived.Test.YtmcbocbcpijgeaaG5
import Derived.Test.YtmcbocbcpijgeaaG6
import Derived.Test.YtmcbocbcpijgeaaG7
import Derived.Test.YtmcbocbcpijgeaaG8
import Derived.Test.YtmcbocbcpijgeaaG9
import Derived.Test.YtmcbocbcpijgeaaG10
import Derived.Test.YtmcbocbcpijgeaaG11
import Derived.Test.YtmcbocbcpijgeaaG12
