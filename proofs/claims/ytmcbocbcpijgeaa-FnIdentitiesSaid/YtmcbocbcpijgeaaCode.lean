/-
 All of the small code.
-/
import Derived.Test.YtmcbocbcpijgeaaCode1
import Derived.Test.YtmcbocbcpijgeaaCode2
import Derived.Test.YtmcbocbcpijgeaaTypes
