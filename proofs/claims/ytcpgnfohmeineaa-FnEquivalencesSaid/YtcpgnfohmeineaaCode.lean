/-
 All of the small code.
-/
import Derived.Test.YtcpgnfohmeineaaCode1
import Derived.Test.YtcpgnfohmeineaaCode2
import Derived.Test.YtcpgnfohmeineaaTypes
