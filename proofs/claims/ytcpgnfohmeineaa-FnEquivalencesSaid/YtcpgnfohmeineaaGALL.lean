/-
 All of the functions but the laws.
-/
import Derived.Test.YtcpgnfohmeineaaG1
import Derived.Test.YtcpgnfohmeineaaG2
import Derived.Test.YtcpgnfohmeineaaG3
import Derived.Test.YtcpgnfohmeineaaG4
import Derived.Test.YtcpgnfohmeineaaG5
import Derived.Test.YtcpgnfohmeineaaG6
import Derived.Test.YtcpgnfohmeineaaG7
import Derived.Test.YtcpgnfohmeineaaG8
import Derived.Test.YtcpgnfohmeineaaG9
import Derived.Test.YtcpgnfohmeineaaG10
import Derived.Test.YtcpgnfohmeineaaG11
import Derived.Test.YtcpgnfohmeineaaG12
