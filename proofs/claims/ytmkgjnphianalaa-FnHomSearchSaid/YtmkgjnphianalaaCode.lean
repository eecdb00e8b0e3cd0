/-
 All of the small code.
-/
import Derived.Test.YtmkgjnphianalaaCode1
import Derived.Test.YtmkgjnphianalaaCode2
import Derived.Test.YtmkgjnphianalaaTypes
