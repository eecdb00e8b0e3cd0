/-
 All of the small code.
-/
import Derived.Test.YtmkgjnphianalaaGreatCode1
import Derived.Test.YtmkgjnphianalaaGreatCode2
import Derived.Test.YtmkgjnphianalaaGreatTypes
