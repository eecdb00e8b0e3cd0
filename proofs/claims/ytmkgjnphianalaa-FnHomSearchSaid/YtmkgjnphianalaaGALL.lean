/-
 All of the functions but the laws.
-/
import Derived.Test.YtmkgjnphianalaaG1
import Derived.Test.YtmkgjnphianalaaG2
import Derived.Test.YtmkgjnphianalaaG3
import Derived.Test.YtmkgjnphianalaaG4
import Derived.Test.YtmkgjnphianalaaG5
import Derived.Test.YtmkgjnphianalaaG6
import Derived.Test.YtmkgjnphianalaaG7
import Derived.Test.YtmkgjnphianalaaG8
import Derived.Test.YtmkgjnphianalaaG9
import Derived.Test.YtmkgjnphianalaaG10
import Derived.Test.YtmkgjnphianalaaG11
import Derived.Test.YtmkgjnphianalaaG12
import Derived.Test.YtmkgjnphianalaaG13
import Derived.Test.YtmkgjnphianalaaG14
import Derived.Test.YtmkgjnphianalaaG15
