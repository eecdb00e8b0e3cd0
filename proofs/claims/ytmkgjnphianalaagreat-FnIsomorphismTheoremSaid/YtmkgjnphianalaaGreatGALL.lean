/-
 All of the functions but the laws.
-/
import Derived.Test.YtmkgjnphianalaaGreatG1
import Derived.Test.YtmkgjnphianalaaGreatG2
import Derived.Test.YtmkgjnphianalaaGreatG3
import Derived.Test.YtmkgjnphianalaaGreatG4
import Derived.Test.YtmkgjnphianalaaGreatG5
import Derived.Test.YtmkgjnphianalaaGreatG6
import Derived.Test.YtmkgjnphianalaaGreatG7
import Derived.Test.YtmkgjnphianalaaGreatG8
import Derived.Test.YtmkgjnphianalaaGreatG9
import Derived.Test.YtmkgjnphianalaaGreatG10
import Derived.Test.YtmkgjnphianalaaGreatG11
import Derived.Test.YtmkgjnphianalaaGreatG12
import Derived.Test.YtmkgjnphianalaaGreatG13
import Derived.Test.YtmkgjnphianalaaGreatG14
