/-
 All of the functions but the laws.
-/
import Derived.Test.YtoaojijoefljaaaG1
import Derived.Test.YtoaojijoefljaaaG2
import Derived.Test.YtoaojijoefljaaaG3
import Derived.Test.YtoaojijoefljaaaG4
import Derived.Test.YtoaojijoefljaaaG5
import Derived.Test.YtoaojijoefljaaaG6
import Derived.Test.YtoaojijoefljaaaG7
import Derived.Test.YtoaojijoefljaaaG8
import Derived.Test.YtoaojijoefljaaaG9
import Derived.Test.YtoaojijoefljaaaG10
import Derived.Test.YtoaojijoefljaaaG11
import Derived.Test.YtoaojijoefljaaaG12
import Derived.Test.YtoaojijoefljaaaG13
