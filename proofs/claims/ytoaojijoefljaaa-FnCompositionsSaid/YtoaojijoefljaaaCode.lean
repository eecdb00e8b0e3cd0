/-
 All of the small code.
-/
import Derived.Test.YtoaojijoefljaaaCode1
import Derived.Test.YtoaojijoefljaaaCode2
import Derived.Test.YtoaojijoefljaaaTypes
