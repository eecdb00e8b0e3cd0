/-
  All of the small code.
-/
import Derived.Test.YthcnmahjhahafabCode1
import Derived.Test.YthcnmahjhahafabCode2
import Derived.Test.YthcnmahjhahafabTypes
