/-
  All of the functions but the laws.
-/
import Derived.Test.YthcnmahjhahafabG1
import Derived.Test.YthcnmahjhahafabG2
import Derived.Test.YthcnmahjhahafabG3
import Derived.Test.YthcnmahjhahafabG4
import Derived.Test.YthcnmahjhahafabG5
import Derived.Test.YthcnmahjhahafabG6
import Derived.Test.YthcnmahjhahafabG7
import Derived.Test.YthcnmahjhahafabG8
import Derived.Test.YthcnmahjhahafabG9
import Derived.Test.YthcnmahjhahafabG10
import Derived.Test.YthcnmahjhahafabG11
import Derived.Test.YthcnmahjhahafabG12
