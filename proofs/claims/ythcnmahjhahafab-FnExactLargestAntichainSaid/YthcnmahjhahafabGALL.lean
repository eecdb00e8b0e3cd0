/-
  All of the functions but the laws.
-/
import Derived.Test.YthcnmahjhahafabG1
import Derived.Test.YthcnmahjhahafabG2
import Derived.Test.YthcnmahjhahafabG3
import Derived.Test.YthcnmahjhahafabG4
import Derived.Test.YthcnmahjhahafabG5
import Derived.Test.YthcnmahjhahafabG6
import Derived.Test.YthcnmahjhahafabG7
