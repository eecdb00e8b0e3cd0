/-
  All of the functions but the laws.
-/
import Derived.Test.YthcnmahjhahafaaG1
import Derived.Test.YthcnmahjhahafaaG2
import Derived.Test.YthcnmahjhahafaaG3
import Derived.Test.YthcnmahjhahafaaG4
