/-
  All of the functions but the laws.
-/
import Derived.Test.YthcnmahjhahafaaG1
import Derived.Test.YthcnmahjhahafaaG2
import Derived.Test.YthcnmahjhahafaaG3
import Derived.Test.YthcnmahjhahafaaG4
import Derived.Test.YthcnmahjhahafaaG5
import Derived.Test.YthcnmahjhahafaaG6
import Derived.Test.YthcnmahjhahafaaG7
import Derived.Test.YthcnmahjhahafaaG8
