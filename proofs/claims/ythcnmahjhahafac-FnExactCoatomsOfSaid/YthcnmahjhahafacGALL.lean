/-
  All of the functions but the laws.
-/
import Derived.Test.YthcnmahjhahafacG1
import Derived.Test.YthcnmahjhahafacG2
import Derived.Test.YthcnmahjhahafacG3
import Derived.Test.YthcnmahjhahafacG4
import Derived.Test.YthcnmahjhahafacG5
