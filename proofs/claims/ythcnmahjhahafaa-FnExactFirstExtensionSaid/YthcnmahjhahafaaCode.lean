/-
  All of the small code.
-/
import Derived.Test.YthcnmahjhahafaaCode1
import Derived.Test.YthcnmahjhahafaaTypes
