/-
  All of the small code.
-/
import Derived.Test.YthcnmahjhahafacCode1
import Derived.Test.YthcnmahjhahafacTypes
