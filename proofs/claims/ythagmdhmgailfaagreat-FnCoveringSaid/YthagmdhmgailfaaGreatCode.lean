/-
 All of the small code.
-/
import Derived.Test.YthagmdhmgailfaaGreatCode1
import Derived.Test.YthagmdhmgailfaaGreatCode2
import Derived.Test.YthagmdhmgailfaaGreatTypes
