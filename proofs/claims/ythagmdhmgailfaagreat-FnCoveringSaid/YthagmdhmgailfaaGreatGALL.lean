/-
 All of the functions but the laws.
-/
import Derived.Test.YthagmdhmgailfaaGreatG1
import Derived.Test.YthagmdhmgailfaaGreatG2
import Derived.Test.YthagmdhmgailfaaGreatG3
import Derived.Test.YthagmdhmgailfaaGreatG4
import Derived.Test.YthagmdhmgailfaaGreatG5
import Derived.Test.YthagmdhmgailfaaGreatG6
import Derived.Test.YthagmdhmgailfaaGreatG7
import Derived.Test.YthagmdhmgailfaaGreatG8
import Derived.Test.YthagmdhmgailfaaGreatG9
import Derived.Test.YthagmdhmgailfaaGreatG10
import Derived.Test.YthagmdhmgailfaaGreatG11
import Derived.Test.YthagmdhmgailfaaGreatG12
