/-
 All of the functions but the laws.
-/
import Derived.Test.YtoikbcagaanhgaaG1
import Derived.Test.YtoikbcagaanhgaaG2
import Derived.Test.YtoikbcagaanhgaaG3
import Derived.Test.YtoikbcagaanhgaaG4
import Derived.Test.YtoikbcagaanhgaaG5
import Derived.Test.YtoikbcagaanhgaaG6
import Derived.Test.YtoikbcagaanhgaaG7
import Derived.Test.YtoikbcagaanhgaaG8
import Derived.Test.YtoikbcagaanhgaaG9
import Derived.Test.YtoikbcagaanhgaaG10
import Derived.Test.YtoikbcagaanhgaaG11
import Derived.Test.YtoikbcagaanhgaaG12
import Derived.Test.YtoikbcagaanhgaaG13
import Derived.Test.YtoikbcagaanhgaaG14
