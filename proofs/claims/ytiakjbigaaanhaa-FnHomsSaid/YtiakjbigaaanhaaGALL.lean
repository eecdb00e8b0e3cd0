/-
 All of the functions but the laws.
-/
import Derived.Test.YtiakjbigaaanhaaG1
import Derived.Test.YtiakjbigaaanhaaG2
import Derived.Test.YtiakjbigaaanhaaG3
import Derived.Test.YtiakjbigaaanhaaG4
import Derived.Test.YtiakjbigaaanhaaG5
import Derived.Test.YtiakjbigaaanhaaG6
import Derived.Test.YtiakjbigaaanhaaG7
import Derived.Test.YtiakjbigaaanhaaG8
import Derived.Test.YtiakjbigaaanhaaG9
import Derived.Test.YtiakjbigaaanhaaG10
import Derived.Test.YtiakjbigaaanhaaG11
import Derived.Test.YtiakjbigaaanhaaG12
import Derived.Test.YtiakjbigaaanhaaG13
