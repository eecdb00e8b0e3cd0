/-
 All of the functions but the laws.
-/
import Derived.Test.YtmmcfdfdacpjgaaG1
import Derived.Test.YtmmcfdfdacpjgaaG2
import Derived.Test.YtmmcfdfdacpjgaaG3
import Derived.Test.YtmmcfdfdacpjgaaG4
import Derived.Test.YtmmcfdfdacpjgaaG5
import Derived.Test.YtmmcfdfdacpjgaaG6
import Derived.Test.YtmmcfdfdacpjgaaG7
import Derived.Test.YtmmcfdfdacpjgaaG8
import Derived.Test.YtmmcfdfdacpjgaaG9
import Derived.Test.YtmmcfdfdacpjgaaG10
import Derived.Test.YtmmcfdfdacpjgaaG11
import Derived.Test.YtmmcfdfdacpjgaaG12
import Derived.Test.YtmmcfdfdacpjgaaG13
import Derived.Test.YtmmcfdfdacpjgaaG14
