/-
 All of the small code.
-/
import Derived.Test.YtaalgpkajkogkaaCode1
import Derived.Test.YtaalgpkajkogkaaCode2
import Derived.Test.YtaalgpkajkogkaaTypes
