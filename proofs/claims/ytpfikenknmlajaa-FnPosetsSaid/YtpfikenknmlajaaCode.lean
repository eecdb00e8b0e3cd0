/-
 All of the small code.
-/
import Derived.Test.YtpfikenknmlajaaCode1
import Derived.Test.YtpfikenknmlajaaCode2
import Derived.Test.YtpfikenknmlajaaTypes
