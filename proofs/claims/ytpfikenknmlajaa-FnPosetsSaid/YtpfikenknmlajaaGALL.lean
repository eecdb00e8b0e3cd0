/-
 All of the functions but the laws.
-/
import Derived.Test.YtpfikenknmlajaaG1
import Derived.Test.YtpfikenknmlajaaG2
import Derived.Test.YtpfikenknmlajaaG3
import Derived.Test.YtpfikenknmlajaaG4
import Derived.Test.YtpfikenknmlajaaG5
import Derived.Test.YtpfikenknmlajaaG6
import Derived.Test.YtpfikenknmlajaaG7
import Derived.Test.YtpfikenknmlajaaG8
import Derived.Test.YtpfikenknmlajaaG9
import Derived.Test.YtpfikenknmlajaaG10
import Derived.Test.YtpfikenknmlajaaG11
import Derived.Test.YtpfikenknmlajaaG12
import Derived.Test.YtpfikenknmlajaaG13
import Derived.Test.YtpfikenknmlajaaG14
import Derived.Test.YtpfikenknmlajaaG15
