/-
  All of the functions but the laws.
-/
import Derived.Test.YtpfikenknmlajaaG1
import Derived.Test.YtpfikenknmlajaaG2
import Derived.Test.YtpfikenknmlajaaG3
import Derived.Test.YtpfikenknmlajaaG4
import Derived.Test.YtpfikenknmlajaaG5
