/-
  All of the functions but the laws.
-/
import Derived.Test.YtgjmaofgokgdiaaG1
import Derived.Test.YtgjmaofgokgdiaaG2
import Derived.Test.YtgjmaofgokgdiaaG3
import Derived.Test.YtgjmaofgokgdiaaG4
