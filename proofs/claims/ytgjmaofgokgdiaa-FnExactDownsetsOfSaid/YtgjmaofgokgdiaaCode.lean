/-
  All of the small code.
-/
import Derived.Test.YtgjmaofgokgdiaaCode1
import Derived.Test.YtgjmaofgokgdiaaTypes
