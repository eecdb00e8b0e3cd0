/-
  All of the small code.
-/
import Derived.Test.YtdodfnbbfkcgnaaCode1
import Derived.Test.YtdodfnbbfkcgnaaTypes
