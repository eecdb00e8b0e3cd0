/-
 All of the functions but the laws.
-/
import Derived.Test.YtaalgpkajkogkaaG1
import Derived.Test.YtaalgpkajkogkaaG2
import Derived.Test.YtaalgpkajkogkaaG3
import Derived.Test.YtaalgpkajkogkaaG4
import Derived.Test.YtaalgpkajkogkaaG5
import Derived.Test.YtaalgpkajkogkaaG6
import Derived.Test.YtaalgpkajkogkaaG7
import Derived.Test.YtaalgpkajkogkaaG8
import Derived.Test.YtaalgpkajkogkaaG9
import Derived.Test.YtaalgpkajkogkaaG10
import Derived.Test.YtaalgpkajkogkaaG11
import Derived.Test.YtaalgpkajkogkaaG12
import Derived.Test.YtaalgpkajkogkaaG13
import Derived.Test.YtaalgpkajkogkaaG14
import Derived.Test.YtaalgpkajkogkaaG15
import Derived.Test.YtaalgpkajkogkaaG16
import Derived.Test.YtaalgpkajkogkaaG17
import Derived.Test.YtaalgpkajkogkaaG18
import Derived.Test.YtaalgpkajkogkaaG19
import Derived.Test.YtaalgpkajkogkaaG20
import Derived.Test.YtaalgpkajkogkaaG21
import Derived.Test.YtaalgpkajkogkaaG22
import Derived.Test.YtaalgpkajkogkaaG23
