/- Sx9: all rules. -/
import Derived.Test.YtcombgcjgdkbiaaSx8
import Derived.Test.YtcombgcjgdkbiaaSxA
import Derived.Test.YtcombgcjgdkbiaaSxB
import Derived.Test.YtcombgcjgdkbiaaSxC
import Derived.Test.YtcombgcjgdkbiaaSxD
import Derived.Test.YtcombgcjgdkbiaaSxE
