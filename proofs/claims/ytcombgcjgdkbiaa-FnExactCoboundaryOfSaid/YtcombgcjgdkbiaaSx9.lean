/- Sx9: all rules. -/
import Derived.Test.YtcombgcjgdkbiaaSy2
