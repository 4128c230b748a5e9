/- Sx9: all rules. -/
import Derived.Test.YtnppkcemnjkboaaSy2
