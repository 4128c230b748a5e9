/- Sx9: all rules. -/
import Derived.Test.YtnppkcemnjkboaaSx8
import Derived.Test.YtnppkcemnjkboaaSxA
import Derived.Test.YtnppkcemnjkboaaSxB
import Derived.Test.YtnppkcemnjkboaaSxC
import Derived.Test.YtnppkcemnjkboaaSxD
import Derived.Test.YtnppkcemnjkboaaSxE
