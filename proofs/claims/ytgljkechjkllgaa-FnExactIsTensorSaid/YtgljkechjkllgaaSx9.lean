/- Sx9: all rules. -/
import Derived.Test.YtgljkechjkllgaaSx8
import Derived.Test.YtgljkechjkllgaaSxA
import Derived.Test.YtgljkechjkllgaaSxB
import Derived.Test.YtgljkechjkllgaaSxC
import Derived.Test.YtgljkechjkllgaaSxD
import Derived.Test.YtgljkechjkllgaaSxE
