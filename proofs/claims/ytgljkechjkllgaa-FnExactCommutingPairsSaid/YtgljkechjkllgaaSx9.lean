/- Sx9: all rules. -/
import Derived.Test.YtgljkechjkllgaaSx8
