/- The law of CommutingPairs tells true: see the imported text. -/
import Derived.Test.YtgljkechjkllgaaPCommutingPairs
