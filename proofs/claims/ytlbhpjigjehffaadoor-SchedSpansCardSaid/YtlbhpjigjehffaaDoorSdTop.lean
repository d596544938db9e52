/- The law of spans and its arguments. -/
import Derived.Test.YtlbhpjigjehffaaDoorSdW13
import Derived.Test.YtlbhpjigjehffaaDoorSdOpen
