/- What the last text of different nodes leans on. -/
import Derived.Test.YtdcmldlnhikbcaaDgW12
import Derived.Test.YtdcmldlnhikbcaaDgOpen
