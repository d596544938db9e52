/- What the last text of agreement leans on. -/
import Derived.Test.YtdcmldlnhikbcaaDgW13
import Derived.Test.YtdcmldlnhikbcaaDgOpen
