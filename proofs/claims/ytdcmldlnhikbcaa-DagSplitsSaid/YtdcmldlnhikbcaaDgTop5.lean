/- What the last text of splitting leans on. -/
import Derived.Test.YtdcmldlnhikbcaaDgW14
import Derived.Test.YtdcmldlnhikbcaaDgOpen
