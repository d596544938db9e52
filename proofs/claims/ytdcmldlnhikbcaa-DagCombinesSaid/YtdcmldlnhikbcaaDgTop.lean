/- What the last texts of chapter 15 lean on. -/
import Derived.Test.YtdcmldlnhikbcaaDgW6
import Derived.Test.YtdcmldlnhikbcaaDgOpen
