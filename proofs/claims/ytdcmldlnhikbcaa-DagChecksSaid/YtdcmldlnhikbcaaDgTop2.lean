/- What the last texts of chapter 15's checks and fixes lean on. -/
import Derived.Test.YtdcmldlnhikbcaaDgW11
import Derived.Test.YtdcmldlnhikbcaaDgOpen
