/- What the last texts of chapter 55 lean on. -/
import Derived.Test.YtlfnljpnoololaaDdW7
import Derived.Test.YtlfnljpnoololaaDdOpen
