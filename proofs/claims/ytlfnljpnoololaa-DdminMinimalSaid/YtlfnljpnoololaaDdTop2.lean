/- What the last text of the minimal sets leans on. -/
import Derived.Test.YtlfnljpnoololaaDdW9
import Derived.Test.YtlfnljpnoololaaDdOpen
