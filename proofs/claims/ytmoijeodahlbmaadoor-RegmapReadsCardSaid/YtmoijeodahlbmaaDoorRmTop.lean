/- The walked laws and the opened arguments. -/
import Derived.Test.YtmoijeodahlbmaaDoorRmW9
import Derived.Test.YtmoijeodahlbmaaDoorRmOpen
