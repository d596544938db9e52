/- What the last texts of counting and weighing lean on. -/
import Derived.Test.YtcpkjpkjahgobaaCtW17
import Derived.Test.YtcpkjpkjahgobaaCtOpen
