/- What the last text of products leans on. -/
import Derived.Test.YtcpkjpkjahgobaaCtW21
import Derived.Test.YtcpkjpkjahgobaaCtOpen
