/- What the last text of finding leans on. -/
import Derived.Test.YtcpkjpkjahgobaaCtW19
import Derived.Test.YtcpkjpkjahgobaaCtOpen
