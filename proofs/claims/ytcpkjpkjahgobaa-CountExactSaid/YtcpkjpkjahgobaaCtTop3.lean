/- What the last text of the exact count leans on. -/
import Derived.Test.YtcpkjpkjahgobaaCtW20
import Derived.Test.YtcpkjpkjahgobaaCtOpen
