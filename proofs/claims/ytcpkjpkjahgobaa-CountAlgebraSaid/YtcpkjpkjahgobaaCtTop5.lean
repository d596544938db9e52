/- What the last text of the algebra leans on. -/
import Derived.Test.YtcpkjpkjahgobaaCtW22
import Derived.Test.YtcpkjpkjahgobaaCtOpen
