import Derived.Test.YtkpomgifkloklabGreatDoorKf9
set_option linter.all false
namespace Go.aw
open Go
