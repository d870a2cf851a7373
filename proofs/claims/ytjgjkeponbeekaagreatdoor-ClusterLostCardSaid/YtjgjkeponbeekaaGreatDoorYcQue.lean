import Derived.Test.YtjgjkeponbeekaaGreatDoorKc9
set_option linter.all false
namespace Go.aq
open Go
