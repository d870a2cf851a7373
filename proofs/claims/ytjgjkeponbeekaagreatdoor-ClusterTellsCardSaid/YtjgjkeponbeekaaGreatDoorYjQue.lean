import Derived.Test.YtjgjkeponbeekaaGreatDoorKj9
set_option linter.all false
namespace Go.aw
open Go
