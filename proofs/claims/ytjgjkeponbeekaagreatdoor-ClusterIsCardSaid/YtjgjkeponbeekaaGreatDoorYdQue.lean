import Derived.Test.YtjgjkeponbeekaaGreatDoorKd9
set_option linter.all false
namespace Go.ar
open Go
