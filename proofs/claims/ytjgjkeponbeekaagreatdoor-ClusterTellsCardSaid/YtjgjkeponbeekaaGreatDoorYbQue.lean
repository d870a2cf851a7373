import Derived.Test.YtjgjkeponbeekaaGreatDoorKb9
set_option linter.all false
namespace Go.ar
open Go
