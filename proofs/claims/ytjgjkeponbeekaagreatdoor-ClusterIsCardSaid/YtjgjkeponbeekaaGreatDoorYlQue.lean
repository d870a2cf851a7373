import Derived.Test.YtjgjkeponbeekaaGreatDoorKl9
set_option linter.all false
namespace Go.au
open Go
