import Derived.Test.YtjgjkeponbeekaaGreatDoorKi9
set_option linter.all false
namespace Go.au
open Go
