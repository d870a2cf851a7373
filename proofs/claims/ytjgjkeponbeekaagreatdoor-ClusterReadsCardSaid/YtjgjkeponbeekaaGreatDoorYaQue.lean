import Derived.Test.YtjgjkeponbeekaaGreatDoorKa9
set_option linter.all false
namespace Go.ar
open Go
end Go.ar
