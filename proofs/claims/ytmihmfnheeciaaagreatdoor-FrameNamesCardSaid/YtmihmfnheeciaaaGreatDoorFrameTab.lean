/- Two tables of the program, as a row reads them. No condition. -/
import Derived.Test.YtmihmfnheeciaaaGreatDoorFrameTold
open Go Go.Ev
namespace FrameTold
def pow10L : List Int := [1, 10, 100, 1000, 10000, 100000, 1000000, 10000000, 100000000, 1000000000, 10000000000, 100000000000, 1000000000000, 10000000000000, 100000000000000, 1000000000000000, 10000000000000000, 100000000000000000, 1000000000000000000, 10000000000000000000]
def pow10 : List Sh := pow10L.map fun z => .c (.int .u64 z)
def barredLL : List (List Int) := [[58, 64], [91, 96]]
def barred : List Sh := barredLL.flatten.map fun z => .c (.int .i64 z)
end FrameTold
