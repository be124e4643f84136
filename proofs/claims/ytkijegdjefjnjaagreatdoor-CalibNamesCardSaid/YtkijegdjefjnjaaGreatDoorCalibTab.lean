/- A table of the program, as a row reads it. No condition. -/
import Derived.Test.YtkijegdjefjnjaaGreatDoorCalibTold
open Go Go.Ev
namespace CalibTold
def pow10L : List Int := [1, 10, 100, 1000, 10000, 100000, 1000000, 10000000, 100000000, 1000000000, 10000000000, 100000000000, 1000000000000, 10000000000000, 100000000000000, 1000000000000000, 10000000000000000, 100000000000000000, 1000000000000000000, 10000000000000000000]
def pow10 : List Sh := pow10L.map fun z => .c (.int .u64 z)
end CalibTold
