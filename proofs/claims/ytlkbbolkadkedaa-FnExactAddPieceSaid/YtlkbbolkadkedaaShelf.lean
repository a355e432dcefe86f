import Derived.Shelf.Sort.Plain
import Derived.Ground.Names2Prog
import Derived.Shelf.Slices.CompactI
import Derived.Shelf.Slices.In.SortNone
import Derived.Test.YtlkbbolkadkedaaProg
namespace Go.Proofs
open Go.Shelf
end Go.Proofs
