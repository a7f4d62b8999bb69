/- LexFirst: for every text, the text ahead of the byte that is wrong is a source without an error, and the text from this byte on, by itself, is wrong at its first byte. No condition. -/
import Derived.Test.YtafofcenphopbaaDoorR2
import Derived.Test.YtafofcenphopbaaDoorW1
namespace Go.Proofs.YtafofcenphopbaaDoor
theorem LexFirst_holds : Rows.LexFirstCardSaid := LexFirst_card fun s w hs hm => LexFirst_walk s w hs hm
#print axioms LexFirst_holds
end Go.Proofs.YtafofcenphopbaaDoor
