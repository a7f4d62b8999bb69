/- LexStripped: for every text of at most 2000 bytes, the text and its stripped form have the same tokens but for their places, stripping twice changes nothing more, and the length is as the comments say. No condition. -/
import Derived.Test.YtafofcenphopbaaDoorR4
import Derived.Test.YtafofcenphopbaaDoorW2
namespace Go.Proofs.YtafofcenphopbaaDoor
theorem LexStripped_holds : Rows.LexStrippedCardSaid := LexStripped_card fun s w hs hm => LexStripped_walk s w hs hm
#print axioms LexStripped_holds
end Go.Proofs.YtafofcenphopbaaDoor
