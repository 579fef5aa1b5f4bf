/- The listed variables whose text is run. Conditions: none. -/
import Derived.Test.YtjdaalpcehnlbaaGreatDoorRows
import Derived.LaidByTextLater
namespace Go.Proofs.YtjdaalpcehnlbaaGreatDoor
open Go
abbrev laidTie : List (String × DataW Unit) := [("unicode/utf8.acceptRanges", Rows.laid_unicode_utf8_acceptRanges), ("bytes.ErrTooLarge", Rows.laid_bytes_ErrTooLarge)]
end Go.Proofs.YtjdaalpcehnlbaaGreatDoor
