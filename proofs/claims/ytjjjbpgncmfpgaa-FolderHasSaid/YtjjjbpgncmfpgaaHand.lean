/- Small facts for walks by hand. -/
import Derived.Test.YtjjjbpgncmfpgaaWWords
import Derived.Test.YtjjjbpgncmfpgaaWMore
import Derived.Handy
namespace Go.Proofs.Ytjjjbpgncmfpgaa.Hand
open Go.RowKit Go.Proofs.YtjjjbpgncmfpgaaW.PrintWords Go.Proofs.YtjjjbpgncmfpgaaW.PrintLast Go.Proofs.YtjjjbpgncmfpgaaW.PrintMore
end Go.Proofs.Ytjjjbpgncmfpgaa.Hand
