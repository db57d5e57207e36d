/- Laws of the library that hand contracts lean on, under one name. -/
import Derived.Lib.SliceRun
namespace Go.Proofs.Ytkgjpelddncfdaa.C
end Go.Proofs.Ytkgjpelddncfdaa.C
