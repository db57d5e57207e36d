/- Laws of the library that hand contracts lean on, under one name. -/
import Derived.Lib.SliceRun
namespace Go.Proofs.Ytbhccjoodlldbaa.C
end Go.Proofs.Ytbhccjoodlldbaa.C
