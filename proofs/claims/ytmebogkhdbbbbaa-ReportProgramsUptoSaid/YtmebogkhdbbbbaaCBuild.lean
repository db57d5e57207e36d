/- Laws of the library on strings.Builder that hand contracts lean on, under one name. -/
import Derived.Shelf.Strings.Builder1
import Derived.Shelf.Strings.BuilderF
import Derived.Shelf.Strings.BuilderK
namespace Go.Proofs.Ytmebogkhdbbbbaa.C
end Go.Proofs.Ytmebogkhdbbbbaa.C
