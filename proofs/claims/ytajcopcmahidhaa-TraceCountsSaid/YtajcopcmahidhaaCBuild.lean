/- Laws of the library on strings.Builder that hand contracts lean on, under one name. -/
import Derived.Shelf.Strings.Builder1
import Derived.Shelf.Strings.BuilderF
import Derived.Shelf.Strings.BuilderK
import Derived.Lib.SliceRun
import Derived.Maps.OwnSet
import Derived.OpenShut
namespace Go.Proofs.Ytajcopcmahidhaa.C
end Go.Proofs.Ytajcopcmahidhaa.C

/- Laws of the library that hand contracts lean on, under one name. -/
namespace Go.Proofs.Ytajcopcmahidhaa.C
end Go.Proofs.Ytajcopcmahidhaa.C

/- What a text about a call's own map imports. -/
namespace Go.Proofs.Ytajcopcmahidhaa.C
end Go.Proofs.Ytajcopcmahidhaa.C
