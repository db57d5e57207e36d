/- Laws of the library that hand contracts lean on, under one name. -/
import Derived.Lib.SliceRun
namespace Go.Proofs.Ytajcopcmahidhaa.C
end Go.Proofs.Ytajcopcmahidhaa.C
