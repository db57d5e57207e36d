/- Laws of the library on regions that append, under one name. -/
import Derived.Deep.RegionLaw
namespace Go.Proofs.Ytbfepcajbbeheaa.C
end Go.Proofs.Ytbfepcajbbeheaa.C
