/-
  The law FnRunTrimTop answers true for every argument that fits: the plain law, under the name that the printed row wants. No condition beyond that numbers are of their kind and lengths within a slice's.
-/
import Derived.Test.YtkifijclehgiaaaFnRunTrimTopA
namespace Go.Proofs.Ytkifijclehgiaaa.Pure
theorem FnRunTrimTop : PFnRunTrimTop.laws_FnRunTrimTop.Pure := PFnRunTrimTop.law
end Go.Proofs.Ytkifijclehgiaaa.Pure
