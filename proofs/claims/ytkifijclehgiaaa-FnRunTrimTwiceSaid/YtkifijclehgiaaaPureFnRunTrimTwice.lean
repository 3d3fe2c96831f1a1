/-
  The law FnRunTrimTwice answers true for every argument that fits: the plain law, under the name that the printed row wants. No condition beyond that numbers are of their kind and lengths within a slice's.
-/
import Derived.Test.YtkifijclehgiaaaFnRunTrimTwiceA
namespace Go.Proofs.Ytkifijclehgiaaa.Pure
theorem FnRunTrimTwice : PFnRunTrimTwice.laws_FnRunTrimTwice.Pure := PFnRunTrimTwice.law
end Go.Proofs.Ytkifijclehgiaaa.Pure
