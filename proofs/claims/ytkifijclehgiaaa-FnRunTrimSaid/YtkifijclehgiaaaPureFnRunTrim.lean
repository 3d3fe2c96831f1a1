/-
  The law FnRunTrim answers true for every argument that fits: the plain law, under the name that the printed row wants. No condition beyond that numbers are of their kind and lengths within a slice's.
-/
import Derived.Test.YtkifijclehgiaaaFnRunTrimA
namespace Go.Proofs.Ytkifijclehgiaaa.Pure
theorem FnRunTrim : PFnRunTrim.laws_FnRunTrim.Pure := PFnRunTrim.law
end Go.Proofs.Ytkifijclehgiaaa.Pure
