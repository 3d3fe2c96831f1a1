/-
  The law FnRunList answers true for every argument that fits: the plain law, under the name that the printed row wants. No condition beyond that numbers are of their kind and lengths within a slice's.
-/
import Derived.Test.YtkifijclehgiaaaFnRunListA
namespace Go.Proofs.Ytkifijclehgiaaa.Pure
theorem FnRunList : PFnRunList.laws_FnRunList.Pure := PFnRunList.law
end Go.Proofs.Ytkifijclehgiaaa.Pure
