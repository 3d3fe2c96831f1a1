/-
  The law FnRunListTime answers true for every argument that fits: the plain law, under the name that the printed row wants. No condition beyond that numbers are of their kind and lengths within a slice's.
-/
import Derived.Test.YtkifijclehgiaaaFnRunListTimeA
namespace Go.Proofs.Ytkifijclehgiaaa.Pure
theorem FnRunListTime : PFnRunListTime.laws_FnRunListTime.Pure := PFnRunListTime.law
end Go.Proofs.Ytkifijclehgiaaa.Pure
