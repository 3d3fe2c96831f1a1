/-
  The law FnRunOk answers true for every argument that fits: the plain law, under the name that the printed row wants. No condition beyond that numbers are of their kind and lengths within a slice's.
-/
import Derived.Test.YtkifijclehgiaaaFnRunOkA
namespace Go.Proofs.Ytkifijclehgiaaa.Pure
theorem FnRunOk : PFnRunOk.laws_FnRunOk.Pure := PFnRunOk.law
end Go.Proofs.Ytkifijclehgiaaa.Pure
