/-
  The law FnRunAt answers true for every argument that fits: the plain law, under the name that the printed row wants. No condition beyond that numbers are of their kind and lengths within a slice's.
-/
import Derived.Test.YtkifijclehgiaaaFnRunAtA
namespace Go.Proofs.Ytkifijclehgiaaa.Pure
theorem FnRunAt : PFnRunAt.laws_FnRunAt.Pure := PFnRunAt.law
end Go.Proofs.Ytkifijclehgiaaa.Pure
