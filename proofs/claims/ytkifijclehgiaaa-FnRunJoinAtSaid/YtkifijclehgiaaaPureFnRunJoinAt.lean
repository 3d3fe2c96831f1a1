/-
  The law FnRunJoinAt answers true for every argument that fits: the plain law, under the name that the printed row wants. No condition beyond that numbers are of their kind and lengths within a slice's.
-/
import Derived.Test.YtkifijclehgiaaaFnRunJoinAtA
namespace Go.Proofs.Ytkifijclehgiaaa.Pure
theorem FnRunJoinAt : PFnRunJoinAt.laws_FnRunJoinAt.Pure := PFnRunJoinAt.law
end Go.Proofs.Ytkifijclehgiaaa.Pure
