/-
  The law FnRunJoin answers true for every argument that fits: the plain law, under the name that the printed row wants. No condition beyond that numbers are of their kind and lengths within a slice's.
-/
import Derived.Test.YtkifijclehgiaaaFnRunJoinA
namespace Go.Proofs.Ytkifijclehgiaaa.Pure
theorem FnRunJoin : PFnRunJoin.laws_FnRunJoin.Pure := PFnRunJoin.law
end Go.Proofs.Ytkifijclehgiaaa.Pure
