/-
  The law FnRunJoinThree answers true for every argument that fits: the plain law, under the name that the printed row wants. No condition beyond that numbers are of their kind and lengths within a slice's.
-/
import Derived.Test.YtkifijclehgiaaaFnRunJoinThreeA
namespace Go.Proofs.Ytkifijclehgiaaa.Pure
theorem FnRunJoinThree : PFnRunJoinThree.laws_FnRunJoinThree.Pure := PFnRunJoinThree.law
end Go.Proofs.Ytkifijclehgiaaa.Pure
