/-
  The law FnRunListCut answers true for every argument that fits: the plain law, under the name that the printed row wants. No condition beyond that numbers are of their kind and lengths within a slice's.
-/
import Derived.Test.YtkifijclehgiaaaFnRunListCutA
namespace Go.Proofs.Ytkifijclehgiaaa.Pure
theorem FnRunListCut : PFnRunListCut.laws_FnRunListCut.Pure := PFnRunListCut.law
end Go.Proofs.Ytkifijclehgiaaa.Pure
