/-
  The law FnRunAtMore answers true for every argument that fits: the plain law, under the name that the printed row wants. No condition beyond that numbers are of their kind and lengths within a slice's.
-/
import Derived.Test.YtkifijclehgiaaaFnRunAtMoreA
namespace Go.Proofs.Ytkifijclehgiaaa.Pure
theorem FnRunAtMore : PFnRunAtMore.laws_FnRunAtMore.Pure := PFnRunAtMore.law
end Go.Proofs.Ytkifijclehgiaaa.Pure
