/-
Small words of this proof: a world that is as it was below a block, cells behind a call, results that lie in memory, regions that draw their order.
-/
import Derived.Test.YtfneopcbnlfkiaaKinds
import Derived.Test.YtfneopcbnlfkiaaWTab
namespace Go.Proofs.Ytfneopcbnlfkiaa.Base
open Go.RowKit Go.Proofs.YtfneopcbnlfkiaaW.PrintWords Go.Proofs.YtfneopcbnlfkiaaW.PrintLast Go.Proofs.Ytfneopcbnlfkiaa.Kin
set_option linter.unusedVariables false
theorem cellB {W w1 : World} {b o : Nat} {v : Option Value} (hb : Below W.heap.size W w1) (h : b < W.heap.size) (c : W.cell? ⟨b, o, none⟩ = v) : w1.cell? ⟨b, o, none⟩ = v := (hb.cell (p := ⟨b, o, none⟩) h).trans c
theorem frozB {W w1 : World} {b o : Nat} {v : Bool} (hb : Below W.heap.size W w1) (h : b < W.heap.size) (c : W.frozen? ⟨b, o, none⟩ = v) : w1.frozen? ⟨b, o, none⟩ = v := (hb.frozen (p := ⟨b, o, none⟩) h).trans c
section
variable {P : Program} {ops : Array Oper} {Q : Exit → Act → World → Prop} {S : World → Prop} {ds : List Nat}
/-- A region that draws its order, begun: of the world S alone is known. -/
theorem startG {id n : Nat} {a : Act} {w : World} (l : Array Bool) (hm : P.follows .mixedOrders = true) (hn : ops.size = n) (hl : Array.replicate n false = l) (hS : S w.drew)
    (h : ∀ wr, S wr → wpAnyLast P .any ops Q S ds n l a wr) : (Code.region id ops true).wp P Q a w := start_ l hm hn hl hS (h _)
end
end Go.Proofs.Ytfneopcbnlfkiaa.Base
