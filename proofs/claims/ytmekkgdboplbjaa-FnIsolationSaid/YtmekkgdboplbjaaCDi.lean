/- Definitions and their laws. No condition. -/
import Derived.Test.YtmekkgdboplbjaaCDa
set_option linter.unusedVariables false
set_option linter.unusedSimpArgs false
namespace Go.Proofs.Ytmekkgdboplbjaa
open Go Go.RowKit M
set_option maxRecDepth 10000
def q0_ : Query := ⟨0, 0, [], []⟩
def okOrder (o : List Int) : Bool := decide (o.length = 3) && (hasI o 0 && (hasI o 1 && hasI o 2))
def ordTo (o : List Int) (k : Nat) : Bool := (List.range k).all fun i => inB (o.getD i 0) 0 2 && !hasI (o.take i) (o.getD i 0)
end Go.Proofs.Ytmekkgdboplbjaa
