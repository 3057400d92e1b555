/- Own words, part M: ways that meet again. -/
import Derived.Test.YtcchamnagcpaiaaGwL
set_option linter.unusedVariables false
set_option linter.unusedSimpArgs false
namespace Go.GW
open Go

/-- a code that comes to its end, and what stands behind it; slots that stay as they are in Cn -/
theorem ew_joinC {P : Program} {n : Nat} {B : Base} {k : List Kont} {e : Env} {S : Res} {H : Hp} {c : Code} {ι : Type} {Cn : Env} (V : ι → Env) (S' : ι → Res) (G : ι → Hp → Prop) (_hC : Sub e Cn)
    (h1 : EW P n B c (.inv (fun a w => ∃ j, LoopI n B (mkE Cn V) S' G j a w) :: k) e S H) (h2 : ∀ j H', G j H' → NK P n B k (mkE Cn V j) (S' j) H') : EW P n B c k e S H :=
  ew_join (mkE Cn V) S' G h1 h2

end Go.GW
