/-
  Products of systems and automata as the reference searches them: plain laws.
-/
import Derived.Test.YtppdfjdfjfoddaaDoorAutH
import Derived.Test.YtppdfjdfjfoddaaDoorDistG
set_option linter.unusedSimpArgs false
set_option linter.unusedVariables false
namespace Go.Proofs.YtppdfjdfjfoddaaDoor
namespace Ev
structure Net where
 ps:List Sys
 us:List Aut
 start:List Int
 ls:Int
 kind:Int
 goal:Int
end Ev
end Go.Proofs.YtppdfjdfjfoddaaDoor
