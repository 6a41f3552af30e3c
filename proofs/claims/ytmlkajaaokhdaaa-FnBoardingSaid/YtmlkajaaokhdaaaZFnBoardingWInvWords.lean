-- PRINTED BY print.sh 35421559b90ae4d0a3588c463048766b98c2df88dd9212a6774a882060cdf62d: not written by this session
import Derived.Test.YtmlkajaaokhdaaaZFnBoardingWInv
import Derived.Test.YtmlkajaaokhdaaaZFnBoardingWFootNe
namespace Go.Proofs.YtmlkajaaokhdaaaW.PrintWords
open Go.RowKit
end Go.Proofs.YtmlkajaaokhdaaaW.PrintWords
namespace Go.Proofs.YtmlkajaaokhdaaaW.PrintLast
section
variable {ops : Array Oper} {a : Act} {o og : Oper} {g : Nat} {t : Tmp} {u : Bool}
/-- An operand out of its slot. -/
theorem eval_of {v : Value} (h : a.tmps[t]? = some v) : a.eval (.tmp t) = v := by simp [Act.eval, h]
end
end Go.Proofs.YtmlkajaaokhdaaaW.PrintLast
