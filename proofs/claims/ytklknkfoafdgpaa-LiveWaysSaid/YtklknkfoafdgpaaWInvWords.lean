-- printed by print.sh 35421559b90ae4d0a3588c463048766b98c2df88dd9212a6774a882060cdf62d, cut by a program to what the claim asks for
import Derived.Test.YtklknkfoafdgpaaWInv
import Derived.Test.YtklknkfoafdgpaaWFootNe
namespace Go.Proofs.YtklknkfoafdgpaaW.PrintWords
open Go.RowKit
end Go.Proofs.YtklknkfoafdgpaaW.PrintWords
namespace Go.Proofs.YtklknkfoafdgpaaW.PrintLast
section
variable {ops : Array Oper} {a : Act} {o og : Oper} {g : Nat} {t : Tmp} {u : Bool}
end
end Go.Proofs.YtklknkfoafdgpaaW.PrintLast
