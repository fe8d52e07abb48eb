/-
  HOW AN ARGUMENT THAT CAN BE READ AS DATA READS AS A VALUE OF A KIND (the print's kinds), whatever its type: whole numbers, bools, slices, structs, nested; with its numbers in range, and its bulk.
-/
import Derived.Test.YtpeacoppclmmlaaRows
import Derived.Test.YtpeacoppclmmlaaDWWords
import Derived.Deep.Slices
import Derived.ChangeArms
import Derived.Deep.Fields
namespace Go.Proofs.Ytpeacoppclmmlaa.Open
open Go.RowKit Go.Proofs.YtpeacoppclmmlaaW.PrintWords Go.Deep

/-! ### structs: field by field, the fields' kinds in line -/
end Go.Proofs.Ytpeacoppclmmlaa.Open
