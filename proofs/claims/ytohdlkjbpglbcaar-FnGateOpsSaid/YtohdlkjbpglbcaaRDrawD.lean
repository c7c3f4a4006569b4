/-
  Helper text (no claim of its own): drawn gates, bent. Only that they return, and what their results are made of.
-/
import Derived.Test.YtohdlkjbpglbcaaRDrawC
namespace Go.Proofs.YtohdlkjbpglbcaaR
open Go.ChangeShapes Go.WideShapes Go.ChangeAt Go.RowKit Go.Deep
end Go.Proofs.YtohdlkjbpglbcaaR
