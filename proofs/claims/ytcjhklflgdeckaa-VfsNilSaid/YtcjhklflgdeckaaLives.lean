/- valiselaw20's example comes to true, in every world; no condition. -/
import Derived.Test.YtcjhklflgdeckaaRows
import Derived.Test.YtcjhklflgdeckaaE2
namespace Go.Proofs.Ytcjhklflgdeckaa
open Go.E
set_option maxRecDepth 100000 in
theorem lives_run : (evN (R := Bool) (tab Try.prog) 1000).call 11 [] ⟨[]⟩ isTrue = true := by kernel_rfl
theorem lives_good (w : World) : Tru Try.prog 11 #[] w := tru_of_run (tab_ok _) 1000 (Rel.start _ w) (LRel.nil _) lives_run
end Go.Proofs.Ytcjhklflgdeckaa
