/- valiselaw20's example comes to true, in every world; no condition. -/
import Derived.Test.YtcjhklflgdeckaaGreatE4
import Derived.Test.YtcjhklflgdeckaaGreatTab
namespace Go.Proofs.YtcjhklflgdeckaaGreat
open Go.E
noncomputable def TQ : Tab := qT Tryz.prog qtab
set_option maxRecDepth 100000 in
theorem TQ_ok : TabOk Tryz.prog TQ := qT_ok (by kernel_rfl)
set_option maxRecDepth 100000 in
theorem lives_run : (evF TQ 2000).call 11 [] AHeap.empty isTrue = true := by kernel_rfl
theorem lives_good (w : World) : Tru Tryz.prog 11 #[] w := tru_of_fast TQ_ok 2000 (Rel.start _ w) (LRel.nil _) lives_run
end Go.Proofs.YtcjhklflgdeckaaGreat
