/- Tables of YtecmokfckbfdjaaGreatDoor: the outermost call returns true. -/
import Derived.Test.YtecmokfckbfdjaaGreatDoorD1
import Derived.Test.YtecmokfckbfdjaaGreatDoorT1
import Derived.Test.YtecmokfckbfdjaaGreatDoorT20
import Derived.Test.YtecmokfckbfdjaaGreatDoorT21
import Derived.Test.YtecmokfckbfdjaaGreatDoorT3
namespace Go.L.Q
open Go Go.Conc Go.L Go.Proofs
set_option linter.all false
set_option maxRecDepth 100000
def rootTab : List TabE := [e131, e395, e394, e350, e328, e307, e306, e305, e293, e282, e240, e219, e218, e217, e216, e215, e214, e213, e212, e211, e210, e209, e208, e207, e206, e205, e204, e1, e203, e202, e179, e178, e167, e165, e163, e162, e151, e145, e134, e133, e132, e0]
theorem root_tab : AllT (C0 prog) prog rootTab := ⟨t131, t395, t394, t350.anti c0_closed, t328.anti c0_closed, t307, t306.anti c0_closed, t305.anti c0_closed, t293.anti c0_closed, t282.anti c0_closed, t240.anti c0_closed, t219, t218, t217, t216, t215, t214, t213, t212, t211, t210, t209, t208, t207, t206, t205, t204, t1.anti c0_closed, t203, t202, t179, t178.anti c0_closed, t167.anti c0_closed, t165.anti c0_closed, t163.anti c0_closed, t162.anti c0_closed, t151.anti c0_closed, t145.anti c0_closed, t134.anti c0_closed, t133.anti c0_closed, t132, t0.anti c0_closed, trivial⟩
theorem root_true : rootB prog (tabG fs rootTab (exT prog fs rootTab)) 100000 3 = true := by kernel_rfl
end Go.L.Q
