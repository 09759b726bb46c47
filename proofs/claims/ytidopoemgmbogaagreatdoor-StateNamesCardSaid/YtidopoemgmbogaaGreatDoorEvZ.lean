/- The law itself, reckoned at the end. -/
import Derived.Test.YtidopoemgmbogaaGreatDoorCdT
import Derived.Test.YtidopoemgmbogaaGreatDoorEvB0
import Derived.Test.YtidopoemgmbogaaGreatDoorEvB1
import Derived.Test.YtidopoemgmbogaaGreatDoorEvC16
import Derived.Test.YtidopoemgmbogaaGreatDoorEvC21
import Derived.Test.YtidopoemgmbogaaGreatDoorEvC23
import Derived.Test.YtidopoemgmbogaaGreatDoorEvC27
import Derived.Test.YtidopoemgmbogaaGreatDoorEvC28
import Derived.Test.YtidopoemgmbogaaGreatDoorEvC29
import Derived.KernelRfl
namespace Go.Proofs.YtidopoemgmbogaaGreatDoor
open Go.Mt
set_option maxRecDepth 100000
theorem root_W : W Tryz.prog Sp (.fn 3 []) (mkAH 5 (tabsPs tabs)) fun a _ => a = .ret (.bool true) ∧ True :=
  root_ok (M := [m465, m457, m402, m379, m373, m372, m370, m365, m347, m338, m330, m270, m266, m228, m220, m216, m209, m96, m93, m61, m56, m47, m11]) gsize ⟨g24.1, g45.2.2.2.2.2.2.2.2.2.2.2.1, g48.2.2.2.2.2.2.2.2.1, g45.2.2.2.2.2.2.2.2.2.2.1, g33.2.2.2.2.1, g23.2.2.2.2.2.2.2.2.2.2.2.2.2.2.1, g33.2.2.2.1, g48.2.2.2.2.2.2.2.1, g45.2.2.2.2.2.2.2.2.2.1, g45.2.2.2.2.2.1, g49.2.2.2.2.2.2.1, g33.2.2.1, g49.2.2.2.2.1, g38.2.2.2.2.1, g45.2.2.2.2.2.2.2.2.1, g45.2.2.2.2.2.2.2.1, g49.2.2.2.2.2.1, g45.2.2.2.2.2.2.1, g49.2.2.2.1, g38.2.2.2.1, g49.2.2.1, g49.2.1, g38.2.2.1, trivial⟩ (show isTrue (evF Tryz.prog (cfg [m465, m457, m402, m379, m373, m372, m370, m365, m347, m338, m330, m270, m266, m228, m220, m216, m209, m96, m93, m61, m56, m47, m11]) 5000 (.fn 3 []) (mkAH 5 (tabsPs tabs))) = true by kernel_rfl)
end Go.Proofs.YtidopoemgmbogaaGreatDoor
