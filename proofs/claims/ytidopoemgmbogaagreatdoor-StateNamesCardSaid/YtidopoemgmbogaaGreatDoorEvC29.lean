/- Calls that are reckoned, each by the kernel. -/
import Derived.Test.YtidopoemgmbogaaGreatDoorEvB0
import Derived.Test.YtidopoemgmbogaaGreatDoorEvB1
import Derived.Test.YtidopoemgmbogaaGreatDoorEvC2
import Derived.Test.YtidopoemgmbogaaGreatDoorEvC18
import Derived.Test.YtidopoemgmbogaaGreatDoorEvC20
import Derived.Test.YtidopoemgmbogaaGreatDoorEvC23
import Derived.Test.YtidopoemgmbogaaGreatDoorEvC24
import Derived.Test.YtidopoemgmbogaaGreatDoorEvC27
import Derived.Test.YtidopoemgmbogaaGreatDoorEvC28
import Derived.KernelRfl
namespace Go.Proofs.YtidopoemgmbogaaGreatDoor
open Go.Mt
set_option maxRecDepth 100000
theorem g49 : AllOk Tryz.prog Sp [m304, m47, m56, m93, m266, m209, m330] := by
  have o304 : MemoOk Tryz.prog Sp m304 := memoOk (M := [m303, m296, m284, m292]) ⟨g48.2.2.2.2.2.2.1, g28.2.2.1, g5.2.2.1, g32.2.1, trivial⟩ m304 1 (by kernel_rfl) (by kernel_rfl)
  have o47 : MemoOk Tryz.prog Sp m47 := memoOk (M := [m46, m20]) ⟨g48.2.2.2.2.2.2.2.2.2.1, g45.2.2.2.2.2.2.2.2.2.2.2.2.1, trivial⟩ m47 1 (by kernel_rfl) (by kernel_rfl)
  have o56 : MemoOk Tryz.prog Sp m56 := memoOk (M := [m55, m20]) ⟨g48.2.2.2.2.2.2.2.2.2.2.1, g45.2.2.2.2.2.2.2.2.2.2.2.2.1, trivial⟩ m56 1 (by kernel_rfl) (by kernel_rfl)
  have o93 : MemoOk Tryz.prog Sp m93 := memoOk (M := [m92, m69]) ⟨g48.2.2.2.2.2.2.2.2.2.2.2.1, g46.1, trivial⟩ m93 1 (by kernel_rfl) (by kernel_rfl)
  have o266 : MemoOk Tryz.prog Sp m266 := memoOk (M := [m265, m237]) ⟨g48.2.2.2.2.2.2.2.2.2.2.2.2.1, g46.2.1, trivial⟩ m266 1 (by kernel_rfl) (by kernel_rfl)
  have o209 : MemoOk Tryz.prog Sp m209 := memoOk (M := [m208, m205, m201, m197, m192, m184, m176, m165, m153, m149, m145, m136, m126, m118, m105, m101]) ⟨g46.2.2.2.2.2.2.1, g46.2.2.2.2.2.1, g38.2.2.2.2.2.2.2.2.2.2.2.2.1, g38.2.2.2.2.2.2.2.2.2.2.2.1, g47.2.2.2.2.2.2.2.2.2.2.2.2.2.2.1, g47.2.2.2.2.2.2.2.2.2.2.2.2.2.1, g48.2.2.2.2.2.2.2.2.2.2.2.2.2.2.1, g48.2.2.2.2.2.2.2.2.2.2.2.2.2.1, g38.2.2.2.2.2.2.2.2.2.2.1, g38.2.2.2.2.2.2.2.2.2.1, g39.2.2.2.2.2.2.2.1, g39.2.2.2.2.2.2.1, g46.2.2.2.2.1, g46.2.2.2.1, g38.2.2.2.2.2.2.2.2.1, g38.2.2.2.2.2.2.2.1, trivial⟩ m209 1 (by kernel_rfl) (by kernel_rfl)
  have o330 : MemoOk Tryz.prog Sp m330 := memoOk (M := [m329, m326, m323, m321, m317, m308, m304, m294, m290, m287, m283, m277, m272]) ⟨g46.2.2.2.2.2.2.2.2.2.2.2.1, g46.2.2.2.2.2.2.2.2.2.2.1, g39.2.2.2.2.1, g39.2.2.2.1, g47.2.2.2.2.2.2.2.2.2.2.2.2.2.2.2.1, g46.2.2.2.2.2.2.2.2.2.1, o304, g39.2.2.1, g39.2.2.2.2.2.2.2.2.1, g46.2.2.2.2.2.2.2.2.1, g46.2.2.2.2.2.2.2.1, g39.2.1, g39.1, trivial⟩ m330 1 (by kernel_rfl) (by kernel_rfl)
  exact ⟨o304, o47, o56, o93, o266, o209, o330, trivial⟩
end Go.Proofs.YtidopoemgmbogaaGreatDoor
