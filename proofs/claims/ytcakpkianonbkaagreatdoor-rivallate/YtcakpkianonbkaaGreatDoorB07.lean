/- Lemmas. No conditions. -/
import Derived.Test.YtcakpkianonbkaaGreatDoorProg
import Derived.KernelRfl
import Derived.Test.YtcakpkianonbkaaGreatDoorB01
set_option linter.all false
