/- Laid by a program of this session out of the kit's print for the law FnExactPatch: what it says of the machine is proved here, function by function; each contract under the conditions that it names. -/
import Derived.Test.YtbiffnahknkoiaaMFnExactPatchx0
import Derived.Test.YtbiffnahknkoiaaMFnExactPatchx1
import Derived.Test.YtbiffnahknkoiaaMFnExactPatchx2
import Derived.Test.YtbiffnahknkoiaaMFnExactPatchx3
import Derived.Test.YtbiffnahknkoiaaMFnExactPatchx4
import Derived.Test.YtbiffnahknkoiaaMFnExactPatchx5
import Derived.Test.YtbiffnahknkoiaaMFnExactPatchx6
import Derived.Test.YtbiffnahknkoiaaMFnExactPatchx7
import Derived.Test.YtbiffnahknkoiaaMFnExactPatchx8
import Derived.Test.YtbiffnahknkoiaaMFnExactPatchx9
import Derived.Test.YtbiffnahknkoiaaMFnExactPatchx10
import Derived.Test.YtbiffnahknkoiaaMFnExactPatchx11
import Derived.Test.YtbiffnahknkoiaaMFnExactPatchx12
import Derived.Test.YtbiffnahknkoiaaMFnExactPatchx13
import Derived.Test.YtbiffnahknkoiaaMFnExactPatchx14
import Derived.Test.YtbiffnahknkoiaaMFnExactPatchx15
import Derived.Test.YtbiffnahknkoiaaMFnExactPatchx16
