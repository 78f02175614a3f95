/- Laid by a program of this session out of the kit's print for the law FnExactMirror: what it says of the machine is proved here, function by function; each contract under the conditions that it names. -/
import Derived.Test.YtbogpdgfghpkeaaMFnExactMirrorx0
import Derived.Test.YtbogpdgfghpkeaaMFnExactMirrorx1
import Derived.Test.YtbogpdgfghpkeaaMFnExactMirrorx2
import Derived.Test.YtbogpdgfghpkeaaMFnExactMirrorx3
import Derived.Test.YtbogpdgfghpkeaaMFnExactMirrorx4
import Derived.Test.YtbogpdgfghpkeaaMFnExactMirrorx5
import Derived.Test.YtbogpdgfghpkeaaMFnExactMirrorx6
