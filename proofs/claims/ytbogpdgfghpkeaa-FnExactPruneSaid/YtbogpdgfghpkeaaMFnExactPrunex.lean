/- Laid by a program of this session out of the kit's print for the law FnExactPrune: what it says of the machine is proved here, function by function; each contract under the conditions that it names. -/
import Derived.Test.YtbogpdgfghpkeaaMFnExactPrunex0
import Derived.Test.YtbogpdgfghpkeaaMFnExactPrunex1
import Derived.Test.YtbogpdgfghpkeaaMFnExactPrunex2
import Derived.Test.YtbogpdgfghpkeaaMFnExactPrunex3
import Derived.Test.YtbogpdgfghpkeaaMFnExactPrunex4
import Derived.Test.YtbogpdgfghpkeaaMFnExactPrunex5
import Derived.Test.YtbogpdgfghpkeaaMFnExactPrunex6
