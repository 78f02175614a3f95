/- Laid by a program of this session out of the kit's print for the law FnShapes: what it says of the machine is proved here, function by function; each contract under the conditions that it names. -/
import Derived.Test.YtbogpdgfghpkeaaMFnShapesx0
import Derived.Test.YtbogpdgfghpkeaaMFnShapesx1
import Derived.Test.YtbogpdgfghpkeaaMFnShapesx2
import Derived.Test.YtbogpdgfghpkeaaMFnShapesx3
import Derived.Test.YtbogpdgfghpkeaaMFnShapesx4
