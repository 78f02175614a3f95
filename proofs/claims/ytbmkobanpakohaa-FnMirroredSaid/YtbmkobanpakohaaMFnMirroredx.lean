/- Laid by a program of this session out of the kit's print for the law FnMirrored: what it says of the machine is proved here, function by function; each contract under the conditions that it names. -/
import Derived.Test.YtbmkobanpakohaaMFnMirroredx0
import Derived.Test.YtbmkobanpakohaaMFnMirroredx1
import Derived.Test.YtbmkobanpakohaaMFnMirroredx2
import Derived.Test.YtbmkobanpakohaaMFnMirroredx3
import Derived.Test.YtbmkobanpakohaaMFnMirroredx4
import Derived.Test.YtbmkobanpakohaaMFnMirroredx5
import Derived.Test.YtbmkobanpakohaaMFnMirroredx6
import Derived.Test.YtbmkobanpakohaaMFnMirroredx7
import Derived.Test.YtbmkobanpakohaaMFnMirroredx8
import Derived.Test.YtbmkobanpakohaaMFnMirroredx9
import Derived.Test.YtbmkobanpakohaaMFnMirroredx10
import Derived.Test.YtbmkobanpakohaaMFnMirroredx11
import Derived.Test.YtbmkobanpakohaaMFnMirroredx12
import Derived.Test.YtbmkobanpakohaaMFnMirroredx13
import Derived.Test.YtbmkobanpakohaaMFnMirroredx14
import Derived.Test.YtbmkobanpakohaaMFnMirroredx15
import Derived.Test.YtbmkobanpakohaaMFnMirroredx16
