/- Laid by a program of this session out of the kit's print for the law FnExactJoined: what it says of the machine is proved here, function by function; each contract under the conditions that it names. -/
import Derived.Test.YtdapeboajjidmaaMFnExactJoinedx0
import Derived.Test.YtdapeboajjidmaaMFnExactJoinedx1
import Derived.Test.YtdapeboajjidmaaMFnExactJoinedx2
import Derived.Test.YtdapeboajjidmaaMFnExactJoinedx3
import Derived.Test.YtdapeboajjidmaaMFnExactJoinedx4
