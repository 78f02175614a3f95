/- Laid by a program of this session out of the kit's print for the law FnExactInvert: what it says of the machine is proved here, function by function; each contract under the conditions that it names. -/
import Derived.Test.YtdapeboajjidmaaMFnExactInvertx0
import Derived.Test.YtdapeboajjidmaaMFnExactInvertx1
import Derived.Test.YtdapeboajjidmaaMFnExactInvertx2
import Derived.Test.YtdapeboajjidmaaMFnExactInvertx3
import Derived.Test.YtdapeboajjidmaaMFnExactInvertx4
import Derived.Test.YtdapeboajjidmaaMFnExactInvertx5
import Derived.Test.YtdapeboajjidmaaMFnExactInvertx6
import Derived.Test.YtdapeboajjidmaaMFnExactInvertx7
import Derived.Test.YtdapeboajjidmaaMFnExactInvertx8
import Derived.Test.YtdapeboajjidmaaMFnExactInvertx9
import Derived.Test.YtdapeboajjidmaaMFnExactInvertx10
import Derived.Test.YtdapeboajjidmaaMFnExactInvertx11
import Derived.Test.YtdapeboajjidmaaMFnExactInvertx12
import Derived.Test.YtdapeboajjidmaaMFnExactInvertx13
import Derived.Test.YtdapeboajjidmaaMFnExactInvertx14
import Derived.Test.YtdapeboajjidmaaMFnExactInvertx15
