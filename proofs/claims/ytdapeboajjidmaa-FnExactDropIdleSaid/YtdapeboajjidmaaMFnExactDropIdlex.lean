/- Laid by a program of this session out of the kit's print for the law FnExactDropIdle: what it says of the machine is proved here, function by function; each contract under the conditions that it names. -/
import Derived.Test.YtdapeboajjidmaaMFnExactDropIdlex0
import Derived.Test.YtdapeboajjidmaaMFnExactDropIdlex1
import Derived.Test.YtdapeboajjidmaaMFnExactDropIdlex2
import Derived.Test.YtdapeboajjidmaaMFnExactDropIdlex3
import Derived.Test.YtdapeboajjidmaaMFnExactDropIdlex4
import Derived.Test.YtdapeboajjidmaaMFnExactDropIdlex5
import Derived.Test.YtdapeboajjidmaaMFnExactDropIdlex6
import Derived.Test.YtdapeboajjidmaaMFnExactDropIdlex7
import Derived.Test.YtdapeboajjidmaaMFnExactDropIdlex8
import Derived.Test.YtdapeboajjidmaaMFnExactDropIdlex9
import Derived.Test.YtdapeboajjidmaaMFnExactDropIdlex10
import Derived.Test.YtdapeboajjidmaaMFnExactDropIdlex11
import Derived.Test.YtdapeboajjidmaaMFnExactDropIdlex12
import Derived.Test.YtdapeboajjidmaaMFnExactDropIdlex13
import Derived.Test.YtdapeboajjidmaaMFnExactDropIdlex14
