/- Laid by a program of this session out of the kit's print for the law FnExactDomRelabel: what it says of the machine is proved here, function by function; each contract under the conditions that it names. -/
import Derived.Test.YtmbhlfcpdbbogabMFnExactDomRelabelx0
import Derived.Test.YtmbhlfcpdbbogabMFnExactDomRelabelx1
import Derived.Test.YtmbhlfcpdbbogabMFnExactDomRelabelx2
import Derived.Test.YtmbhlfcpdbbogabMFnExactDomRelabelx3
import Derived.Test.YtmbhlfcpdbbogabMFnExactDomRelabelx4
import Derived.Test.YtmbhlfcpdbbogabMFnExactDomRelabelx5
import Derived.Test.YtmbhlfcpdbbogabMFnExactDomRelabelx6
import Derived.Test.YtmbhlfcpdbbogabMFnExactDomRelabelx7
import Derived.Test.YtmbhlfcpdbbogabMFnExactDomRelabelx8
import Derived.Test.YtmbhlfcpdbbogabMFnExactDomRelabelx9
import Derived.Test.YtmbhlfcpdbbogabMFnExactDomRelabelx10
import Derived.Test.YtmbhlfcpdbbogabMFnExactDomRelabelx11
