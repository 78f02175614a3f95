/- Laid by a program of this session out of the kit's print for the law FnPaths: what it says of the machine is proved here, function by function; each contract under the conditions that it names. -/
import Derived.Test.YtmbhlfcpdbbogabMFnPathsx0
import Derived.Test.YtmbhlfcpdbbogabMFnPathsx1
import Derived.Test.YtmbhlfcpdbbogabMFnPathsx2
import Derived.Test.YtmbhlfcpdbbogabMFnPathsx3
import Derived.Test.YtmbhlfcpdbbogabMFnPathsx4
import Derived.Test.YtmbhlfcpdbbogabMFnPathsx5
import Derived.Test.YtmbhlfcpdbbogabMFnPathsx6
import Derived.Test.YtmbhlfcpdbbogabMFnPathsx7
import Derived.Test.YtmbhlfcpdbbogabMFnPathsx8
import Derived.Test.YtmbhlfcpdbbogabMFnPathsx9
import Derived.Test.YtmbhlfcpdbbogabMFnPathsx10
import Derived.Test.YtmbhlfcpdbbogabMFnPathsx11
import Derived.Test.YtmbhlfcpdbbogabMFnPathsx12
import Derived.Test.YtmbhlfcpdbbogabMFnPathsx13
