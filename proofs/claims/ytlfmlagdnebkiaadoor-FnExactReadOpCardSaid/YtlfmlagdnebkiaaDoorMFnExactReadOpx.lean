/- Laid by a program of this session out of the kit's print for the law FnExactReadOp: what it says of the machine is proved here, function by function; each contract under the conditions that it names. -/
import Derived.Test.YtlfmlagdnebkiaaDoorMFnExactReadOpx0
import Derived.Test.YtlfmlagdnebkiaaDoorMFnExactReadOpx1
import Derived.Test.YtlfmlagdnebkiaaDoorMFnExactReadOpx2
import Derived.Test.YtlfmlagdnebkiaaDoorMFnExactReadOpx3
import Derived.Test.YtlfmlagdnebkiaaDoorMFnExactReadOpx4
import Derived.Test.YtlfmlagdnebkiaaDoorMFnExactReadOpx5
import Derived.Test.YtlfmlagdnebkiaaDoorMFnExactReadOpx6
import Derived.Test.YtlfmlagdnebkiaaDoorMFnExactReadOpx7
import Derived.Test.YtlfmlagdnebkiaaDoorMFnExactReadOpx8
import Derived.Test.YtlfmlagdnebkiaaDoorMFnExactReadOpx9
import Derived.Test.YtlfmlagdnebkiaaDoorMFnExactReadOpx10
