import Derived.Test.YteioboechlnogaaGT
import Derived.Test.YteioboechlnogaaGR
import Derived.Test.YteioboechlnogaaGRt
import Derived.Test.YteioboechlnogaaGP
import Derived.Test.YteioboechlnogaaGN
import Derived.Test.YteioboechlnogaaGX
import Derived.Test.YteioboechlnogaaGC
