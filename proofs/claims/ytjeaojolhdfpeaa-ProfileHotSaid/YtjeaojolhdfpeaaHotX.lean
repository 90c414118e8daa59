/- The printed contracts that are used, in one. -/
import Derived.Test.YtjeaojolhdfpeaaPProfileHotx0
import Derived.Test.YtjeaojolhdfpeaaPProfileHotx1
import Derived.Test.YtjeaojolhdfpeaaPProfileHotx2
import Derived.Test.YtjeaojolhdfpeaaPProfileHotx3
import Derived.Test.YtjeaojolhdfpeaaPProfileHotx4
import Derived.Test.YtjeaojolhdfpeaaHotAt
import Derived.Test.YtjeaojolhdfpeaaHotRef
