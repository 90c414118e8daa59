/- The printed contracts that are used, in one. -/
import Derived.Test.YtjeaojolhdfpeaaPProfileBookx0
import Derived.Test.YtjeaojolhdfpeaaPProfileBookx1
import Derived.Test.YtjeaojolhdfpeaaPProfileBookx2
import Derived.Test.YtjeaojolhdfpeaaPProfileBookx3
import Derived.Test.YtjeaojolhdfpeaaPProfileBookx4
import Derived.Test.YtjeaojolhdfpeaaPProfileBookx5
import Derived.Test.YtjeaojolhdfpeaaPProfileBookx6
import Derived.Test.YtjeaojolhdfpeaaPProfileBookx7
import Derived.Test.YtjeaojolhdfpeaaBookBit
