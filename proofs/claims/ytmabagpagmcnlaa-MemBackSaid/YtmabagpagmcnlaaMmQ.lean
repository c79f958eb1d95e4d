/- What the laws of memories need of the seat's rows. -/
import Derived.Test.YtmabagpagmcnlaaSyR
import Derived.Lib.SmallJoins
import Derived.Test.YtmabagpagmcnlaaRows
