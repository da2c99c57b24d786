/- Nothing: the facts of this text lie in Facts2. -/
import Derived.Test.YteibjeicgeophaaGreatDoorBuiltCountsFacts2
