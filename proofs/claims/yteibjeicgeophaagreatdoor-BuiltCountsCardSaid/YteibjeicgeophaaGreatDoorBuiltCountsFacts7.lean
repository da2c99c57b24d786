/- Nothing: the fact of this text lies in Facts2. -/
import Derived.Test.YteibjeicgeophaaGreatDoorBuiltCountsFacts2
