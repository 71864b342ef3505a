/- The printed path.Join, path.Split, slices.Equal of this seat. -/
import Derived.Test.YtgijjkdcidhmdaaGreatDoorQ3
