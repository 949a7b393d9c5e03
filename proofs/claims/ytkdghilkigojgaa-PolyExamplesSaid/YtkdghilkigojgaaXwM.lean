/- merged by mg.py: XlM XvM -/
import Derived.Test.YtkdghilkigojgaaXpM
import Derived.Test.YtkdghilkigojgaaPl4M
section

end
section

end
