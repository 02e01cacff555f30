/- The contracts that are used. -/
import Derived.Test.YtbpilohnhhbbpaaGreatDoorL2Al
import Derived.Test.YtbpilohnhhbbpaaGreatDoorL2Cfg
import Derived.Test.YtbpilohnhhbbpaaGreatDoorPuAlt
namespace Go.Sx.L2
set_option maxRecDepth 100000
abbrev alCfg (P_ : Program) : Cfg := withC (withA (withA (cfgB P_) f_plain_New [aN1, aN2, aN3, aN4, aN5, aN6, aN7, aN8]) f_plain_Kernel_Do [aA1_0, aF1, aB1, aD1_0, aR1_0, aA2_0, aA2_1, aF2, aB2, aD2_0, aR2_0, aD2_1, aR2_1, aA3_0, aA3_1, aA3_2, aF3, aB3, aD3_0, aR3_0, aD3_1, aR3_1, aD3_2, aR3_2, aA4_0, aA4_1, aA4_2, aA4_3, aF4, aB4, aD4_0, aR4_0, aD4_1, aR4_1, aD4_2, aR4_2, aD4_3, aR4_3, aA5_0, aA5_1, aA5_2, aA5_3, aA5_4, aF5, aB5, aD5_0, aR5_0, aD5_1, aR5_1, aD5_2, aR5_2, aD5_3, aR5_3, aD5_4, aR5_4, aA6_0, aA6_1, aA6_2, aA6_3, aA6_4, aA6_5, aF6, aB6, aD6_0, aR6_0, aD6_1, aR6_1, aD6_2, aR6_2, aD6_3, aR6_3, aD6_4, aR6_4, aD6_5, aR6_5, aA7_0, aA7_1, aA7_2, aA7_3, aA7_4, aA7_5, aA7_6, aF7, aB7, aD7_0, aR7_0, aD7_1, aR7_1, aD7_2, aR7_2, aD7_3, aR7_3, aD7_4, aR7_4, aD7_5, aR7_5, aD7_6, aR7_6, aA8_0, aA8_1, aA8_2, aA8_3, aA8_4, aA8_5, aA8_6, aA8_7, aF8, aB8, aD8_0, aR8_0, aD8_1, aR8_1, aD8_2, aR8_2, aD8_3, aR8_3, aD8_4, aR8_4, aD8_5, aR8_5, aD8_6, aR8_6, aD8_7, aR8_7])
end Go.Sx.L2
